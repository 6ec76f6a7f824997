import JvmDerived
import JvmDerived.Pilot.@@N@@Statement
import JvmDerived.Pilot.@@N@@Code
set_option linter.unusedVariables false
set_option linter.unusedSimpArgs false
namespace Jvm.Own
open Jvm Jvm.ClassFile Sem Op Lib Jvm.Free Jvm.Stand Jvm.LawKit Jvm.RoadKit Bundle

/-! A plain machine: the few instructions that these classes use, over a heap of plain lists. -/
/-- an object (class number, fields in order) | an int array (false) or boolean array (true) | a long array -/
abbrev ACell := (Nat × List Value) ⊕ ((Bool × List Int32) ⊕ List Int64)
abbrev AHeap := List ACell
/-- instruction, length, variables forgotten ahead of it, link number, constant -/
abbrev It := Instr × Nat × List Bool × Nat × Int
/-- a field: name, descriptor, type, final -/
abbrev FD := String × String × FieldType × Bool
/-- a class: name, number of its slots, its fields -/
abbrev CD := String × Nat × List FD
/-- a method: name, bytes, variables, return type; kind (0 static, 1 constructor, 2 private, 3 virtual), parameters, class number, frames, words; code -/
abbrev MD := MethodName × ByteArray × Nat × Option FieldType × Nat × Nat × Nat × Nat × Nat × List (Nat × It)
/-- classes, methods, number of cells that are only read -/
abbrev PD := List CD × List MD × Nat
abbrev PD.cls (P : PD) : List CD := P.1
abbrev PD.mth (P : PD) : List MD := P.2.1
abbrev PD.nr (P : PD) : Nat := P.2.2
abbrev MD.name (d : MD) : MethodName := d.1
abbrev MD.bytes (d : MD) : ByteArray := d.2.1
abbrev MD.maxL (d : MD) : Nat := d.2.2.1
abbrev MD.ret (d : MD) : Option FieldType := d.2.2.2.1
abbrev MD.kind (d : MD) : Nat := d.2.2.2.2.1
abbrev MD.npar (d : MD) : Nat := d.2.2.2.2.2.1
abbrev MD.cid (d : MD) : Nat := d.2.2.2.2.2.2.1
abbrev MD.rf (d : MD) : Nat := d.2.2.2.2.2.2.2.1
abbrev MD.rw (d : MD) : Nat := d.2.2.2.2.2.2.2.2.1
abbrev MD.code (d : MD) : List (Nat × It) := d.2.2.2.2.2.2.2.2.2

def rdA {α : Type} (L : List α) (j : Int32) : Option α := if j < 0 then none else L[j.toNatClampNeg]?
def wrA {α : Type} (L : List α) (j : Int32) (x : α) : Option (List α) := if j < 0 then none else if j.toNatClampNeg < L.length then some (L.set j.toNatClampNeg x) else none
def getL (L : List Slot) (k : Nat) : Option Value := match L[k]? with | some (.val v) => some v | _ => none
def isC2 : Option Slot → Bool | some (.val v) => v.category == 2 | _ => false
def isSec : Option Slot → Bool | some .second => true | _ => false
def free1 : Option Slot → Bool | some .unset => true | some (.val v) => v.category == 1 | _ => false
def st1 (L : List Slot) (k : Nat) (v : Value) : Option (List Slot) :=
  if free1 L[k]? && (k == 0 || !isC2 L[k - 1]?) && !isSec L[k + 1]? then some (L.set k (.val v)) else none
def free2 : Option Slot → Option Slot → Bool | some .unset, some .unset => true | some (.val v), some .second => v.category == 2 | _, _ => false
def st2 (L : List Slot) (k : Nat) (v : Value) : Option (List Slot) :=
  if free2 L[k]? L[k + 1]? && (k == 0 || !isC2 L[k - 1]?) && !isSec L[k + 2]? then some ((L.set k (.val v)).set (k + 1) .second) else none
def forget : List Bool → List Slot → List Slot
  | [], L => L
  | _ :: _, [] => []
  | true :: r, _ :: L => .unset :: forget r L
  | false :: r, s :: L => s :: forget r L
def catSum : List Value → Nat
  | [] => 0
  | v :: r => v.category + catSum r
def entA : List Value → List Slot
  | [] => []
  | v :: r => if v.category = 2 then .val v :: .second :: entA r else .val v :: entA r
def entL (as : List Value) (n : Nat) : List Slot := entA as ++ List.replicate (n - (entA as).length) .unset
def putOk : FieldType → Value → Bool
  | .int, .int _ => true
  | .long, .long _ => true
  | .boolean, .int x => (x == 0) || (x == 1)
  | .array _, .ref _ => true
  | _, _ => false
def dflt : FieldType → Value
  | .long => .long 0
  | .array _ => .null
  | _ => .int 0
def dfOk : FieldType → Bool
  | .int => true
  | .boolean => true
  | .long => true
  | .array _ => true
  | _ => false
def tgt (pc : Nat) (o : Int) : Option Nat := if 0 ≤ (pc : Int) + o then some ((pc : Int) + o).toNat else none
def fetch : List (Nat × It) → Nat → Option It
  | [], _ => none
  | (q, i) :: r, pc => if q = pc then some i else fetch r pc
/-- one instruction that neither branches nor calls nor returns -/
def xI (P : PD) (ini : Bool) (cid : Nat) (i : Instr) (a : Nat) (b : Int) (L : List Slot) (S : List Value) (H : AHeap) : Option (List Slot × List Value × AHeap) :=
  match i with
  | .aload_n k => match getL L k.val with | some (.ref x) => some (L, .ref x :: S, H) | _ => none
  | .aload k => match getL L k with | some (.ref x) => some (L, .ref x :: S, H) | _ => none
  | .iload_n k => match getL L k.val with | some (.int x) => some (L, .int x :: S, H) | _ => none
  | .iload k => match getL L k with | some (.int x) => some (L, .int x :: S, H) | _ => none
  | .lload_n k => match getL L k.val with | some (.long x) => some (L, .long x :: S, H) | _ => none
  | .lload k => match getL L k with | some (.long x) => some (L, .long x :: S, H) | _ => none
  | .istore_n k => match S with | .int x :: S' => (st1 L k.val (.int x)).map fun L' => (L', S', H) | _ => none
  | .istore k => match S with | .int x :: S' => (st1 L k (.int x)).map fun L' => (L', S', H) | _ => none
  | .astore_n k => match S with | .ref x :: S' => (st1 L k.val (.ref x)).map fun L' => (L', S', H) | _ => none
  | .astore k => match S with | .ref x :: S' => (st1 L k (.ref x)).map fun L' => (L', S', H) | _ => none
  | .lstore_n k => match S with | .long x :: S' => (st2 L k.val (.long x)).map fun L' => (L', S', H) | _ => none
  | .lstore k => match S with | .long x :: S' => (st2 L k (.long x)).map fun L' => (L', S', H) | _ => none
  | .iinc k d => match getL L k with | some (.int x) => (st1 L k (.int (x + Int32.ofInt d))).map fun L' => (L', S, H) | _ => none
  | .iconst d => some (L, .int (Int32.ofInt d) :: S, H)
  | .bipush d => some (L, .int (Int8.ofInt d).toInt32 :: S, H)
  | .sipush d => some (L, .int (Int16.ofInt d).toInt32 :: S, H)
  | .lconst k => some (L, .long (Int64.ofNat k) :: S, H)
  | .ldc _ => some (L, .int (Int32.ofInt b) :: S, H)
  | .ldc2_w _ => some (L, .long (Int64.ofInt b) :: S, H)
  | .iadd => match S with | .int y :: .int x :: S' => some (L, .int (x + y) :: S', H) | _ => none
  | .isub => match S with | .int y :: .int x :: S' => some (L, .int (x - y) :: S', H) | _ => none
  | .imul => match S with | .int y :: .int x :: S' => some (L, .int (x * y) :: S', H) | _ => none
  | .iand => match S with | .int y :: .int x :: S' => some (L, .int (x &&& y) :: S', H) | _ => none
  | .ior => match S with | .int y :: .int x :: S' => some (L, .int (x ||| y) :: S', H) | _ => none
  | .ixor => match S with | .int y :: .int x :: S' => some (L, .int (x ^^^ y) :: S', H) | _ => none
  | .ishl => match S with | .int y :: .int x :: S' => some (L, .int (x <<< (y &&& 31)) :: S', H) | _ => none
  | .ishr => match S with | .int y :: .int x :: S' => some (L, .int (x >>> (y &&& 31)) :: S', H) | _ => none
  | .iushr => match S with | .int y :: .int x :: S' => some (L, .int (XT.ushr x y) :: S', H) | _ => none
  | .idiv => match S with | .int y :: .int x :: S' => if y = 0 then none else some (L, .int (x / y) :: S', H) | _ => none
  | .irem => match S with | .int y :: .int x :: S' => if y = 0 then none else some (L, .int (x % y) :: S', H) | _ => none
  | .ladd => match S with | .long y :: .long x :: S' => some (L, .long (x + y) :: S', H) | _ => none
  | .lsub => match S with | .long y :: .long x :: S' => some (L, .long (x - y) :: S', H) | _ => none
  | .lmul => match S with | .long y :: .long x :: S' => some (L, .long (x * y) :: S', H) | _ => none
  | .land => match S with | .long y :: .long x :: S' => some (L, .long (x &&& y) :: S', H) | _ => none
  | .lor => match S with | .long y :: .long x :: S' => some (L, .long (x ||| y) :: S', H) | _ => none
  | .lxor => match S with | .long y :: .long x :: S' => some (L, .long (x ^^^ y) :: S', H) | _ => none
  | .lshl => match S with | .int y :: .long x :: S' => some (L, .long (x <<< (y.toInt64 &&& 63)) :: S', H) | _ => none
  | .lshr => match S with | .int y :: .long x :: S' => some (L, .long (x >>> (y.toInt64 &&& 63)) :: S', H) | _ => none
  | .lushr => match S with | .int y :: .long x :: S' => some (L, .long (XT.ushrL x y) :: S', H) | _ => none
  | .ldiv => match S with | .long y :: .long x :: S' => if y = 0 then none else some (L, .long (x / y) :: S', H) | _ => none
  | .lrem => match S with | .long y :: .long x :: S' => if y = 0 then none else some (L, .long (x % y) :: S', H) | _ => none
  | .lcmp => match S with | .long y :: .long x :: S' => some (L, .int (XT.cmpL x y) :: S', H) | _ => none
  | .i2l => match S with | .int x :: S' => some (L, .long x.toInt64 :: S', H) | _ => none
  | .l2i => match S with | .long x :: S' => some (L, .int x.toInt32 :: S', H) | _ => none
  | .dup => match S with
    | .int x :: S' => some (L, .int x :: .int x :: S', H)
    | .ref x :: S' => some (L, .ref x :: .ref x :: S', H)
    | _ => none
  | .dup2 => match S with
    | .int x :: .ref y :: S' => some (L, .int x :: .ref y :: .int x :: .ref y :: S', H)
    | .long x :: S' => some (L, .long x :: .long x :: S', H)
    | _ => none
  | .pop => match S with | .int _ :: S' => some (L, S', H) | _ => none
  | .getfield _ => match S with
    | .ref o :: S' => match H[o]? with
      | some (.inl (c, fs)) => if c = cid then match fs[a]? with
        | some (.int x) => some (L, .int x :: S', H)
        | some (.long x) => some (L, .long x :: S', H)
        | some (.ref x) => some (L, .ref x :: S', H)
        | _ => none
        else none
      | _ => none
    | _ => none
  | .putfield _ => match S with
    | v :: .ref o :: S' => match H[o]? with
      | some (.inl (c, fs)) => if c = cid ∧ P.nr ≤ o then match (P.cls[c]?).bind fun cd => cd.2.2[a]? with
        | some (_, _, ty, fin) => if putOk ty v && (!fin || ini) then some (L, S', H.set o (.inl (c, fs.set a v))) else none
        | none => none
        else none
      | _ => none
    | _ => none
  | .iaload => match S with
    | .int j :: .ref o :: S' => match H[o]? with
      | some (.inr (.inl (false, A))) => (rdA A j).map fun x => (L, .int x :: S', H)
      | _ => none
    | _ => none
  | .baload => match S with
    | .int j :: .ref o :: S' => match H[o]? with
      | some (.inr (.inl (true, A))) => (rdA A j).map fun x => (L, .int x :: S', H)
      | _ => none
    | _ => none
  | .laload => match S with
    | .int j :: .ref o :: S' => match H[o]? with
      | some (.inr (.inr A)) => (rdA A j).map fun x => (L, .long x :: S', H)
      | _ => none
    | _ => none
  | .iastore => match S with
    | .int x :: .int j :: .ref o :: S' => match H[o]? with
      | some (.inr (.inl (false, A))) => if P.nr ≤ o then (wrA A j x).map fun A' => (L, S', H.set o (.inr (.inl (false, A')))) else none
      | _ => none
    | _ => none
  | .bastore => match S with
    | .int x :: .int j :: .ref o :: S' => match H[o]? with
      | some (.inr (.inl (true, A))) => if P.nr ≤ o then (wrA A j (x &&& 1)).map fun A' => (L, S', H.set o (.inr (.inl (true, A')))) else none
      | _ => none
    | _ => none
  | .lastore => match S with
    | .long x :: .int j :: .ref o :: S' => match H[o]? with
      | some (.inr (.inr A)) => if P.nr ≤ o then (wrA A j x).map fun A' => (L, S', H.set o (.inr (.inr A'))) else none
      | _ => none
    | _ => none
  | .arraylength => match S with
    | .ref o :: S' => match H[o]? with
      | some (.inr (.inl (_, A))) => some (L, .int A.length.toInt32 :: S', H)
      | _ => none
    | _ => none
  | _ => none
/-- one instruction that makes a cell: how many slots it takes stands last -/
def xN (P : PD) (i : Instr) (a : Nat) (S : List Value) (H : AHeap) : Option (List Value × AHeap × Nat) :=
  match i with
  | .new _ => match P.cls[a]? with
    | some cd => some (.ref H.length :: S, H ++ [.inl (a, cd.2.2.map fun f => dflt f.2.2.1)], cd.2.1)
    | none => none
  | .newarray t => match S with
    | .int n :: S' => if n < 0 ∨ 100000 < n.toNatClampNeg then none else match t with
      | .int => some (.ref H.length :: S', H ++ [.inr (.inl (false, List.replicate n.toNatClampNeg 0))], n.toNatClampNeg)
      | .boolean => some (.ref H.length :: S', H ++ [.inr (.inl (true, List.replicate n.toNatClampNeg 0))], n.toNatClampNeg)
      | .long => some (.ref H.length :: S', H ++ [.inr (.inr (List.replicate n.toNatClampNeg 0))], n.toNatClampNeg)
      | _ => none
    | _ => none
  | _ => none
/-- the words that a call from d to y asks -/
def fitsRoom (d y : MD) (rest : List Value) : Bool := decide (y.rf + 1 ≤ d.rf) && decide (catSum rest + (y.maxL + 11) + y.rw ≤ d.rw)
/-- the arguments of a call, first to last, and what lies under them -/
def argsOf (n : Nat) (S : List Value) : Option (List Value × List Value) := if n ≤ S.length then some ((S.take n).reverse, S.drop n) else none
def recvOk (P : PD) (H : AHeap) (y : MD) (as : List Value) : Bool :=
  if y.kind = 0 then true else match as with
    | .ref o :: _ => match H[o]? with
      | some (.inl (c, _)) => decide (c = y.cid)
      | _ => false
    | _ => false
def nargs (y : MD) : Nat := if y.kind = 0 then y.npar else y.npar + 1
def invKind (i : Instr) (k : Nat) : Bool := match i with
  | .invokestatic _ => k == 0
  | .invokespecial _ => k == 1
  | .invokevirtual _ => k == 2 || k == 3
  | _ => false
/-- what a method returns of an int on its stack -/
def retV (r : Option FieldType) (x : Int32) : Option Value := match r with
  | some .int => some (.int x)
  | some .boolean => some (.int (x &&& 1))
  | _ => none
def isInv : Instr → Bool
  | .invokestatic _ => true
  | .invokespecial _ => true
  | .invokevirtual _ => true
  | _ => false
def isNew : Instr → Bool
  | .new _ => true
  | .newarray _ => true
  | _ => false
/-- what a run answers: what it returns, the heap, how many cells and slots it has made -/
abbrev Res := Option Value × AHeap × Nat × Nat
def addR (r : Res) (kc ks : Nat) : Res := (r.1, r.2.1, r.2.2.1 + kc, r.2.2.2 + ks)
/-- n instructions at the most, from pc of method mi to its return -/
def exe (P : PD) : Nat → Nat → Nat → List Slot → List Value → AHeap → Option Res
  | 0, _, _, _, _, _ => none
  | n + 1, mi, pc, L0, S, H => match P.mth[mi]? with
    | none => none
    | some d => match fetch d.code pc with
      | none => none
      | some (i, len, er, a, b) =>
        let L := forget er L0
        match i with
        | .goto o => match tgt pc o with
          | some q => exe P n mi q L S H
          | none => none
        | .if_icmp cd o => match S with
          | .int y :: .int x :: S' => if if_icmp.holds cd x y = true then match tgt pc o with
              | some q => exe P n mi q L S' H
              | none => none
            else exe P n mi (pc + 3) L S' H
          | _ => none
        | .ifCond cd o => match S with
          | .int x :: S' => if ifCond.holds cd x = true then match tgt pc o with
              | some q => exe P n mi q L S' H
              | none => none
            else exe P n mi (pc + 3) L S' H
          | _ => none
        | .ifnonnull o => match S with
          | .ref _ :: S' => match tgt pc o with
            | some q => exe P n mi q L S' H
            | none => none
          | _ => none
        | .ireturn => match S with
          | [.int x] => match retV d.ret x with
            | some v => some (some v, H, 0, 0)
            | none => none
          | _ => none
        | .lreturn => match S with
          | [.long x] => if d.ret = some .long then some (some (.long x), H, 0, 0) else none
          | _ => none
        | .return_ => match S with
          | [] => if d.ret = none then some (none, H, 0, 0) else none
          | _ => none
        | i => if isInv i = true then
            if b = -1 then match i, S with
              | .invokespecial _, .ref _ :: S' => if 1 ≤ d.rf ∧ catSum S' + 12 ≤ d.rw then exe P n mi (pc + 3) L S' H else none
              | _, _ => none
            else match P.mth[a]? with
              | none => none
              | some y => match argsOf (nargs y) S with
                | none => none
                | some (as, rest) =>
                  if decide (0 < a) && invKind i y.kind && recvOk P H y as && fitsRoom d y rest && decide ((entA as).length ≤ y.maxL) then
                    match exe P n a 0 (entL as y.maxL) [] H with
                    | some (v, H1, kc, ks) => (exe P n mi (pc + 3) L (v.toList ++ rest) H1).map fun r => addR r kc ks
                    | none => none
                  else none
          else if isNew i = true then match xN P i a S H with
            | some (S', H', ks) => (exe P n mi (pc + len) L S' H').map fun r => addR r 1 ks
            | none => none
          else match xI P (d.name.name == "<init>") d.cid i a b L S H with
            | some (L', S', H') => exe P n mi (pc + len) L' S' H'
            | none => none
end Jvm.Own
namespace Jvm.Own
open Jvm Jvm.ClassFile Sem Op Lib Jvm.Free Jvm.Stand Jvm.LawKit Jvm.RoadKit Bundle

/-! The words that the machine's program rests on -/
def fWord (C : String) (f : FD) : Jvm.Cond := if f.2.2.2 then .laysFinal C C f.1 f.2.1 else .lays C C f.1 f.2.1
def cWords (cd : CD) : List Jvm.Cond := .instantiable cd.1 cd.2.1 :: .initialized cd.1 :: cd.2.2.map (fWord cd.1)
def mWords (y : MD) : List Jvm.Cond := .code y.name y.bytes y.maxL y.ret :: .initialized y.name.cls ::
  (if y.kind = 0 then [.static y.name] else if y.kind = 1 then [.instanceMethod y.name] else if y.kind = 2 then [.instanceMethod y.name, .privateMethod y.name]
   else [.declares y.name, .selects y.name.cls y.name y.name, .instanceMethod y.name])
def fieldOf (P : PD) (c a : Nat) : Option FD := (P.cls[c]?).bind fun cd => cd.2.2[a]?
def fLink (P : PD) (d : MD) (k a : Nat) : List Jvm.Cond := match fieldOf P d.cid a with | some f => [.fieldLink d.name.cls k d.name.cls f.1 f.2.1] | none => []
def mLink (P : PD) (d : MD) (k a : Nat) (b : Int) : List Jvm.Cond :=
  if b = -1 then [.methodLink d.name.cls k Lib.objectInit, .instanceMethod Lib.objectInit, .code Lib.objectInit ⟨#[0xb1]⟩ 1 none]
  else match P.mth[a]? with | some y => [.methodLink d.name.cls k y.name] | none => []
def iWords (P : PD) (d : MD) (x : Nat × It) : List Jvm.Cond := match x with
  | (_, .getfield k, _, _, a, _) => fLink P d k a
  | (_, .putfield k, _, _, a, _) => fLink P d k a
  | (_, .ldc k, _, _, _, b) => [.constant d.name.cls k (Int32.ofInt b)]
  | (_, .ldc2_w k, _, _, _, b) => [.constantLong d.name.cls k (Int64.ofInt b)]
  | (_, .new k, _, _, a, _) => match P.cls[a]? with | some cd => [.classLink d.name.cls k cd.1] | none => []
  | (_, .newarray t, _, _, _, _) => [.arrayClass (newarray.typeOf t)]
  | (_, .invokestatic k, _, _, a, b) => mLink P d k a b
  | (_, .invokespecial k, _, _, a, b) => mLink P d k a b
  | (_, .invokevirtual k, _, _, a, b) => mLink P d k a b
  | _ => []
def wordsOf (P : PD) : List Jvm.Cond := P.cls.flatMap cWords ++ (P.mth.drop 1).flatMap mWords ++ P.mth.flatMap fun d => d.code.flatMap (iWords P d)
/-! What can be looked up in the program itself -/
def nodup : List String → Bool
  | [] => true
  | x :: r => !r.contains x && nodup r
def fChk (f : FD) : Bool := decide (parseFieldDescriptor f.2.1 = some f.2.2.1) && dfOk f.2.2.1
def cChk (cd : CD) : Bool := nodup (cd.2.2.map fun f => f.1) && cd.2.2.all fChk
def sigChk (y : MD) : Bool := match parseMethodDescriptor y.name.desc with
  | some g => decide (g.parameters.length = y.npar)
  | none => false
def lenOk (i : Instr) (n : Nat) : Bool := match i with
  | .aload _ | .iload _ | .lload _ | .istore _ | .astore _ | .lstore _ | .bipush _ | .ldc _ | .newarray _ => n == 2
  | .iinc _ _ | .sipush _ | .ldc2_w _ | .getfield _ | .putfield _ | .new _ | .goto _ | .if_icmp _ _ | .ifCond _ _ | .ifnonnull _ | .invokestatic _ | .invokespecial _ | .invokevirtual _ => n == 3
  | _ => n == 1
def codeChk (y : MD) : Bool := y.code.all fun x => decide (decode y.bytes x.1 = .ok (x.2.1, x.2.2.1)) && lenOk x.2.1 x.2.2.1
def clsChk (P : PD) (y : MD) : Bool := match P.cls[y.cid]? with | some cd => cd.1 == y.name.cls | none => y.kind == 0
def mChk (P : PD) (y : MD) : Bool := plainName y.name.cls && sigChk y && codeChk y && clsChk P y && decide (y.name.cls ≠ "java/lang/invoke/MethodHandle") && decide (y.name.cls ≠ "java/lang/invoke/VarHandle") && (y.kind != 1 || (y.name.name == "<init>" && decide (y.ret = none)))
def chk (P : PD) : Bool := P.cls.all cChk && P.mth.all (mChk P)

/-! Plain and real values -/
def VR (ρ : List Addr) : Value → Value → Prop
  | .ref k, w => ∃ a, ρ[k]? = some a ∧ w = .ref a
  | v, w => w = v
def SR (ρ : List Addr) : List Value → List Value → Prop
  | [], ws => ws = []
  | v :: vs, ws => ∃ w ws', ws = w :: ws' ∧ VR ρ v w ∧ SR ρ vs ws'
def OV (ρ : List Addr) : Option Value → Option Value → Prop
  | none, w => w = none
  | some v, w => ∃ u, w = some u ∧ VR ρ v u
def WFc (A : Array Slot) : Prop := (∀ (i : Nat) w, A[i]? = some (.val w) → w.category = 2 → A[i + 1]? = some .second) ∧ ∀ (i : Nat), A[i]? = some .second → ∃ j w, i = j + 1 ∧ A[j]? = some (.val w) ∧ w.category = 2
def SlR (ρ : List Addr) : Slot → Option Slot → Prop
  | .unset, _ => True
  | .second, o => o = some .second
  | .val v, o => ∃ w, VR ρ v w ∧ o = some (.val w)
def LR (ρ : List Addr) (L : List Slot) (A : Array Slot) : Prop := A.size = L.length ∧ WFc A ∧ ∀ (i : Nat) s, L[i]? = some s → SlR ρ s A[i]?
theorem VR.mono {ρ t : List Addr} {v w : Value} (h : VR ρ v w) : VR (ρ ++ t) v w := by
  cases v <;> first | exact h | skip
  obtain ⟨a, h1, h2⟩ := h
  exact ⟨a, by rw [List.getElem?_append_left (List.getElem?_eq_some_iff.mp h1).1]; exact h1, h2⟩
theorem SR.mono {ρ t : List Addr} : ∀ {v w : List Value}, SR ρ v w → SR (ρ ++ t) v w
  | [], _, h => h
  | _ :: _, _, ⟨w, ws, h1, h2, h3⟩ => ⟨w, ws, h1, h2.mono, SR.mono h3⟩
theorem SlR.mono {ρ t : List Addr} {s : Slot} {o : Option Slot} (h : SlR ρ s o) : SlR (ρ ++ t) s o := by
  cases s with
  | unset => trivial
  | second => exact h
  | val v => obtain ⟨w, h1, h2⟩ := h; exact ⟨w, h1.mono, h2⟩
theorem LR.mono {ρ t : List Addr} {L : List Slot} {A : Array Slot} (h : LR ρ L A) : LR (ρ ++ t) L A := ⟨h.1, h.2.1, fun i s q => (h.2.2 i s q).mono⟩
theorem VR.cat {ρ : List Addr} {v w : Value} (h : VR ρ v w) : w.category = v.category := by
  cases v <;> first | (obtain ⟨a, -, rfl⟩ := h; rfl) | (cases h; rfl)
theorem SR.cat {ρ : List Addr} : ∀ {v w : List Value}, SR ρ v w → (w.map fun v => v.category).sum = catSum v
  | [], _, h => by cases h; rfl
  | _ :: _, _, ⟨w, ws, h1, h2, h3⟩ => by subst h1; simp [catSum, h2.cat, SR.cat h3]
theorem SR.len {ρ : List Addr} : ∀ {v w : List Value}, SR ρ v w → w.length = v.length
  | [], _, h => by cases h; rfl
  | _ :: _, _, ⟨w, ws, h1, h2, h3⟩ => by subst h1; simp [SR.len h3]
theorem SR.app {ρ : List Addr} : ∀ {v w v' w' : List Value}, SR ρ v w → SR ρ v' w' → SR ρ (v ++ v') (w ++ w')
  | [], _, _, _, h, h' => by cases h; exact h'
  | _ :: _, _, _, _, ⟨w, ws, h1, h2, h3⟩, h' => by subst h1; exact ⟨w, ws ++ _, rfl, h2, SR.app h3 h'⟩
theorem SR.rev {ρ : List Addr} : ∀ {v w : List Value}, SR ρ v w → SR ρ v.reverse w.reverse
  | [], _, h => by cases h; exact rfl
  | _ :: _, _, ⟨w, ws, h1, h2, h3⟩ => by subst h1; simp only [List.reverse_cons]; exact (SR.rev h3).app ⟨w, [], rfl, h2, rfl⟩
theorem SR.take {ρ : List Addr} : ∀ (n : Nat) {v w : List Value}, SR ρ v w → SR ρ (v.take n) (w.take n)
  | 0, _, _, _ => rfl
  | n + 1, [], _, h => by cases h; exact rfl
  | n + 1, _ :: _, _, ⟨w, ws, h1, h2, h3⟩ => by subst h1; exact ⟨w, _, rfl, h2, SR.take n h3⟩
theorem SR.drop {ρ : List Addr} : ∀ (n : Nat) {v w : List Value}, SR ρ v w → SR ρ (v.drop n) (w.drop n)
  | 0, _, _, h => h
  | n + 1, [], _, h => by cases h; exact rfl
  | n + 1, _ :: _, _, ⟨w, ws, h1, h2, h3⟩ => by subst h1; exact SR.drop n h3
theorem OV.list {ρ : List Addr} {v w : Option Value} (h : OV ρ v w) : SR ρ v.toList w.toList := by
  cases v with
  | none => cases h; exact rfl
  | some v => obtain ⟨u, rfl, h⟩ := h; exact ⟨u, [], rfl, h, rfl⟩
theorem LR.get {ρ : List Addr} {L : List Slot} {A : Array Slot} (h : LR ρ L A) {k : Nat} {v : Value} (g : getL L k = some v) : ∃ w, VR ρ v w ∧ A[k]? = some (.val w) := by
  unfold getL at g
  split at g
  · rename_i u q
    cases g
    exact h.2.2 k _ q
  · cases g
theorem forget_get : ∀ (er : List Bool) (L : List Slot) (i : Nat) (s : Slot), (forget er L)[i]? = some s → s = .unset ∨ L[i]? = some s
  | [], L, i, s, h => Or.inr h
  | _ :: _, [], i, s, h => by simp [forget] at h
  | true :: r, t :: L, 0, s, h => by simp [forget] at h; exact Or.inl h.symm
  | false :: r, t :: L, 0, s, h => by simp [forget] at h; exact Or.inr (by simp [h])
  | true :: r, t :: L, i + 1, s, h => by simp [forget] at h; simpa using forget_get r L i s h
  | false :: r, t :: L, i + 1, s, h => by simp [forget] at h; simpa using forget_get r L i s h
theorem forget_len : ∀ (er : List Bool) (L : List Slot), (forget er L).length = L.length
  | [], _ => rfl
  | _ :: _, [] => rfl
  | true :: r, _ :: L => by simp [forget, forget_len r L]
  | false :: r, _ :: L => by simp [forget, forget_len r L]
theorem LR.forget {ρ : List Addr} {A : Array Slot} (er : List Bool) {L : List Slot} (h : LR ρ L A) : LR ρ (forget er L) A :=
  ⟨by rw [forget_len]; exact h.1, h.2.1, fun i s q => by
    rcases forget_get er L i s q with rfl | z
    · trivial
    · exact h.2.2 i s z⟩
/-! Stores -/
theorem setAt_ok {A : Array Slot} {i : Nat} (h : i < A.size) (x : Slot) : setAt A i x = some (A.setIfInBounds i x) := by simp [setAt, h]
theorem get_set (A : Array Slot) (i j : Nat) (x : Slot) : (A.setIfInBounds i x)[j]? = if i = j then (if i < A.size then some x else none) else A[j]? := by
  rw [Array.getElem?_setIfInBounds]
theorem sl_unset {A : Array Slot} {k : Nat} {w : Value} (h : A[k]? = some .unset) : storeLocals A k w = storeSelf A k w := by
  unfold storeLocals; rw [h]; rfl
theorem sl_second {A : Array Slot} {k : Nat} {w : Value} (h : A[k]? = some .second) (hk : k - 1 < A.size) : storeLocals A k w = storeSelf (A.setIfInBounds (k - 1) .unset) k w := by
  unfold storeLocals; rw [h]
  show (setAt A (k - 1) .unset).bind _ = _
  rw [setAt_ok hk]; rfl
theorem sl_val2 {A : Array Slot} {k : Nat} {w u : Value} (h : A[k]? = some (.val u)) (hu : u.category = 2) (hk : k + 1 < A.size) : storeLocals A k w = storeSelf (A.setIfInBounds (k + 1) .unset) k w := by
  unfold storeLocals; rw [h]
  show (if u.category = 2 then (setAt A (k + 1) .unset).bind _ else _) = _
  rw [if_pos hu, setAt_ok hk]; rfl
theorem sl_val1 {A : Array Slot} {k : Nat} {w u : Value} (h : A[k]? = some (.val u)) (hu : ¬ u.category = 2) : storeLocals A k w = storeSelf A k w := by
  unfold storeLocals; rw [h]
  show (if u.category = 2 then (setAt A (k + 1) .unset).bind _ else _) = _
  rw [if_neg hu]
theorem ss_1 {A : Array Slot} {k : Nat} {w : Value} (hk : k < A.size) (hw : ¬ w.category = 2) : storeSelf A k w = some (A.setIfInBounds k (.val w)) := by
  unfold storeSelf; rw [setAt_ok hk]
  show (if w.category = 2 then _ else _) = _
  rw [if_neg hw]
theorem ss_2c {A : Array Slot} {k : Nat} {w u : Value} (hk : k < A.size) (hk1 : k + 1 < A.size) (hk2 : k + 2 < A.size) (hw : w.category = 2) (h : (A.setIfInBounds k (.val w))[k + 1]? = some (.val u)) (hu : u.category = 2) : storeSelf A k w = some (((A.setIfInBounds k (.val w)).setIfInBounds (k + 2) .unset).setIfInBounds (k + 1) .second) := by
  unfold storeSelf; rw [setAt_ok hk]
  show (if w.category = 2 then _ else _) = _
  rw [if_pos hw, h]
  show (if u.category = 2 then (setAt _ (k + 2) .unset).bind _ else _) = _
  rw [if_pos hu, setAt_ok (by simpa using hk2)]
  exact setAt_ok (by simpa using hk1) _
theorem ss_2 {A : Array Slot} {k : Nat} {w : Value} {o : Slot} (hk : k < A.size) (hk1 : k + 1 < A.size) (hw : w.category = 2) (h : (A.setIfInBounds k (.val w))[k + 1]? = some o) (ho : ¬ ∃ u, o = .val u ∧ u.category = 2) : storeSelf A k w = some ((A.setIfInBounds k (.val w)).setIfInBounds (k + 1) .second) := by
  unfold storeSelf; rw [setAt_ok hk]
  show (if w.category = 2 then _ else _) = _
  rw [if_pos hw, h]
  cases o with
  | unset => exact setAt_ok (by simpa using hk1) _
  | second => exact setAt_ok (by simpa using hk1) _
  | val u =>
    show (if u.category = 2 then _ else _) = _
    rw [if_neg fun z => ho ⟨u, rfl, z⟩]
    exact setAt_ok (by simpa using hk1) _
theorem store1_sim {ρ : List Addr} {L : List Slot} {A : Array Slot} (h : LR ρ L A) {k : Nat} {v w : Value} {L' : List Slot} (hs : st1 L k v = some L') (hv : VR ρ v w) (hc : w.category = 1) : ∃ A', storeLocals A k w = some A' ∧ LR ρ L' A' := by
  unfold st1 at hs
  split at hs
  · rename_i q
    cases hs
    simp only [Bool.and_eq_true] at q
    obtain ⟨⟨q1, q2⟩, q3⟩ := q
    obtain ⟨hA, ⟨w1, w2⟩, hl⟩ := h
    have hk : k < L.length := by
      rcases Nat.lt_or_ge k L.length with z | z
      · exact z
      · rw [List.getElem?_eq_none z] at q1; cases q1
    have hkA : k < A.size := hA ▸ hk
    obtain ⟨sl, hsl⟩ : ∃ sl, A[k]? = some sl := ⟨A[k], Array.getElem?_eq_getElem hkA⟩
    have hc2 : ¬ w.category = 2 := by rw [hc]; decide
    classical
    have key : ∃ A', storeLocals A k w = some A' ∧ A'.size = A.size ∧ (∀ j, A'[j]? = if j = k then some (.val w) else if (sl = .second ∧ j + 1 = k) ∨ ((∃ u, sl = .val u ∧ u.category = 2) ∧ j = k + 1) then some .unset else A[j]?) := by
      cases sl with
      | unset =>
        refine ⟨A.setIfInBounds k (.val w), by rw [sl_unset hsl]; exact ss_1 hkA hc2, by simp, fun j => ?_⟩
        rw [get_set]
        by_cases e : k = j
        · subst e; simp [hkA]
        · have e' : ¬ j = k := fun z => e z.symm
          simp [e, e']
      | second =>
        obtain ⟨j0, u, rfl, g1, g2⟩ := w2 k hsl
        refine ⟨(A.setIfInBounds j0 .unset).setIfInBounds (j0 + 1) (.val w), by rw [sl_second hsl (show j0 + 1 - 1 < A.size by omega)]; exact ss_1 (by simpa using hkA) hc2, by simp, fun j => ?_⟩
        rw [get_set, get_set]
        by_cases e : j0 + 1 = j
        · subst e; simp [hkA]
        · by_cases e2 : j0 = j
          · subst e2; simp; omega
          · have e' : ¬ j = j0 + 1 := fun z => e z.symm
            have e2' : ¬ j = j0 := fun z => e2 z.symm
            simp [e, e', e2, e2']
      | val u =>
        by_cases hu : u.category = 2
        · have g := w1 k u hsl hu
          have hk1 : k + 1 < A.size := (Array.getElem?_eq_some_iff.mp g).1
          refine ⟨(A.setIfInBounds (k + 1) .unset).setIfInBounds k (.val w), by rw [sl_val2 hsl hu hk1]; exact ss_1 (by simpa using hkA) hc2, by simp, fun j => ?_⟩
          rw [get_set, get_set]
          by_cases e : k = j
          · subst e; simp [hkA]
          · have e' : ¬ j = k := fun z => e z.symm
            by_cases e2 : k + 1 = j
            · subst e2; simp [hk1, hu]
            · have e2' : ¬ j = k + 1 := fun z => e2 z.symm
              simp [e, e', e2, e2']
        · refine ⟨A.setIfInBounds k (.val w), by rw [sl_val1 hsl hu]; exact ss_1 hkA hc2, by simp, fun j => ?_⟩
          rw [get_set]
          by_cases e : k = j
          · subst e; simp [hkA]
          · have e' : ¬ j = k := fun z => e z.symm
            simp [e, e', hu]
    obtain ⟨A', k1, k2, k3⟩ := key
    refine ⟨A', k1, by rw [k2, hA]; simp, ⟨fun i u g1 g2 => ?_, fun i g1 => ?_⟩, fun i s g => ?_⟩
    · rw [k3] at g1
      split at g1
      · cases g1; exact absurd g2 hc2
      · rename_i e1
        split at g1
        · cases g1
        · rename_i e2
          have g3 := w1 i u g1 g2
          rw [k3]
          split
          · rename_i e3
            have : sl = .second := by rw [← e3] at hsl; exact Option.some.inj (hsl.symm.trans g3)
            exact absurd (Or.inl ⟨this, e3⟩) e2
          · rename_i e3
            split
            · rename_i e4
              rcases e4 with ⟨z1, z2⟩ | ⟨⟨u', z1, z2⟩, z3⟩
              · exfalso
                have : k = i + 1 + 1 := z2.symm
                subst this
                rw [z1] at hsl
                obtain ⟨j0, u0, y1, y2, y3⟩ := w2 _ hsl
                have : j0 = i + 1 := by omega
                subst this
                rw [g3] at y2; cases y2
              · exact absurd (by omega) e1
            · exact g3
    · rw [k3] at g1
      split at g1
      · cases g1
      · rename_i e1
        split at g1
        · cases g1
        · rename_i e2
          obtain ⟨j, u, z1, z2, z3⟩ := w2 i g1
          refine ⟨j, u, z1, ?_, z3⟩
          rw [k3]
          split
          · rename_i e3
            subst e3
            have : sl = .val u := Option.some.inj (hsl.symm.trans z2)
            exact absurd (Or.inr ⟨⟨u, this, z3⟩, z1⟩) e2
          · split
            · rename_i e3 e4
              rcases e4 with ⟨y1, y2⟩ | ⟨⟨u', y1, y2⟩, y3⟩
              · exact absurd (z1.trans y2) e1
              · subst y3
                have g5 := w1 k u' (y1 ▸ hsl) y2
                rw [z2] at g5; cases g5
            · exact z2
    · rw [List.getElem?_set] at g
      split at g
      · rename_i e
        subst e
        cases g
        exact ⟨w, hv, by rw [k3]; simp⟩
      · rename_i e
        have e' : ¬ i = k := fun z => e z.symm
        have g2 := hl i s g
        rw [k3, if_neg e']
        split
        · rename_i e4
          cases s with
          | unset => trivial
          | second =>
            exfalso
            have g2' : A[i]? = some .second := g2
            rcases e4 with ⟨y1, y2⟩ | ⟨⟨u', y1, y2⟩, y3⟩
            · obtain ⟨j0, u0, x1, x2, x3⟩ := w2 k (y1 ▸ hsl)
              have : i = j0 := by omega
              subst this
              rw [x2] at g2'; cases g2'
            · subst y3
              rw [g] at q3
              simp [isSec] at q3
          | val v0 =>
            exfalso
            obtain ⟨w0, x1, x2⟩ := g2
            rcases e4 with ⟨y1, y2⟩ | ⟨⟨u', y1, y2⟩, y3⟩
            · obtain ⟨j0, u0, z1, z2, z3⟩ := w2 k (y1 ▸ hsl)
              have : i = j0 := by omega
              subst this
              have hw0 : w0 = u0 := by rw [x2] at z2; cases z2; rfl
              have hcat : v0.category = 2 := by rw [← x1.cat, hw0]; exact z3
              subst y2
              have : L[i + 1 - 1]? = some (.val v0) := g
              rw [this] at q2
              simp [isC2, hcat] at q2
            · subst y3
              have g5 := w1 k u' (y1 ▸ hsl) y2
              rw [x2] at g5; cases g5
        · exact g2
  · cases hs
end Jvm.Own
namespace Jvm.Own
open Jvm Jvm.ClassFile Sem Op Lib Jvm.Free Jvm.Stand Jvm.LawKit Jvm.RoadKit Bundle
theorem store2_sim {ρ : List Addr} {L : List Slot} {A : Array Slot} (h : LR ρ L A) {k : Nat} {v w : Value} {L' : List Slot} (hs : st2 L k v = some L') (hv : VR ρ v w) (hc : w.category = 2) : ∃ A', storeLocals A k w = some A' ∧ LR ρ L' A' := by
  unfold st2 at hs
  split at hs
  · rename_i q
    cases hs
    simp only [Bool.and_eq_true] at q
    obtain ⟨⟨q1, q2⟩, q3⟩ := q
    obtain ⟨hA, ⟨w1, w2⟩, hl⟩ := h
    have hk1 : k + 1 < L.length := by
      rcases Nat.lt_or_ge (k + 1) L.length with z | z
      · exact z
      · rw [List.getElem?_eq_none z] at q1
        cases h0 : L[k]? with
        | none => rw [h0] at q1; cases q1
        | some s0 => rw [h0] at q1; cases s0 <;> cases q1
    have hk : k < L.length := by omega
    have hkA : k < A.size := hA ▸ hk
    have hkA1 : k + 1 < A.size := hA ▸ hk1
    obtain ⟨sl, hsl⟩ : ∃ sl, A[k]? = some sl := ⟨A[k], Array.getElem?_eq_getElem hkA⟩
    obtain ⟨sm, hsm⟩ : ∃ sm, A[k + 1]? = some sm := ⟨A[k + 1], Array.getElem?_eq_getElem hkA1⟩
    have n1 : ¬ k = k + 1 := by omega
    have n2 : ¬ k + 2 = k + 1 := by omega
    have n3 : ¬ k + 2 = k := by omega
    classical
    have key : ∃ A', storeLocals A k w = some A' ∧ A'.size = A.size ∧ (∀ j, A'[j]? = if j = k then some (.val w) else if j = k + 1 then some .second else if (sl = .second ∧ j + 1 = k) ∨ ((∃ u, sm = .val u ∧ u.category = 2) ∧ j = k + 2) then some .unset else A[j]?) := by
      by_cases hm : ∃ u, sm = .val u ∧ u.category = 2
      · obtain ⟨u, rfl, hu⟩ := hm
        have g := w1 (k + 1) u hsm hu
        have hk2 : k + 2 < A.size := (Array.getElem?_eq_some_iff.mp g).1
        cases sl with
        | unset =>
          refine ⟨((A.setIfInBounds k (.val w)).setIfInBounds (k + 2) .unset).setIfInBounds (k + 1) .second, ?_, by simp, fun j => ?_⟩
          · rw [sl_unset hsl]; exact ss_2c hkA hkA1 hk2 hc (by rw [get_set, if_neg n1]; exact hsm) hu
          · rw [get_set, get_set, get_set]
            by_cases e0 : j = k
            · subst e0; simp [hkA]
            · by_cases e1 : j = k + 1
              · subst e1; simp [hkA1]
              · by_cases e2 : j = k + 2
                · subst e2; simp [hk2, hu]
                · have e0' : ¬ k = j := fun z => e0 z.symm
                  have e1' : ¬ k + 1 = j := fun z => e1 z.symm
                  have e2' : ¬ k + 2 = j := fun z => e2 z.symm
                  simp [e0, e1, e2, e0', e1', e2']
        | second =>
          obtain ⟨j0, u0, rfl, g1, g2⟩ := w2 k hsl
          have hj0 : j0 < A.size := by omega
          refine ⟨(((A.setIfInBounds j0 .unset).setIfInBounds (j0 + 1) (.val w)).setIfInBounds (j0 + 1 + 2) .unset).setIfInBounds (j0 + 1 + 1) .second, ?_, by simp, fun j => ?_⟩
          · have m1 : ¬ j0 + 1 = j0 + 1 + 1 := by omega
            have m2 : ¬ j0 = j0 + 1 + 1 := by omega
            rw [sl_second hsl (show j0 + 1 - 1 < A.size by omega)]
            exact ss_2c (by simpa using hkA) (by simpa using hkA1) (by simpa using hk2) hc (by rw [get_set, if_neg m1, get_set, if_neg (by omega)]; exact hsm) hu
          · rw [get_set, get_set, get_set, get_set]
            by_cases e0 : j = j0 + 1
            · subst e0; simp [hkA]
            · by_cases e1 : j = j0 + 1 + 1
              · subst e1; simp [hkA1]
              · by_cases e2 : j = j0 + 1 + 2
                · subst e2; simp [hk2, hu]
                · by_cases e3 : j = j0
                  · subst e3
                    rw [if_neg (by omega), if_neg (by omega), if_neg (by omega), if_pos rfl, if_pos hj0, if_neg (by omega), if_neg (by omega), if_pos (Or.inl ⟨rfl, rfl⟩)]
                  · have e0' : ¬ j0 + 1 = j := fun z => e0 z.symm
                    have e1' : ¬ j0 + 1 + 1 = j := fun z => e1 z.symm
                    have e2' : ¬ j0 + 1 + 2 = j := fun z => e2 z.symm
                    have e3' : ¬ j0 = j := fun z => e3 z.symm
                    simp [e0, e1, e2, e3, e0', e1', e2', e3']
        | val u1 =>
          have hu1 : ¬ u1.category = 2 := fun z => by have := w1 k u1 hsl z; rw [hsm] at this; cases this
          refine ⟨((A.setIfInBounds k (.val w)).setIfInBounds (k + 2) .unset).setIfInBounds (k + 1) .second, ?_, by simp, fun j => ?_⟩
          · rw [sl_val1 hsl hu1]; exact ss_2c hkA hkA1 hk2 hc (by rw [get_set, if_neg n1]; exact hsm) hu
          · rw [get_set, get_set, get_set]
            by_cases e0 : j = k
            · subst e0; simp [hkA]
            · by_cases e1 : j = k + 1
              · subst e1; simp [hkA1]
              · by_cases e2 : j = k + 2
                · subst e2; simp [hk2, hu]
                · have e0' : ¬ k = j := fun z => e0 z.symm
                  have e1' : ¬ k + 1 = j := fun z => e1 z.symm
                  have e2' : ¬ k + 2 = j := fun z => e2 z.symm
                  simp [e0, e1, e2, e0', e1', e2']
      · cases sl with
        | unset =>
          refine ⟨(A.setIfInBounds k (.val w)).setIfInBounds (k + 1) .second, ?_, by simp, fun j => ?_⟩
          · rw [sl_unset hsl]; exact ss_2 hkA hkA1 hc (by rw [get_set, if_neg n1]; exact hsm) hm
          · rw [get_set, get_set]
            by_cases e0 : j = k
            · subst e0; simp [hkA]
            · by_cases e1 : j = k + 1
              · subst e1; simp [hkA1]
              · have e0' : ¬ k = j := fun z => e0 z.symm
                have e1' : ¬ k + 1 = j := fun z => e1 z.symm
                simp [e0, e1, e0', e1', hm]
        | second =>
          obtain ⟨j0, u0, rfl, g1, g2⟩ := w2 k hsl
          have hj0 : j0 < A.size := by omega
          have m1 : ¬ j0 + 1 = j0 + 1 + 1 := by omega
          have m2 : ¬ j0 = j0 + 1 + 1 := by omega
          refine ⟨((A.setIfInBounds j0 .unset).setIfInBounds (j0 + 1) (.val w)).setIfInBounds (j0 + 1 + 1) .second, ?_, by simp, fun j => ?_⟩
          · rw [sl_second hsl (show j0 + 1 - 1 < A.size by omega)]
            exact ss_2 (by simpa using hkA) (by simpa using hkA1) hc (by rw [get_set, if_neg m1, get_set, if_neg (by omega)]; exact hsm) hm
          · rw [get_set, get_set, get_set]
            by_cases e0 : j = j0 + 1
            · subst e0; simp [hkA]
            · by_cases e1 : j = j0 + 1 + 1
              · subst e1; simp [hkA1]
              · by_cases e3 : j = j0
                · subst e3
                  rw [if_neg (by omega), if_neg (by omega), if_pos rfl, if_pos hj0, if_neg (by omega), if_neg (by omega), if_pos (Or.inl ⟨rfl, rfl⟩)]
                · have e0' : ¬ j0 + 1 = j := fun z => e0 z.symm
                  have e1' : ¬ j0 + 1 + 1 = j := fun z => e1 z.symm
                  have e3' : ¬ j0 = j := fun z => e3 z.symm
                  simp [e0, e1, e3, e0', e1', e3', hm]
        | val u1 =>
          by_cases hu1 : u1.category = 2
          · refine ⟨((A.setIfInBounds (k + 1) .unset).setIfInBounds k (.val w)).setIfInBounds (k + 1) .second, ?_, by simp, fun j => ?_⟩
            · rw [sl_val2 hsl hu1 hkA1]
              exact ss_2 (o := .unset) (by simpa using hkA) (by simpa using hkA1) hc (by rw [get_set, if_neg n1, get_set, if_pos rfl, if_pos hkA1]) (by rintro ⟨u, z, -⟩; cases z)
            · rw [get_set, get_set, get_set]
              by_cases e0 : j = k
              · subst e0; simp [hkA]
              · by_cases e1 : j = k + 1
                · subst e1; simp [hkA1]
                · have e0' : ¬ k = j := fun z => e0 z.symm
                  have e1' : ¬ k + 1 = j := fun z => e1 z.symm
                  simp [e0, e1, e0', e1', hm]
          · refine ⟨(A.setIfInBounds k (.val w)).setIfInBounds (k + 1) .second, ?_, by simp, fun j => ?_⟩
            · rw [sl_val1 hsl hu1]; exact ss_2 hkA hkA1 hc (by rw [get_set, if_neg n1]; exact hsm) hm
            · rw [get_set, get_set]
              by_cases e0 : j = k
              · subst e0; simp [hkA]
              · by_cases e1 : j = k + 1
                · subst e1; simp [hkA1]
                · have e0' : ¬ k = j := fun z => e0 z.symm
                  have e1' : ¬ k + 1 = j := fun z => e1 z.symm
                  simp [e0, e1, e0', e1', hm]
    obtain ⟨A', k1, k2, k3⟩ := key
    refine ⟨A', k1, by rw [k2, hA]; simp, ⟨fun i u g1 g2 => ?_, fun i g1 => ?_⟩, fun i s g => ?_⟩
    · by_cases e1 : i = k
      · subst e1; rw [k3]; simp
      · have g1' := g1
        rw [k3, if_neg e1] at g1'
        split at g1'
        · cases g1'
        · rename_i e2
          split at g1'
          · cases g1'
          · rename_i e4
            have g3 := w1 i u g1' g2
            rw [k3]
            have c1 : ¬ i + 1 = k := fun e3 => by
              have : sl = .second := by rw [← e3] at hsl; exact Option.some.inj (hsl.symm.trans g3)
              exact e4 (Or.inl ⟨this, e3⟩)
            have c2 : ¬ i + 1 = k + 1 := by omega
            have c3 : ¬ ((sl = .second ∧ i + 1 + 1 = k) ∨ ((∃ u, sm = .val u ∧ u.category = 2) ∧ i + 1 = k + 2)) := fun z => by
              rcases z with ⟨z1, z2⟩ | ⟨z1, z2⟩
              · subst z2
                rw [z1] at hsl
                obtain ⟨j0, u0, y1, y2, y3⟩ := w2 _ hsl
                have : j0 = i + 1 := by omega
                subst this
                rw [g3] at y2; cases y2
              · omega
            rw [if_neg c1, if_neg c2, if_neg c3]
            exact g3
    · rw [k3] at g1
      split at g1
      · cases g1
      · rename_i e1
        split at g1
        · rename_i e2
          exact ⟨k, w, e2, by rw [k3]; simp, hc⟩
        · rename_i e2
          split at g1
          · cases g1
          · rename_i e4
            obtain ⟨j, u, z1, z2, z3⟩ := w2 i g1
            refine ⟨j, u, z1, ?_, z3⟩
            rw [k3]
            have c1 : ¬ j = k := by omega
            have c2 : ¬ j = k + 1 := fun e => by
              subst e
              exact e4 (Or.inr ⟨⟨u, Option.some.inj (hsm.symm.trans z2), z3⟩, by omega⟩)
            have c3 : ¬ ((sl = .second ∧ j + 1 = k) ∨ ((∃ u, sm = .val u ∧ u.category = 2) ∧ j = k + 2)) := fun z => by
              rcases z with ⟨y1, y2⟩ | ⟨⟨u', y1, y2⟩, y3⟩
              · exact e1 (z1.trans y2)
              · subst y3
                have g5 := w1 (k + 1) u' (y1 ▸ hsm) y2
                rw [z2] at g5; cases g5
            rw [if_neg c1, if_neg c2, if_neg c3]
            exact z2
    · rw [List.getElem?_set] at g
      split at g
      · rename_i e
        subst e
        have : k + 1 < (L.set k (.val v)).length := by simp [hk1]
        rw [if_pos this] at g
        cases g
        show A'[k + 1]? = some .second
        rw [k3]; simp
      · rename_i e
        have e' : ¬ i = k + 1 := fun z => e z.symm
        rw [List.getElem?_set] at g
        split at g
        · rename_i e0
          subst e0
          cases g
          exact ⟨w, hv, by rw [k3]; simp⟩
        · rename_i e0
          have e0' : ¬ i = k := fun z => e0 z.symm
          have g2 := hl i s g
          rw [k3, if_neg e0', if_neg e']
          split
          · rename_i e4
            cases s with
            | unset => trivial
            | second =>
              exfalso
              have g2' : A[i]? = some .second := g2
              rcases e4 with ⟨y1, y2⟩ | ⟨⟨u', y1, y2⟩, y3⟩
              · obtain ⟨j0, u0, x1, x2, x3⟩ := w2 k (y1 ▸ hsl)
                have : i = j0 := by omega
                subst this
                rw [x2] at g2'; cases g2'
              · subst y3
                rw [g] at q3
                simp [isSec] at q3
            | val v0 =>
              exfalso
              obtain ⟨w0, x1, x2⟩ := g2
              rcases e4 with ⟨y1, y2⟩ | ⟨⟨u', y1, y2⟩, y3⟩
              · obtain ⟨j0, u0, z1, z2, z3⟩ := w2 k (y1 ▸ hsl)
                have : i = j0 := by omega
                subst this
                have hw0 : w0 = u0 := by rw [x2] at z2; cases z2; rfl
                have hcat : v0.category = 2 := by rw [← x1.cat, hw0]; exact z3
                subst y2
                have : L[i + 1 - 1]? = some (.val v0) := g
                rw [this] at q2
                simp [isC2, hcat] at q2
              · subst y3
                have g5 := w1 (k + 1) u' (y1 ▸ hsm) y2
                rw [x2] at g5; cases g5
          · exact g2
  · cases hs
/-! The frame with which a method is entered -/
theorem entA_app (ws : List Value) : ∀ acc : Array Slot, ws.foldl (fun acc v => if v.category = 2 then (acc.push (.val v)).push .second else acc.push (.val v)) acc = acc ++ (entA ws).toArray := by
  induction ws with
  | nil => intro acc; simp [entA]
  | cons v r ih =>
    intro acc
    rw [List.foldl_cons, ih]
    show _ = acc ++ (if v.category = 2 then .val v :: .second :: entA r else .val v :: entA r).toArray
    by_cases h : v.category = 2
    · rw [if_pos h, if_pos h]; simp
    · rw [if_neg h, if_neg h]; simp
theorem argsToLocals_eq (ws : List Value) (n : Nat) : argsToLocals ws.toArray n = (entL ws n).toArray := by
  unfold argsToLocals entL
  have h := entA_app ws #[]
  simp only [List.foldl_toArray', List.size_toArray] at *
  simp [h]
theorem entA_len {ρ : List Addr} : ∀ {v w : List Value}, SR ρ v w → (entA w).length = (entA v).length
  | [], _, h => by cases h; rfl
  | _ :: _, _, ⟨w, ws, h1, h2, h3⟩ => by
    subst h1
    unfold entA
    rw [h2.cat]
    split <;> simp [entA_len h3]
theorem entA_rel {ρ : List Addr} : ∀ {v w : List Value}, SR ρ v w → ∀ (m i : Nat) (s : Slot), (entA v ++ List.replicate m .unset)[i]? = some s → SlR ρ s (entA w ++ List.replicate m .unset)[i]?
  | [], _, h, m, i, s, q => by
    cases h
    simp only [entA, List.nil_append] at q ⊢
    rw [List.getElem?_replicate] at q
    split at q
    · cases q; trivial
    · cases q
  | v :: vs, _, ⟨w, ws, h1, h2, h3⟩, m, i, s, q => by
    subst h1
    unfold entA at q ⊢
    rw [h2.cat]
    split
    · rename_i c
      rw [if_pos c] at q
      match i, q with
      | 0, q => simp at q; subst q; exact ⟨w, h2, by simp⟩
      | 1, q => simp at q; subst q; simp [SlR]
      | i + 2, q => simp at q ⊢; exact entA_rel h3 m i s q
    · rename_i c
      rw [if_neg c] at q
      match i, q with
      | 0, q => simp at q; subst q; exact ⟨w, h2, by simp⟩
      | i + 1, q => simp at q ⊢; exact entA_rel h3 m i s q
theorem entA_wf : ∀ (ws : List Value) (m : Nat), (∀ (i : Nat) w, (entA ws ++ List.replicate m .unset)[i]? = some (.val w) → w.category = 2 → (entA ws ++ List.replicate m .unset)[i + 1]? = some .second) ∧
    ∀ (i : Nat), (entA ws ++ List.replicate m .unset)[i]? = some .second → ∃ j w, i = j + 1 ∧ (entA ws ++ List.replicate m .unset)[j]? = some (.val w) ∧ w.category = 2
  | [], m => by
    constructor
    · intro i w q
      simp only [entA, List.nil_append, List.getElem?_replicate] at q
      split at q <;> cases q
    · intro i q
      simp only [entA, List.nil_append, List.getElem?_replicate] at q
      split at q <;> cases q
  | v :: vs, m => by
    obtain ⟨h1, h2⟩ := entA_wf vs m
    unfold entA
    split
    · rename_i c
      constructor
      · intro i w q
        match i, q with
        | 0, q => intro _; simp
        | 1, q => simp at q
        | i + 2, q => simp at q ⊢; exact h1 i w q
      · intro i q
        match i, q with
        | 0, q => simp at q
        | 1, q => exact ⟨0, v, rfl, by simp, c⟩
        | i + 2, q =>
          simp at q
          obtain ⟨j, w, e, g1, g2⟩ := h2 i q
          exact ⟨j + 2, w, by omega, by simpa using g1, g2⟩
    · rename_i c
      constructor
      · intro i w q
        match i, q with
        | 0, q => intro z; simp at q; subst q; exact absurd z c
        | i + 1, q => simp at q ⊢; exact h1 i w q
      · intro i q
        match i, q with
        | 0, q => simp at q
        | i + 1, q =>
          simp at q
          obtain ⟨j, w, e, g1, g2⟩ := h2 i q
          exact ⟨j + 1, w, by omega, by simpa using g1, g2⟩
theorem LR.enter {ρ : List Addr} {v w : List Value} (h : SR ρ v w) {n : Nat} (hn : (entA v).length ≤ n) : LR ρ (entL v n) (argsToLocals w.toArray n) ∧ (argsToLocals w.toArray n).size = n := by
  rw [argsToLocals_eq]
  have hl := entA_len h
  refine ⟨⟨by simp [entL, hl], ?_, fun i s q => ?_⟩, by simp [entL, hl]; omega⟩
  · obtain ⟨h1, h2⟩ := entA_wf w (n - (entA w).length)
    exact ⟨fun i u q c => by simpa [entL] using h1 i u (by simpa [entL] using q) c, fun i q => by
      obtain ⟨j, u, e, g1, g2⟩ := h2 i (by simpa [entL] using q)
      exact ⟨j, u, e, by simpa [entL] using g1, g2⟩⟩
  · unfold entL at q ⊢
    rw [hl]
    simpa using entA_rel h _ i s q
end Jvm.Own
namespace Jvm.RoadKit
open Sem ClassFile Op Lib Jvm.Stand Jvm.Free Jvm.LawKit
section New
variable {p : Program} {l : Launch} {e : Env} {R : Room} {s : State} {m : MethodId} {args : Array Value} {below : List Frame} {meth : Method} {c : Code} {T : State} {locs : List Loc} {cells slots : Nat}
theorem retI (X : Stand p l e R s m args below meth c T locs cells slots) (hx : p.tables.exec = Jvm.exec) {pc : Nat} {Ls : Array Slot} {z : Int32} {rest : List Value} (hret : meth.sig.returnType = some .int) (hd : decode c.code pc = .ok (.ireturn, 1)) {fs : List Frame}
    (hl : ∀ (f : JFrame) (acts : List Action), f.method = m → f.locked = none → f.entered = [] → (doReturn e (T.setTop f) acts (some (.int z))).1 = T.setFrames fs) : Steps p.tables e below (T.setTop (mkF m pc Ls (.int z :: rest))) (T.setFrames fs) := by
  have hm' : T.vm.method? m = some meth := X.method'
  have hn : narrow .int (.int z) = .int z := rfl
  show Steps p.tables e below (T.setTop { method := m, pc := pc, locals := Ls, stack := _ :: rest, locked := none }) _
  jvm_step X.here [X.here.top, hx, hd, hm', hret, hn]
  first | (intro acts; rw [hl _ acts rfl rfl rfl]) | rw [hl _ _ rfl rfl rfl]
  exact Steps.refl _
end New
end Jvm.RoadKit
namespace Jvm.Own
open Jvm Jvm.ClassFile Sem Op Lib Jvm.Free Jvm.Stand Jvm.LawKit Jvm.RoadKit Bundle
/-! The plain heap and the real one -/
def tyA (b : Bool) : FieldType := if b then .boolean else .int
def CR (P : PD) (Z : State) (h : Heap) (ρ : List Addr) (a : Addr) : ACell → Prop
  | .inl (c, fs) => ∃ cd, P.cls[c]? = some cd ∧ Exa Z h a cd.1 ∧ fs.length = cd.2.2.length ∧ ∀ (i : Nat) v fd, fs[i]? = some v → cd.2.2[i]? = some fd → ∃ w, VR ρ v w ∧ Fld Z h a cd.1 fd.1 fd.2.1 w
  | .inr (.inl (b, L)) => ∃ cl, Arr Z h a cl (tyA b) ∧ cl.slots.size = L.length ∧ L.length < 2 ^ 31 ∧ ∀ (i : Nat) x, L[i]? = some x → cl.slots[i]? = some (.int x)
  | .inr (.inr L) => ∃ cl, Arr Z h a cl .long ∧ cl.slots.size = L.length ∧ L.length < 2 ^ 31 ∧ ∀ (i : Nat) x, L[i]? = some x → cl.slots[i]? = some (.long x)
def HR (P : PD) (Z : State) (n0 : Nat) (h : Heap) (ρ : List Addr) (H : AHeap) : Prop :=
  n0 ≤ h.size ∧ ρ.length = H.length ∧ (∀ (i j : Nat) a, ρ[i]? = some a → ρ[j]? = some a → i = j) ∧ (∀ (k : Nat) a, ρ[k]? = some a → P.nr ≤ k → n0 ≤ a) ∧ ∀ (k : Nat) a c, ρ[k]? = some a → H[k]? = some c → CR P Z h ρ a c
section Heaps
variable {P : PD} {Z : State} {n0 : Nat} {h h' : Heap} {ρ : List Addr} {H : AHeap} {a : Addr} {k : Nat} {a0 : Array Value}
theorem CR.lt {c : ACell} (q : CR P Z h ρ a c) : a < h.size := by
  match c, q with
  | .inl (_, _), q => obtain ⟨cd, -, E, -⟩ := q; exact E.lt
  | .inr (.inl (_, _)), q => obtain ⟨cl, A, -⟩ := q; exact A.lt
  | .inr (.inr _), q => obtain ⟨cl, A, -⟩ := q; exact A.lt
theorem HR.at (q : HR P Z n0 h ρ H) {c : ACell} (hc : H[k]? = some c) : ∃ a, ρ[k]? = some a ∧ CR P Z h ρ a c := by
  obtain ⟨-, q1, -, -, q4⟩ := q
  have hk : k < ρ.length := by rw [q1]; exact (List.getElem?_eq_some_iff.mp hc).1
  exact ⟨ρ[k], List.getElem?_eq_getElem hk, q4 k _ c (List.getElem?_eq_getElem hk) hc⟩
theorem HR.lt (q : HR P Z n0 h ρ H) (hk : ρ[k]? = some a) : a < h.size := by
  obtain ⟨-, q1, -, -, q4⟩ := q
  have hk' : k < H.length := by rw [← q1]; exact (List.getElem?_eq_some_iff.mp hk).1
  exact (q4 k a _ hk (List.getElem?_eq_getElem hk')).lt
theorem CR.grow {t : List Addr} {c : ACell} (E : Ext h h') (q : CR P Z h ρ a c) : CR P Z h' (ρ ++ t) a c := by
  match c, q with
  | .inl (_, _), ⟨cd, q1, q2, q3, q4⟩ => exact ⟨cd, q1, q2.ext E, q3, fun i v fd g1 g2 => by obtain ⟨w, z1, z2⟩ := q4 i v fd g1 g2; exact ⟨w, z1.mono, z2.ext E⟩⟩
  | .inr (.inl (_, _)), ⟨cl, q1, q2⟩ => exact ⟨cl, q1.ext E, q2⟩
  | .inr (.inr _), ⟨cl, q1, q2⟩ => exact ⟨cl, q1.ext E, q2⟩
theorem HR.push {c : ACell} (q : HR P Z n0 h ρ H) (E : Ext h h') (hc : CR P Z h' (ρ ++ [h.size]) h.size c) : HR P Z n0 h' (ρ ++ [h.size]) (H ++ [c]) := by
  have q0 := q
  obtain ⟨q1, q2, q3, q4, q5⟩ := q
  have old : ∀ (i : Nat) b, (ρ ++ [h.size])[i]? = some b → (ρ[i]? = some b ∧ b < h.size) ∨ (i = ρ.length ∧ b = h.size) := fun i b g => by
    rw [List.getElem?_append] at g
    split at g
    · exact Or.inl ⟨g, q0.lt g⟩
    · rename_i z
      right
      have : i - ρ.length = 0 := by
        rcases Nat.eq_zero_or_pos (i - ρ.length) with y | y
        · exact y
        · rw [List.getElem?_eq_none (by simp; omega)] at g; cases g
      rw [this] at g
      simp at g
      exact ⟨by omega, g.symm⟩
  refine ⟨Nat.le_trans q1 E.1, by simp [q2], fun i j b g1 g2 => ?_, fun i b g1 g2 => ?_, fun i b c' g1 g2 => ?_⟩
  · rcases old i b g1 with ⟨y1, y2⟩ | ⟨y1, y2⟩ <;> rcases old j b g2 with ⟨z1, z2⟩ | ⟨z1, z2⟩
    · exact q3 i j b y1 z1
    · exact absurd (z2 ▸ y2) (Nat.lt_irrefl _)
    · exact absurd (y2 ▸ z2) (Nat.lt_irrefl _)
    · rw [y1, z1]
  · rcases old i b g1 with ⟨y1, y2⟩ | ⟨y1, y2⟩
    · exact q4 i b y1 g2
    · rw [y2]; exact q1
  · rcases old i b g1 with ⟨y1, y2⟩ | ⟨y1, y2⟩
    · have hi : i < H.length := by rw [← q2]; exact (List.getElem?_eq_some_iff.mp y1).1
      rw [List.getElem?_append_left hi] at g2
      exact (q5 i b c' y1 g2).grow E
    · subst y1 y2
      rw [q2] at g2
      simp at g2
      subst g2
      exact hc
theorem CR.other {v : Value} {sl : Nat} {b : Addr} {c : ACell} (W : Wr h h' a sl v) (ne : b ≠ a) (q : CR P Z h ρ b c) : CR P Z h' ρ b c := by
  match c, q with
  | .inl (_, _), ⟨cd, q1, q2, q3, q4⟩ => exact ⟨cd, q1, q2.wr W, q3, fun i v fd g1 g2 => by obtain ⟨w, z1, z2⟩ := q4 i v fd g1 g2; exact ⟨w, z1, z2.other W (Or.inl ne)⟩⟩
  | .inr (.inl (_, _)), ⟨cl, q1, q2⟩ => exact ⟨cl, q1.other W ne, q2⟩
  | .inr (.inr _), ⟨cl, q1, q2⟩ => exact ⟨cl, q1.other W ne, q2⟩
theorem HR.set {v : Value} {sl : Nat} {c : ACell} (q : HR P Z n0 h ρ H) (hk : ρ[k]? = some a) (W : Wr h h' a sl v) (hc : CR P Z h' ρ a c) : HR P Z n0 h' ρ (H.set k c) := by
  obtain ⟨q1, q2, q3, q4, q5⟩ := q
  refine ⟨by rw [W.size]; exact q1, by simp [q2], q3, q4, fun i b c' g1 g2 => ?_⟩
  rw [List.getElem?_set] at g2
  split at g2
  · rename_i e
    subst e
    split at g2
    · cases g2
      rw [hk] at g1; cases g1
      exact hc
    · cases g2
  · rename_i e
    exact (q5 i b c' g1 g2).other W fun z => e (q3 k i a hk (z ▸ g1))
theorem nodup_ne : ∀ {l : List String}, nodup l = true → ∀ {i j : Nat} {x y : String}, l[i]? = some x → l[j]? = some y → i ≠ j → x ≠ y
  | [], _, i, j, x, y, h1, _, _ => by simp at h1
  | z :: r, hn, i, j, x, y, h1, h2, ne => by
    simp only [nodup, Bool.and_eq_true, Bool.not_eq_true', List.contains_eq_mem, decide_eq_false_iff_not] at hn
    match i, j, h1, h2, ne with
    | 0, 0, _, _, ne => exact absurd rfl ne
    | 0, j + 1, h1, h2, _ => simp at h1 h2; subst h1; exact fun e => hn.1 (e ▸ List.mem_of_getElem? h2)
    | i + 1, 0, h1, h2, _ => simp at h1 h2; subst h2; exact fun e => hn.1 (e ▸ List.mem_of_getElem? h1)
    | i + 1, j + 1, h1, h2, ne => simp at h1 h2; exact nodup_ne hn.2 h1 h2 (fun e => ne (by rw [e]))
theorem laid_of {C : String} {f : FD} (w : (fWord C f).before a0 Z = true) : Laid Z a0 C C f.1 f.2.1 := by
  unfold fWord at w
  split at w
  · exact Or.inr w
  · exact Or.inl w
theorem HR.putF {c j : Nat} {fs : List Value} {cd : CD} {fd : FD} {v w : Value} (q : HR P Z n0 h ρ H) (hk : ρ[k]? = some a) (hc : H[k]? = some (.inl (c, fs))) (hcd : P.cls[c]? = some cd) (hfd : cd.2.2[j]? = some fd)
    (hck : cChk cd = true) (hl : ∀ f ∈ cd.2.2, (fWord cd.1 f).before a0 Z = true) (W : Wr h h' a (RoadKit.slotOf Z cd.1 fd.1 fd.2.1) w) (hv : VR ρ v w) : HR P Z n0 h' ρ (H.set k (.inl (c, fs.set j v))) := by
  obtain ⟨a', ha, cr⟩ := q.at hc
  rw [hk] at ha; cases ha
  obtain ⟨cd', q1, q2, q3, q4⟩ := cr
  rw [hcd] at q1; cases q1
  refine q.set hk W ⟨cd, hcd, q2.wr W, by simp [q3], fun i v0 fd' g1 g2 => ?_⟩
  simp only [cChk, Bool.and_eq_true, List.all_eq_true] at hck
  obtain ⟨n1, n2⟩ := hck
  by_cases e : j = i
  · subst e
    rw [hfd] at g2; cases g2
    rw [List.getElem?_set] at g1
    split at g1
    · split at g1
      · cases g1
        rename_i z
        obtain ⟨w0, -, F⟩ := q4 j _ fd (List.getElem?_eq_getElem z) hfd
        exact ⟨w, hv, F.same W⟩
      · cases g1
    · rename_i z; exact absurd rfl z
  · rw [List.getElem?_set_ne e] at g1
    obtain ⟨w0, z1, F⟩ := q4 i v0 fd' g1 g2
    refine ⟨w0, z1, F.other W (Or.inr ?_)⟩
    have m1 := List.mem_of_getElem? hfd
    have m2 := List.mem_of_getElem? g2
    have f1 := n2 fd m1
    have f2 := n2 fd' m2
    simp only [fChk, Bool.and_eq_true, decide_eq_true_eq] at f1 f2
    refine slot_ne (laid_of (hl fd' m2)) (laid_of (hl fd m1)) ?_ f2.1 f1.1
    exact nodup_ne n1 (i := i) (j := j) (by simp [g2]) (by simp [hfd]) (fun z => e z.symm)
theorem HR.wrI {b : Bool} {L : List Int32} {i : Nat} {x : Int32} (q : HR P Z n0 h ρ H) (hk : ρ[k]? = some a) (hc : H[k]? = some (.inr (.inl (b, L)))) (W : Wr h h' a i (.int x)) : HR P Z n0 h' ρ (H.set k (.inr (.inl (b, L.set i x)))) := by
  obtain ⟨a', ha, cr⟩ := q.at hc
  rw [hk] at ha; cases ha
  obtain ⟨cl, A, q2, q3, q4⟩ := cr
  have lt : i < cl.slots.size := by
    obtain ⟨cl', z1, -, z3, -⟩ := W
    rw [A.1] at z1; cases z1
    exact z3
  refine q.set hk W ⟨_, A.same W, by simp [sz_set, q2], by simpa using q3, fun j y g => ?_⟩
  rw [List.getElem?_set] at g
  split at g
  · rename_i e
    subst e
    split at g
    · cases g; simp [Cell.setSlot, lt]
    · cases g
  · rename_i e
    have := q4 j y g
    simp [Cell.setSlot, Array.getElem?_setIfInBounds, e, this]
theorem HR.wrJ {L : List Int64} {i : Nat} {x : Int64} (q : HR P Z n0 h ρ H) (hk : ρ[k]? = some a) (hc : H[k]? = some (.inr (.inr L))) (W : Wr h h' a i (.long x)) : HR P Z n0 h' ρ (H.set k (.inr (.inr (L.set i x)))) := by
  obtain ⟨a', ha, cr⟩ := q.at hc
  rw [hk] at ha; cases ha
  obtain ⟨cl, A, q2, q3, q4⟩ := cr
  have lt : i < cl.slots.size := by
    obtain ⟨cl', z1, -, z3, -⟩ := W
    rw [A.1] at z1; cases z1
    exact z3
  refine q.set hk W ⟨_, A.same W, by simp [sz_set, q2], by simpa using q3, fun j y g => ?_⟩
  rw [List.getElem?_set] at g
  split at g
  · rename_i e
    subst e
    split at g
    · cases g; simp [Cell.setSlot, lt]
    · cases g
  · rename_i e
    have := q4 j y g
    simp [Cell.setSlot, Array.getElem?_setIfInBounds, e, this]
end Heaps
theorem SR.int {ρ : List Addr} {x : Int32} {S Sc : List Value} (h : SR ρ (.int x :: S) Sc) : ∃ Sc', Sc = .int x :: Sc' ∧ SR ρ S Sc' := by
  obtain ⟨w, ws, h1, h2, h3⟩ := h
  exact ⟨ws, by rw [h1, show w = .int x from h2], h3⟩
theorem SR.long {ρ : List Addr} {x : Int64} {S Sc : List Value} (h : SR ρ (.long x :: S) Sc) : ∃ Sc', Sc = .long x :: Sc' ∧ SR ρ S Sc' := by
  obtain ⟨w, ws, h1, h2, h3⟩ := h
  exact ⟨ws, by rw [h1, show w = .long x from h2], h3⟩
theorem SR.ref {ρ : List Addr} {x : Nat} {S Sc : List Value} (h : SR ρ (.ref x :: S) Sc) : ∃ a Sc', ρ[x]? = some a ∧ Sc = .ref a :: Sc' ∧ SR ρ S Sc' := by
  obtain ⟨w, ws, h1, ⟨a, h2, h4⟩, h3⟩ := h
  exact ⟨a, ws, h2, by rw [h1, h4], h3⟩
theorem rdA_spec {α : Type} {L : List α} {j : Int32} {x : α} (h : rdA L j = some x) : ¬ j < 0 ∧ L[j.toNatClampNeg]? = some x := by
  unfold rdA at h
  split at h
  · cases h
  · rename_i q; exact ⟨q, h⟩
theorem wrA_spec {α : Type} {L L' : List α} {j : Int32} {x : α} (h : wrA L j x = some L') : ¬ j < 0 ∧ j.toNatClampNeg < L.length ∧ L' = L.set j.toNatClampNeg x := by
  unfold wrA at h
  split at h
  · cases h
  · rename_i q
    split at h
    · rename_i z; cases h; exact ⟨q, z, rfl⟩
    · cases h
end Jvm.Own
namespace Jvm.Own
open Jvm Jvm.ClassFile Sem Op Lib Jvm.Free Jvm.Stand Jvm.LawKit Jvm.RoadKit Bundle
theorem st1_len {L L' : List Slot} {k : Nat} {v : Value} (h : st1 L k v = some L') : L'.length = L.length := by
  unfold st1 at h
  split at h
  · cases h; simp
  · cases h
theorem st2_len {L L' : List Slot} {k : Nat} {v : Value} (h : st2 L k v = some L') : L'.length = L.length := by
  unfold st2 at h
  split at h
  · cases h; simp
  · cases h
theorem lrem_mod (x y : Int64) : x - (x / y) * y = x % y := by
  apply Int64.toInt_inj.mp
  have h1 := Int64.le_toInt (x % y)
  have h2 := Int64.toInt_lt (x % y)
  rw [Int64.toInt_sub, Int64.toInt_mul, Int64.toInt_div, Int.bmod_mul_bmod, Int.sub_bmod_bmod, Int.mul_comm (x.toInt.tdiv y.toInt), ← Int.tmod_def, ← Int64.toInt_mod]
  exact Int.bmod_eq_of_le_mul_two (by omega) (by omega)
theorem putOk_sim {ρ : List Addr} {ty : FieldType} {v w : Value} (h : putOk ty v = true) (hv : VR ρ v w) : narrow ty w = w ∧ fits ty w = true := by
  cases ty <;> cases v <;> first | (simp [putOk] at h; done) | skip
  · cases hv; exact ⟨rfl, rfl⟩
  · cases hv; exact ⟨rfl, rfl⟩
  · rename_i x
    cases hv
    simp only [putOk, Bool.or_eq_true, beq_iff_eq] at h
    rcases h with rfl | rfl
    · exact ⟨rfl, rfl⟩
    · exact ⟨rfl, rfl⟩
  · obtain ⟨a, -, rfl⟩ := hv; exact ⟨rfl, rfl⟩
theorem dflt_sim {ρ : List Addr} {ty : FieldType} (h : dfOk ty = true) : VR ρ (dflt ty) (defaultValue ty) := by
  cases ty <;> first | (simp [dfOk] at h; done) | exact rfl
theorem fieldOf_spec {P : PD} {c a : Nat} {cd : CD} {f : FD} (h1 : P.cls[c]? = some cd) (h2 : cd.2.2[a]? = some f) : fieldOf P c a = some f := by simp [fieldOf, h1, h2]
theorem in_wordsOf {P : PD} {d : MD} {x : Nat × It} {w : Jvm.Cond} (hd : d ∈ P.mth) (hx : x ∈ d.code) (hw : w ∈ iWords P d x) : w ∈ wordsOf P :=
  List.mem_append_right _ (List.mem_flatMap.mpr ⟨d, hd, List.mem_flatMap.mpr ⟨x, hx, hw⟩⟩)
theorem in_wordsC {P : PD} {cd : CD} {w : Jvm.Cond} (hd : cd ∈ P.cls) (hw : w ∈ cWords cd) : w ∈ wordsOf P :=
  List.mem_append_left _ (List.mem_append_left _ (List.mem_flatMap.mpr ⟨cd, hd, hw⟩))
theorem in_wordsM {P : PD} {y : MD} {j : Nat} {w : Jvm.Cond} (hd : P.mth[j]? = some y) (hj : 0 < j) (hw : w ∈ mWords y) : w ∈ wordsOf P := by
  refine List.mem_append_left _ (List.mem_append_right _ (List.mem_flatMap.mpr ⟨y, ?_, hw⟩))
  have : (P.mth.drop 1)[j - 1]? = some y := by rw [List.getElem?_drop]; rw [show 1 + (j - 1) = j by omega]; exact hd
  exact List.mem_of_getElem? this
theorem fWord_in {cd : CD} {f : FD} (h : f ∈ cd.2.2) : fWord cd.1 f ∈ cWords cd := List.mem_cons_of_mem _ (List.mem_cons_of_mem _ (List.mem_map.mpr ⟨f, h, rfl⟩))
theorem cChk_of {P : PD} (hP : chk P = true) {cd : CD} (h : cd ∈ P.cls) : cChk cd = true := by
  simp only [chk, Bool.and_eq_true, List.all_eq_true] at hP
  exact hP.1 cd h
theorem mChk_of {P : PD} (hP : chk P = true) {d : MD} (h : d ∈ P.mth) : mChk P d = true := by
  simp only [chk, Bool.and_eq_true, List.all_eq_true] at hP
  exact hP.2 d h
theorem cid_of {P : PD} (hP : chk P = true) {d : MD} (h : d ∈ P.mth) {cd : CD} (hc : P.cls[d.cid]? = some cd) : cd.1 = d.name.cls := by
  have := mChk_of hP h
  simp only [mChk, Bool.and_eq_true] at this
  have h4 := this.1.1.1.2
  unfold clsChk at h4
  rw [hc] at h4
  simpa using h4
section Step
variable {P : PD} {Z : State} {n0 : Nat} {a0 : Array Value} {l : Launch} {p : Program} {e : Env} {R : Room} {s : State} {m : MethodId} {args : Array Value} {below : List Frame} {meth : Method} {c : Code} {T : State} {locs : List Loc} {cells slots : Nat} {d : MD}
def Nxt (P : PD) (Z : State) (n0 : Nat) (l : Launch) (p : Program) (e : Env) (R : Room) (s : State) (m : MethodId) (args : Array Value) (below : List Frame) (meth : Method) (c : Code) (T : State) (cells slots : Nat) (ρ : List Addr) (g : JFrame) (pc' : Nat) (L L' : List Slot) (S' : List Value) (H1 : AHeap) : Prop :=
  ∃ T' locs' A' Sc', Stand p l e R s m args below meth c T' locs' cells slots ∧ L'.length = L.length ∧ LR ρ L' A' ∧ SR ρ S' Sc' ∧ HR P Z n0 T'.heap ρ H1 ∧ Fr n0 locs' ∧
    ∀ target, Steps p.tables e below (T'.setTop (mkF m pc' A' Sc')) target → Steps p.tables e below (T.setTop g) target
theorem Nxt.pure {ρ : List Addr} {H : AHeap} {g : JFrame} {pc' : Nat} {L L' : List Slot} {S' Sc' : List Value} {A' : Array Slot} (X : Stand p l e R s m args below meth c T locs cells slots) (hl : L'.length = L.length) (hL : LR ρ L' A') (hS : SR ρ S' Sc') (hH : HR P Z n0 T.heap ρ H) (hF : Fr n0 locs)
    (k : ∀ target, Steps p.tables e below (T.setTop (mkF m pc' A' Sc')) target → Steps p.tables e below (T.setTop g) target) : Nxt P Z n0 l p e R s m args below meth c T cells slots ρ g pc' L L' S' H :=
  ⟨T, locs, A', Sc', X, hl, hL, hS, hH, hF, k⟩
theorem Nxt.mem {ρ : List Addr} {H1 : AHeap} {g : JFrame} {pc' : Nat} {L L' : List Slot} {S' Sc' : List Value} {A' : Array Slot} {T' : State} {locs' : List Loc} (X : Stand p l e R s m args below meth c T' locs' cells slots) (hl : L'.length = L.length) (hL : LR ρ L' A') (hS : SR ρ S' Sc') (hH : HR P Z n0 T'.heap ρ H1) (hF : Fr n0 locs')
    (k : ∀ target, Steps p.tables e below (T'.setTop (mkF m pc' A' Sc')) target → Steps p.tables e below (T.setTop g) target) : Nxt P Z n0 l p e R s m args below meth c T cells slots ρ g pc' L L' S' H1 :=
  ⟨T', locs', A', Sc', X, hl, hL, hS, hH, hF, k⟩
set_option maxHeartbeats 4000000 in
theorem stepX (X : Stand p l e R s m args below meth c T locs cells slots) (hx : p.tables.exec = Jvm.exec) (hZ : Z.Warmed39 s.vm) (hown : s.vm.findClass d.name.cls = some m.cls) (hnm : meth.name = d.name.name) (hP : chk P = true) (hW : ∀ w ∈ wordsOf P, w.before a0 Z = true) (hdm : d ∈ P.mth)
    {pc len a : Nat} {er : List Bool} {b : Int} {i : Instr} (hit : (pc, i, len, er, a, b) ∈ d.code) (hd : decode c.code pc = .ok (i, len)) (hlen : lenOk i len = true) {ρ : List Addr} {L L' : List Slot} {S S' Sc : List Value} {H H1 : AHeap} {A : Array Slot}
    (hL : LR ρ L A) (hS : SR ρ S Sc) (hH : HR P Z n0 T.heap ρ H) (hF : Fr n0 locs) (h : xI P (d.name.name == "<init>") d.cid i a b L S H = some (L', S', H1)) :
    Nxt P Z n0 l p e R s m args below meth c T cells slots ρ (mkF m pc A Sc) (pc + len) L L' S' H1 := by
  have hWi : ∀ w ∈ iWords P d (pc, i, len, er, a, b), w.before a0 Z = true := fun w q => hW w (in_wordsOf hdm hit q)
  cases i with
  | aload_n k =>
    obtain rfl : len = 1 := by simpa [lenOk] using hlen
    simp only [xI] at h
    split at h
    · rename_i x q
      cases h
      obtain ⟨w, hv, hg⟩ := hL.get q
      obtain ⟨ad, h1, rfl⟩ := hv
      exact Nxt.pure X rfl hL ⟨_, _, rfl, ⟨ad, h1, rfl⟩, hS⟩ hH hF (fun t z => XS.aloadN (g := mkF m pc A Sc) X.here hx rfl hd hg rfl z)
    · cases h
  | aload k =>
    obtain rfl : len = 2 := by simpa [lenOk] using hlen
    simp only [xI] at h
    split at h
    · rename_i x q
      cases h
      obtain ⟨w, hv, hg⟩ := hL.get q
      obtain ⟨ad, h1, rfl⟩ := hv
      exact Nxt.pure X rfl hL ⟨_, _, rfl, ⟨ad, h1, rfl⟩, hS⟩ hH hF (fun t z => XS.aload (g := mkF m pc A Sc) X.here hx rfl hd hg rfl z)
    · cases h
  | iload_n k =>
    obtain rfl : len = 1 := by simpa [lenOk] using hlen
    simp only [xI] at h
    split at h
    · rename_i x q
      cases h
      obtain ⟨w, hv, hg⟩ := hL.get q
      obtain rfl : w = .int _ := hv
      exact Nxt.pure X rfl hL ⟨_, _, rfl, rfl, hS⟩ hH hF (fun t z => XS.iloadN (g := mkF m pc A Sc) X.here hx rfl hd hg z)
    · cases h
  | iload k =>
    obtain rfl : len = 2 := by simpa [lenOk] using hlen
    simp only [xI] at h
    split at h
    · rename_i x q
      cases h
      obtain ⟨w, hv, hg⟩ := hL.get q
      obtain rfl : w = .int _ := hv
      exact Nxt.pure X rfl hL ⟨_, _, rfl, rfl, hS⟩ hH hF (fun t z => XS.iload (g := mkF m pc A Sc) X.here hx rfl hd hg z)
    · cases h
  | lload_n k =>
    obtain rfl : len = 1 := by simpa [lenOk] using hlen
    simp only [xI] at h
    split at h
    · rename_i x q
      cases h
      obtain ⟨w, hv, hg⟩ := hL.get q
      obtain rfl : w = .long _ := hv
      exact Nxt.pure X rfl hL ⟨_, _, rfl, rfl, hS⟩ hH hF (fun t z => XT.lloadN (g := mkF m pc A Sc) X.here hx rfl hd hg z)
    · cases h
  | lload k =>
    obtain rfl : len = 2 := by simpa [lenOk] using hlen
    simp only [xI] at h
    split at h
    · rename_i x q
      cases h
      obtain ⟨w, hv, hg⟩ := hL.get q
      obtain rfl : w = .long _ := hv
      exact Nxt.pure X rfl hL ⟨_, _, rfl, rfl, hS⟩ hH hF (fun t z => XT.lload (g := mkF m pc A Sc) X.here hx rfl hd hg z)
    · cases h
  | istore_n k =>
    obtain rfl : len = 1 := by simpa [lenOk] using hlen
    simp only [xI] at h
    split at h
    · rename_i x S0
      obtain ⟨L1, q, e1⟩ := Option.map_eq_some_iff.mp h
      cases e1
      obtain ⟨S2, rfl, h2⟩ := hS.int
      obtain ⟨A', z1, z2⟩ := store1_sim hL q (show VR ρ (.int x) (.int x) from rfl) rfl
      exact Nxt.pure X (st1_len q) z2 h2 hH hF (fun t z => XS.istoreN (g := mkF m pc A _) X.here hx rfl hd rfl z1 z)
    · cases h
  | istore k =>
    obtain rfl : len = 2 := by simpa [lenOk] using hlen
    simp only [xI] at h
    split at h
    · rename_i x S0
      obtain ⟨L1, q, e1⟩ := Option.map_eq_some_iff.mp h
      cases e1
      obtain ⟨S2, rfl, h2⟩ := hS.int
      obtain ⟨A', z1, z2⟩ := store1_sim hL q (show VR ρ (.int x) (.int x) from rfl) rfl
      exact Nxt.pure X (st1_len q) z2 h2 hH hF (fun t z => XS.istore (g := mkF m pc A _) X.here hx rfl hd rfl z1 z)
    · cases h
  | astore_n k =>
    obtain rfl : len = 1 := by simpa [lenOk] using hlen
    simp only [xI] at h
    split at h
    · rename_i x S0
      obtain ⟨L1, q, e1⟩ := Option.map_eq_some_iff.mp h
      cases e1
      obtain ⟨ad, S2, h1, rfl, h2⟩ := hS.ref
      obtain ⟨A', z1, z2⟩ := store1_sim hL q (show VR ρ (.ref x) (.ref ad) from ⟨ad, h1, rfl⟩) rfl
      exact Nxt.pure X (st1_len q) z2 h2 hH hF (fun t z => XS.astoreN (g := mkF m pc A _) X.here hx rfl hd rfl rfl z1 z)
    · cases h
  | astore k =>
    obtain rfl : len = 2 := by simpa [lenOk] using hlen
    simp only [xI] at h
    split at h
    · rename_i x S0
      obtain ⟨L1, q, e1⟩ := Option.map_eq_some_iff.mp h
      cases e1
      obtain ⟨ad, S2, h1, rfl, h2⟩ := hS.ref
      obtain ⟨A', z1, z2⟩ := store1_sim hL q (show VR ρ (.ref x) (.ref ad) from ⟨ad, h1, rfl⟩) rfl
      exact Nxt.pure X (st1_len q) z2 h2 hH hF (fun t z => XS.astore (g := mkF m pc A _) X.here hx rfl hd rfl rfl z1 z)
    · cases h
  | lstore_n k =>
    obtain rfl : len = 1 := by simpa [lenOk] using hlen
    simp only [xI] at h
    split at h
    · rename_i x S0
      obtain ⟨L1, q, e1⟩ := Option.map_eq_some_iff.mp h
      cases e1
      obtain ⟨S2, rfl, h2⟩ := hS.long
      obtain ⟨A', z1, z2⟩ := store2_sim hL q (show VR ρ (.long x) (.long x) from rfl) rfl
      exact Nxt.pure X (st2_len q) z2 h2 hH hF (fun t z => XT.lstoreN (g := mkF m pc A _) X.here hx rfl hd rfl z1 z)
    · cases h
  | lstore k =>
    obtain rfl : len = 2 := by simpa [lenOk] using hlen
    simp only [xI] at h
    split at h
    · rename_i x S0
      obtain ⟨L1, q, e1⟩ := Option.map_eq_some_iff.mp h
      cases e1
      obtain ⟨S2, rfl, h2⟩ := hS.long
      obtain ⟨A', z1, z2⟩ := store2_sim hL q (show VR ρ (.long x) (.long x) from rfl) rfl
      exact Nxt.pure X (st2_len q) z2 h2 hH hF (fun t z => XT.lstore (g := mkF m pc A _) X.here hx rfl hd rfl z1 z)
    · cases h
  | iinc k dd =>
    obtain rfl : len = 3 := by simpa [lenOk] using hlen
    simp only [xI] at h
    split at h
    · rename_i x q0
      obtain ⟨L1, q, e1⟩ := Option.map_eq_some_iff.mp h
      cases e1
      obtain ⟨w, hv, hg⟩ := hL.get q0
      obtain rfl : w = .int _ := hv
      obtain ⟨A', z1, z2⟩ := store1_sim hL q (show VR ρ (.int (x + Int32.ofInt dd)) (.int (x + Int32.ofInt dd)) from rfl) rfl
      exact Nxt.pure X (st1_len q) z2 hS hH hF (fun t z => XS.iinc (g := mkF m pc A Sc) X.here hx rfl hd hg z1 z)
    · cases h
  | iconst v =>
    obtain rfl : len = 1 := by simpa [lenOk] using hlen
    simp only [xI] at h
    cases h
    exact Nxt.pure X rfl hL ⟨_, _, rfl, rfl, hS⟩ hH hF (fun t z => XS.iconst (g := mkF m pc A Sc) X.here hx rfl hd z)
  | bipush v =>
    obtain rfl : len = 2 := by simpa [lenOk] using hlen
    simp only [xI] at h
    cases h
    exact Nxt.pure X rfl hL ⟨_, _, rfl, rfl, hS⟩ hH hF (fun t z => XS.bipush (g := mkF m pc A Sc) X.here hx rfl hd z)
  | sipush v =>
    obtain rfl : len = 3 := by simpa [lenOk] using hlen
    simp only [xI] at h
    cases h
    exact Nxt.pure X rfl hL ⟨_, _, rfl, rfl, hS⟩ hH hF (fun t z => XS.sipush (g := mkF m pc A Sc) X.here hx rfl hd z)
  | lconst v =>
    obtain rfl : len = 1 := by simpa [lenOk] using hlen
    simp only [xI] at h
    cases h
    exact Nxt.pure X rfl hL ⟨_, _, rfl, rfl, hS⟩ hH hF (fun t z => XT.lconst (g := mkF m pc A Sc) X.here hx rfl hd z)
  | ldc k =>
    obtain rfl : len = 2 := by simpa [lenOk] using hlen
    simp only [xI] at h
    cases h
    have w1 := hWi (.constant d.name.cls k (Int32.ofInt b)) (List.mem_singleton.mpr rfl)
    exact Nxt.pure X rfl hL ⟨_, _, rfl, rfl, hS⟩ hH hF (fun t z => X.ldcInt hx hown (mvT hZ w1) (g := mkF m pc A Sc) rfl hd t z)
  | ldc2_w k =>
    obtain rfl : len = 3 := by simpa [lenOk] using hlen
    simp only [xI] at h
    cases h
    have w1 := hWi (.constantLong d.name.cls k (Int64.ofInt b)) (List.mem_singleton.mpr rfl)
    exact Nxt.pure X rfl hL ⟨_, _, rfl, rfl, hS⟩ hH hF (fun t z => X.ldc2Long hx hown (mvT hZ w1) (g := mkF m pc A Sc) rfl hd t z)
  | iadd =>
    obtain rfl : len = 1 := by simpa [lenOk] using hlen
    simp only [xI] at h
    split at h
    · rename_i y x S0
      cases h
      obtain ⟨S1, rfl, h1⟩ := hS.int
      obtain ⟨S2, rfl, h2⟩ := h1.int
      exact Nxt.pure X rfl hL ⟨_, _, rfl, rfl, h2⟩ hH hF (fun t z => XS.iadd (g := mkF m pc A _) X.here hx rfl hd rfl z)
    · cases h
  | isub =>
    obtain rfl : len = 1 := by simpa [lenOk] using hlen
    simp only [xI] at h
    split at h
    · rename_i y x S0
      cases h
      obtain ⟨S1, rfl, h1⟩ := hS.int
      obtain ⟨S2, rfl, h2⟩ := h1.int
      exact Nxt.pure X rfl hL ⟨_, _, rfl, rfl, h2⟩ hH hF (fun t z => XS.isub (g := mkF m pc A _) X.here hx rfl hd rfl z)
    · cases h
  | imul =>
    obtain rfl : len = 1 := by simpa [lenOk] using hlen
    simp only [xI] at h
    split at h
    · rename_i y x S0
      cases h
      obtain ⟨S1, rfl, h1⟩ := hS.int
      obtain ⟨S2, rfl, h2⟩ := h1.int
      exact Nxt.pure X rfl hL ⟨_, _, rfl, rfl, h2⟩ hH hF (fun t z => XS.imul (g := mkF m pc A _) X.here hx rfl hd rfl z)
    · cases h
  | iand =>
    obtain rfl : len = 1 := by simpa [lenOk] using hlen
    simp only [xI] at h
    split at h
    · rename_i y x S0
      cases h
      obtain ⟨S1, rfl, h1⟩ := hS.int
      obtain ⟨S2, rfl, h2⟩ := h1.int
      exact Nxt.pure X rfl hL ⟨_, _, rfl, rfl, h2⟩ hH hF (fun t z => XS.iand (g := mkF m pc A _) X.here hx rfl hd rfl z)
    · cases h
  | ior =>
    obtain rfl : len = 1 := by simpa [lenOk] using hlen
    simp only [xI] at h
    split at h
    · rename_i y x S0
      cases h
      obtain ⟨S1, rfl, h1⟩ := hS.int
      obtain ⟨S2, rfl, h2⟩ := h1.int
      exact Nxt.pure X rfl hL ⟨_, _, rfl, rfl, h2⟩ hH hF (fun t z => XT.ior (g := mkF m pc A _) X.here hx rfl hd rfl z)
    · cases h
  | ixor =>
    obtain rfl : len = 1 := by simpa [lenOk] using hlen
    simp only [xI] at h
    split at h
    · rename_i y x S0
      cases h
      obtain ⟨S1, rfl, h1⟩ := hS.int
      obtain ⟨S2, rfl, h2⟩ := h1.int
      exact Nxt.pure X rfl hL ⟨_, _, rfl, rfl, h2⟩ hH hF (fun t z => XT.ixor (g := mkF m pc A _) X.here hx rfl hd rfl z)
    · cases h
  | ishl =>
    obtain rfl : len = 1 := by simpa [lenOk] using hlen
    simp only [xI] at h
    split at h
    · rename_i y x S0
      cases h
      obtain ⟨S1, rfl, h1⟩ := hS.int
      obtain ⟨S2, rfl, h2⟩ := h1.int
      exact Nxt.pure X rfl hL ⟨_, _, rfl, rfl, h2⟩ hH hF (fun t z => XT.ishl (g := mkF m pc A _) X.here hx rfl hd rfl z)
    · cases h
  | ishr =>
    obtain rfl : len = 1 := by simpa [lenOk] using hlen
    simp only [xI] at h
    split at h
    · rename_i y x S0
      cases h
      obtain ⟨S1, rfl, h1⟩ := hS.int
      obtain ⟨S2, rfl, h2⟩ := h1.int
      exact Nxt.pure X rfl hL ⟨_, _, rfl, rfl, h2⟩ hH hF (fun t z => XT.ishr (g := mkF m pc A _) X.here hx rfl hd rfl z)
    · cases h
  | iushr =>
    obtain rfl : len = 1 := by simpa [lenOk] using hlen
    simp only [xI] at h
    split at h
    · rename_i y x S0
      cases h
      obtain ⟨S1, rfl, h1⟩ := hS.int
      obtain ⟨S2, rfl, h2⟩ := h1.int
      exact Nxt.pure X rfl hL ⟨_, _, rfl, rfl, h2⟩ hH hF (fun t z => XT.iushr (g := mkF m pc A _) X.here hx rfl hd rfl z)
    · cases h
  | ladd =>
    obtain rfl : len = 1 := by simpa [lenOk] using hlen
    simp only [xI] at h
    split at h
    · rename_i y x S0
      cases h
      obtain ⟨S1, rfl, h1⟩ := hS.long
      obtain ⟨S2, rfl, h2⟩ := h1.long
      exact Nxt.pure X rfl hL ⟨_, _, rfl, rfl, h2⟩ hH hF (fun t z => XT.ladd (g := mkF m pc A _) X.here hx rfl hd rfl z)
    · cases h
  | lsub =>
    obtain rfl : len = 1 := by simpa [lenOk] using hlen
    simp only [xI] at h
    split at h
    · rename_i y x S0
      cases h
      obtain ⟨S1, rfl, h1⟩ := hS.long
      obtain ⟨S2, rfl, h2⟩ := h1.long
      exact Nxt.pure X rfl hL ⟨_, _, rfl, rfl, h2⟩ hH hF (fun t z => XT.lsub (g := mkF m pc A _) X.here hx rfl hd rfl z)
    · cases h
  | lmul =>
    obtain rfl : len = 1 := by simpa [lenOk] using hlen
    simp only [xI] at h
    split at h
    · rename_i y x S0
      cases h
      obtain ⟨S1, rfl, h1⟩ := hS.long
      obtain ⟨S2, rfl, h2⟩ := h1.long
      exact Nxt.pure X rfl hL ⟨_, _, rfl, rfl, h2⟩ hH hF (fun t z => XT.lmul (g := mkF m pc A _) X.here hx rfl hd rfl z)
    · cases h
  | land =>
    obtain rfl : len = 1 := by simpa [lenOk] using hlen
    simp only [xI] at h
    split at h
    · rename_i y x S0
      cases h
      obtain ⟨S1, rfl, h1⟩ := hS.long
      obtain ⟨S2, rfl, h2⟩ := h1.long
      exact Nxt.pure X rfl hL ⟨_, _, rfl, rfl, h2⟩ hH hF (fun t z => XT.land (g := mkF m pc A _) X.here hx rfl hd rfl z)
    · cases h
  | lor =>
    obtain rfl : len = 1 := by simpa [lenOk] using hlen
    simp only [xI] at h
    split at h
    · rename_i y x S0
      cases h
      obtain ⟨S1, rfl, h1⟩ := hS.long
      obtain ⟨S2, rfl, h2⟩ := h1.long
      exact Nxt.pure X rfl hL ⟨_, _, rfl, rfl, h2⟩ hH hF (fun t z => XT.lor (g := mkF m pc A _) X.here hx rfl hd rfl z)
    · cases h
  | lxor =>
    obtain rfl : len = 1 := by simpa [lenOk] using hlen
    simp only [xI] at h
    split at h
    · rename_i y x S0
      cases h
      obtain ⟨S1, rfl, h1⟩ := hS.long
      obtain ⟨S2, rfl, h2⟩ := h1.long
      exact Nxt.pure X rfl hL ⟨_, _, rfl, rfl, h2⟩ hH hF (fun t z => XT.lxor (g := mkF m pc A _) X.here hx rfl hd rfl z)
    · cases h
  | lcmp =>
    obtain rfl : len = 1 := by simpa [lenOk] using hlen
    simp only [xI] at h
    split at h
    · rename_i y x S0
      cases h
      obtain ⟨S1, rfl, h1⟩ := hS.long
      obtain ⟨S2, rfl, h2⟩ := h1.long
      exact Nxt.pure X rfl hL ⟨_, _, rfl, rfl, h2⟩ hH hF (fun t z => XT.lcmp (g := mkF m pc A _) X.here hx rfl hd rfl z)
    · cases h
  | lshl =>
    obtain rfl : len = 1 := by simpa [lenOk] using hlen
    simp only [xI] at h
    split at h
    · rename_i y x S0
      cases h
      obtain ⟨S1, rfl, h1⟩ := hS.int
      obtain ⟨S2, rfl, h2⟩ := h1.long
      exact Nxt.pure X rfl hL ⟨_, _, rfl, rfl, h2⟩ hH hF (fun t z => XT.lshl (g := mkF m pc A _) X.here hx rfl hd rfl z)
    · cases h
  | lshr =>
    obtain rfl : len = 1 := by simpa [lenOk] using hlen
    simp only [xI] at h
    split at h
    · rename_i y x S0
      cases h
      obtain ⟨S1, rfl, h1⟩ := hS.int
      obtain ⟨S2, rfl, h2⟩ := h1.long
      exact Nxt.pure X rfl hL ⟨_, _, rfl, rfl, h2⟩ hH hF (fun t z => XT.lshr (g := mkF m pc A _) X.here hx rfl hd rfl z)
    · cases h
  | lushr =>
    obtain rfl : len = 1 := by simpa [lenOk] using hlen
    simp only [xI] at h
    split at h
    · rename_i y x S0
      cases h
      obtain ⟨S1, rfl, h1⟩ := hS.int
      obtain ⟨S2, rfl, h2⟩ := h1.long
      exact Nxt.pure X rfl hL ⟨_, _, rfl, rfl, h2⟩ hH hF (fun t z => XT.lushr (g := mkF m pc A _) X.here hx rfl hd rfl z)
    · cases h
  | idiv =>
    obtain rfl : len = 1 := by simpa [lenOk] using hlen
    simp only [xI] at h
    split at h
    · rename_i y x S0
      split at h
      · cases h
      · rename_i hy
        cases h
        obtain ⟨S1, rfl, h1⟩ := hS.int
        obtain ⟨S2, rfl, h2⟩ := h1.int
        exact Nxt.pure X rfl hL ⟨_, _, rfl, rfl, h2⟩ hH hF (fun t z => XS.idiv (g := mkF m pc A _) X.here hx rfl hd rfl hy z)
    · cases h
  | irem =>
    obtain rfl : len = 1 := by simpa [lenOk] using hlen
    simp only [xI] at h
    split at h
    · rename_i y x S0
      split at h
      · cases h
      · rename_i hy
        cases h
        obtain ⟨S1, rfl, h1⟩ := hS.int
        obtain ⟨S2, rfl, h2⟩ := h1.int
        exact Nxt.pure X rfl hL ⟨_, _, rfl, rfl, h2⟩ hH hF (fun t z => iremM (g := mkF m pc A _) X hx rfl hd rfl hy z)
    · cases h
  | ldiv =>
    obtain rfl : len = 1 := by simpa [lenOk] using hlen
    simp only [xI] at h
    split at h
    · rename_i y x S0
      split at h
      · cases h
      · rename_i hy
        cases h
        obtain ⟨S1, rfl, h1⟩ := hS.long
        obtain ⟨S2, rfl, h2⟩ := h1.long
        exact Nxt.pure X rfl hL ⟨_, _, rfl, rfl, h2⟩ hH hF (fun t z => XT.ldiv (g := mkF m pc A _) X.here hx rfl hd rfl hy z)
    · cases h
  | lrem =>
    obtain rfl : len = 1 := by simpa [lenOk] using hlen
    simp only [xI] at h
    split at h
    · rename_i y x S0
      split at h
      · cases h
      · rename_i hy
        cases h
        obtain ⟨S1, rfl, h1⟩ := hS.long
        obtain ⟨S2, rfl, h2⟩ := h1.long
        exact Nxt.pure X rfl hL ⟨_, _, rfl, rfl, h2⟩ hH hF (fun t z => XT.lrem (g := mkF m pc A _) X.here hx rfl hd rfl hy (by rw [lrem_mod]; exact z))
    · cases h
  | i2l =>
    obtain rfl : len = 1 := by simpa [lenOk] using hlen
    simp only [xI] at h
    split at h
    · rename_i x S0
      cases h
      obtain ⟨S1, rfl, h1⟩ := hS.int
      exact Nxt.pure X rfl hL ⟨_, _, rfl, rfl, h1⟩ hH hF (fun t z => XT.i2l (g := mkF m pc A _) X.here hx rfl hd rfl z)
    · cases h
  | l2i =>
    obtain rfl : len = 1 := by simpa [lenOk] using hlen
    simp only [xI] at h
    split at h
    · rename_i x S0
      cases h
      obtain ⟨S1, rfl, h1⟩ := hS.long
      exact Nxt.pure X rfl hL ⟨_, _, rfl, rfl, h1⟩ hH hF (fun t z => XT.l2i (g := mkF m pc A _) X.here hx rfl hd rfl z)
    · cases h
  | dup =>
    obtain rfl : len = 1 := by simpa [lenOk] using hlen
    simp only [xI] at h
    split at h
    · rename_i x S0
      cases h
      obtain ⟨S1, rfl, h1⟩ := hS.int
      exact Nxt.pure X rfl hL ⟨_, _, rfl, rfl, _, _, rfl, rfl, h1⟩ hH hF (fun t z => XS.dup (g := mkF m pc A _) X.here hx rfl hd rfl rfl z)
    · rename_i x S0
      cases h
      obtain ⟨ad, S1, g1, rfl, h1⟩ := hS.ref
      exact Nxt.pure X rfl hL ⟨_, _, rfl, ⟨ad, g1, rfl⟩, _, _, rfl, ⟨ad, g1, rfl⟩, h1⟩ hH hF (fun t z => XS.dup (g := mkF m pc A _) X.here hx rfl hd rfl rfl z)
    · cases h
  | dup2 =>
    obtain rfl : len = 1 := by simpa [lenOk] using hlen
    simp only [xI] at h
    split at h
    · rename_i x y S0
      cases h
      obtain ⟨S1, rfl, h1⟩ := hS.int
      obtain ⟨ad, S2, g1, rfl, h2⟩ := h1.ref
      exact Nxt.pure X rfl hL ⟨_, _, rfl, rfl, _, _, rfl, ⟨ad, g1, rfl⟩, _, _, rfl, rfl, _, _, rfl, ⟨ad, g1, rfl⟩, h2⟩ hH hF (fun t z => XT.dup2 (g := mkF m pc A _) X.here hx rfl hd rfl rfl rfl z)
    · rename_i x S0
      cases h
      obtain ⟨S1, rfl, h1⟩ := hS.long
      exact Nxt.pure X rfl hL ⟨_, _, rfl, rfl, _, _, rfl, rfl, h1⟩ hH hF (fun t z => XT.dup2L (g := mkF m pc A _) X.here hx rfl hd rfl z)
    · cases h
  | pop =>
    obtain rfl : len = 1 := by simpa [lenOk] using hlen
    simp only [xI] at h
    split at h
    · rename_i x S0
      cases h
      obtain ⟨S1, rfl, h1⟩ := hS.int
      exact Nxt.pure X rfl hL h1 hH hF (fun t z => XT.pop (g := mkF m pc A _) X.here hx rfl hd rfl rfl z)
    · cases h
  | getfield k =>
    obtain rfl : len = 3 := by simpa [lenOk] using hlen
    simp only [xI] at h
    split at h
    · rename_i o S0
      obtain ⟨ad, S1, g1, rfl, h1⟩ := hS.ref
      split at h
      · rename_i c0 fs hc0
        split at h
        · rename_i ec
          subst ec
          obtain ⟨ad', g2, cd, q1, q2, q3, q4⟩ := hH.at hc0
          rw [g1] at g2; cases g2
          have hcd := cid_of hP hdm q1
          have core : ∀ v, fs[a]? = some v → ∃ w T2, VR ρ v w ∧ Stand p l e R s m args below meth c T2 locs cells slots ∧ T2.heap = T.heap ∧ ∀ target, Steps p.tables e below (T2.setTop (mkF m (pc + 3) A (w :: S1))) target → Steps p.tables e below (T.setTop (mkF m pc A (.ref ad :: S1))) target := fun v hv => by
            have ha : a < cd.2.2.length := by rw [← q3]; exact (List.getElem?_eq_some_iff.mp hv).1
            obtain ⟨w, hvw, F⟩ := q4 a v _ hv (List.getElem?_eq_getElem ha)
            have w1 := hWi (.fieldLink d.name.cls k d.name.cls cd.2.2[a].1 cd.2.2[a].2.1) (by
              show _ ∈ fLink P d k a
              unfold fLink
              rw [fieldOf_spec q1 (List.getElem?_eq_getElem ha)]
              exact List.mem_singleton.mpr rfl)
            rw [hcd] at F
            obtain ⟨T2, X2, e2, st2⟩ := getF X hx hZ hown (host := "") (Or.inl w1) Via.refl rfl F (g := mkF m pc A (.ref ad :: S1)) rfl rfl hd
            exact ⟨w, T2, hvw, X2, e2, st2⟩
          split at h
          · rename_i x hv
            cases h
            obtain ⟨w, T2, hvw, X2, e2, st2⟩ := core _ hv
            exact Nxt.mem X2 rfl hL ⟨_, _, rfl, hvw, h1⟩ (by rw [e2]; exact hH) hF st2
          · rename_i x hv
            cases h
            obtain ⟨w, T2, hvw, X2, e2, st2⟩ := core _ hv
            exact Nxt.mem X2 rfl hL ⟨_, _, rfl, hvw, h1⟩ (by rw [e2]; exact hH) hF st2
          · rename_i x hv
            cases h
            obtain ⟨w, T2, hvw, X2, e2, st2⟩ := core _ hv
            exact Nxt.mem X2 rfl hL ⟨_, _, rfl, hvw, h1⟩ (by rw [e2]; exact hH) hF st2
          · cases h
        · cases h
      · cases h
    · cases h
  | putfield k =>
    obtain rfl : len = 3 := by simpa [lenOk] using hlen
    simp only [xI] at h
    split at h
    · rename_i v o S0
      obtain ⟨w, Sx, rfl, hvw, hS1⟩ := hS
      obtain ⟨ad, S1, g1, rfl, h1⟩ := hS1.ref
      split at h
      · rename_i c0 fs hc0
        split at h
        · rename_i ec
          obtain ⟨ec, enr⟩ := ec
          subst ec
          split at h
          · rename_i nm ds ty fin hf
            split at h
            · rename_i hok
              cases h
              simp only [Bool.and_eq_true] at hok
              obtain ⟨hok, hfin⟩ := hok
              obtain ⟨ad', g2, cd, q1, q2, q3, q4⟩ := hH.at hc0
              rw [g1] at g2; cases g2
              have hcd := cid_of hP hdm q1
              rw [q1] at hf
              have hf' : cd.2.2[a]? = some (nm, ds, ty, fin) := hf
              have ha : a < fs.length := by rw [q3]; exact (List.getElem?_eq_some_iff.mp hf').1
              obtain ⟨w0, -, F⟩ := q4 a _ _ (List.getElem?_eq_getElem ha) hf'
              have w1 := hWi (.fieldLink d.name.cls k d.name.cls nm ds) (by
                show _ ∈ fLink P d k a
                unfold fLink
                rw [fieldOf_spec q1 hf']
                exact List.mem_singleton.mpr rfl)
              have hcm : cd ∈ P.cls := List.mem_of_getElem? q1
              have w2 := hW _ (in_wordsC hcm (fWord_in (List.mem_of_getElem? hf')))
              have w3 := hW (.instantiable cd.1 cd.2.1) (in_wordsC hcm (List.mem_cons_self ..))
              have hck := cChk_of hP hcm
              have hck' := hck
              simp only [cChk, Bool.and_eq_true, List.all_eq_true] at hck'
              have f1 := hck'.2 _ (List.mem_of_getElem? hf')
              simp only [fChk, Bool.and_eq_true, decide_eq_true_eq] at f1
              obtain ⟨p1, p2⟩ := putOk_sim hok hvw
              have Ly : (Jvm.Cond.lays cd.1 cd.1 nm ds).before a0 Z = true ∨ ((Jvm.Cond.laysFinal cd.1 cd.1 nm ds).before a0 Z = true ∧ d.name.cls = cd.1 ∧ meth.name = "<init>") := by
                unfold fWord at w2
                cases fin with
                | false => exact Or.inl w2
                | true => exact Or.inr ⟨w2, hcd.symm, by rw [hnm]; simpa using hfin⟩
              obtain ⟨T2, h2, X2, e2, W2, st2⟩ := putF X hx hZ hown (host := "") (R0 := d.name.cls) (O := cd.1) (Or.inl w1) (by rw [hcd]; exact Via.refl) rfl F q2 Ly w3 f1.1 p1 p2 (g := mkF m pc A (w :: .ref ad :: S1)) rfl rfl hd
              have hH2 := hH.putF (a0 := a0) g1 hc0 q1 hf' hck (fun f hfm => hW _ (in_wordsC hcm (fWord_in hfm))) W2 hvw
              exact Nxt.mem X2 rfl hL h1 (by rw [e2]; exact hH2) (Fr.snoc X2 hF (hH.2.2.2.1 _ _ g1 enr)) st2
            · cases h
          · cases h
        · cases h
      · cases h
    · cases h
  | iaload =>
    obtain rfl : len = 1 := by simpa [lenOk] using hlen
    simp only [xI] at h
    split at h
    · rename_i j o S0
      obtain ⟨S1, rfl, h1⟩ := hS.int
      obtain ⟨ad, S2, g1, rfl, h2⟩ := h1.ref
      split at h
      · rename_i B hc0
        obtain ⟨x, q, e1⟩ := Option.map_eq_some_iff.mp h
        cases e1
        obtain ⟨hj, hat⟩ := rdA_spec q
        obtain ⟨ad', g2, cl, Ar, z1, z2, z3⟩ := hH.at hc0
        rw [g1] at g2; cases g2
        have hin : ¬ (j < 0 ∨ cl.slots.size ≤ j.toNatClampNeg) := by
          have := (List.getElem?_eq_some_iff.mp hat).1
          rintro (y | y)
          · exact hj y
          · omega
        exact Nxt.pure X rfl hL ⟨_, _, rfl, rfl, h2⟩ hH hF (fun t z => X.iaload hx (j := j) (v := .int x) Ar.1 (State.isArrayOf_alike hZ.alike Ar.2.1) Ar.2.2 hin (z3 _ _ hat) (g := mkF m pc A _) rfl rfl hd t z)
      · cases h
    · cases h
  | baload =>
    obtain rfl : len = 1 := by simpa [lenOk] using hlen
    simp only [xI] at h
    split at h
    · rename_i j o S0
      obtain ⟨S1, rfl, h1⟩ := hS.int
      obtain ⟨ad, S2, g1, rfl, h2⟩ := h1.ref
      split at h
      · rename_i B hc0
        obtain ⟨x, q, e1⟩ := Option.map_eq_some_iff.mp h
        cases e1
        obtain ⟨hj, hat⟩ := rdA_spec q
        obtain ⟨ad', g2, cl, Ar, z1, z2, z3⟩ := hH.at hc0
        rw [g1] at g2; cases g2
        have hin : ¬ (j < 0 ∨ cl.slots.size ≤ j.toNatClampNeg) := by
          have := (List.getElem?_eq_some_iff.mp hat).1
          rintro (y | y)
          · exact hj y
          · omega
        exact Nxt.pure X rfl hL ⟨_, _, rfl, rfl, h2⟩ hH hF (fun t z => X.baloadBooleans hx (j := j) (v := .int x) Ar.1 (State.isArrayOf_alike hZ.alike Ar.2.1) Ar.2.2 hin (z3 _ _ hat) (g := mkF m pc A _) rfl rfl hd t z)
      · cases h
    · cases h
  | laload =>
    obtain rfl : len = 1 := by simpa [lenOk] using hlen
    simp only [xI] at h
    split at h
    · rename_i j o S0
      obtain ⟨S1, rfl, h1⟩ := hS.int
      obtain ⟨ad, S2, g1, rfl, h2⟩ := h1.ref
      split at h
      · rename_i B hc0
        obtain ⟨x, q, e1⟩ := Option.map_eq_some_iff.mp h
        cases e1
        obtain ⟨hj, hat⟩ := rdA_spec q
        obtain ⟨ad', g2, cl, Ar, z1, z2, z3⟩ := hH.at hc0
        rw [g1] at g2; cases g2
        have hin : ¬ (j < 0 ∨ cl.slots.size ≤ j.toNatClampNeg) := by
          have := (List.getElem?_eq_some_iff.mp hat).1
          rintro (y | y)
          · exact hj y
          · omega
        exact Nxt.pure X rfl hL ⟨_, _, rfl, rfl, h2⟩ hH hF (fun t z => X.laload hx (j := j) (v := .long x) Ar.1 (State.isArrayOf_alike hZ.alike Ar.2.1) Ar.2.2 hin (z3 _ _ hat) (g := mkF m pc A _) rfl rfl hd t z)
      · cases h
    · cases h
  | iastore =>
    obtain rfl : len = 1 := by simpa [lenOk] using hlen
    simp only [xI] at h
    split at h
    · rename_i x j o S0
      obtain ⟨S1, rfl, h1⟩ := hS.int
      obtain ⟨S2, rfl, h2⟩ := h1.int
      obtain ⟨ad, S3, g1, rfl, h3⟩ := h2.ref
      split at h
      · rename_i B hc0
        split at h
        · rename_i enr
          obtain ⟨B', q, e1⟩ := Option.map_eq_some_iff.mp h
          cases e1
          obtain ⟨hj, hlt, rfl⟩ := wrA_spec q
          obtain ⟨ad', g2, cl, Ar, z1, z2, z3⟩ := hH.at hc0
          rw [g1] at g2; cases g2
          have hin : ¬ (j < 0 ∨ cl.slots.size ≤ j.toNatClampNeg) := by
            rintro (y | y)
            · exact hj y
            · omega
          obtain ⟨T2, h2', X2, e2, W2, st2⟩ := stI X hx hZ rfl Ar (j := j) (x := x) hin (g := mkF m pc A _) rfl rfl hd
          exact Nxt.mem X2 rfl hL h3 (by rw [e2]; exact hH.wrI g1 hc0 W2) (Fr.snoc X2 hF (hH.2.2.2.1 _ _ g1 enr)) st2
        · cases h
      · cases h
    · cases h
  | bastore =>
    obtain rfl : len = 1 := by simpa [lenOk] using hlen
    simp only [xI] at h
    split at h
    · rename_i x j o S0
      obtain ⟨S1, rfl, h1⟩ := hS.int
      obtain ⟨S2, rfl, h2⟩ := h1.int
      obtain ⟨ad, S3, g1, rfl, h3⟩ := h2.ref
      split at h
      · rename_i B hc0
        split at h
        · rename_i enr
          obtain ⟨B', q, e1⟩ := Option.map_eq_some_iff.mp h
          cases e1
          obtain ⟨hj, hlt, rfl⟩ := wrA_spec q
          obtain ⟨ad', g2, cl, Ar, z1, z2, z3⟩ := hH.at hc0
          rw [g1] at g2; cases g2
          have hin : ¬ (j < 0 ∨ cl.slots.size ≤ j.toNatClampNeg) := by
            rintro (y | y)
            · exact hj y
            · omega
          obtain ⟨T2, h2', X2, e2, W2, st2⟩ := stZ X hx hZ rfl Ar (j := j) (x := x) hin (g := mkF m pc A _) rfl rfl hd
          exact Nxt.mem X2 rfl hL h3 (by rw [e2]; exact hH.wrI g1 hc0 W2) (Fr.snoc X2 hF (hH.2.2.2.1 _ _ g1 enr)) st2
        · cases h
      · cases h
    · cases h
  | lastore =>
    obtain rfl : len = 1 := by simpa [lenOk] using hlen
    simp only [xI] at h
    split at h
    · rename_i x j o S0
      obtain ⟨S1, rfl, h1⟩ := hS.long
      obtain ⟨S2, rfl, h2⟩ := h1.int
      obtain ⟨ad, S3, g1, rfl, h3⟩ := h2.ref
      split at h
      · rename_i B hc0
        split at h
        · rename_i enr
          obtain ⟨B', q, e1⟩ := Option.map_eq_some_iff.mp h
          cases e1
          obtain ⟨hj, hlt, rfl⟩ := wrA_spec q
          obtain ⟨ad', g2, cl, Ar, z1, z2, z3⟩ := hH.at hc0
          rw [g1] at g2; cases g2
          have hin : ¬ (j < 0 ∨ cl.slots.size ≤ j.toNatClampNeg) := by
            rintro (y | y)
            · exact hj y
            · omega
          obtain ⟨T2, h2', X2, e2, W2, st2⟩ := stJ X hx hZ rfl Ar (j := j) (x := x) hin (g := mkF m pc A _) rfl rfl hd
          exact Nxt.mem X2 rfl hL h3 (by rw [e2]; exact hH.wrJ g1 hc0 W2) (Fr.snoc X2 hF (hH.2.2.2.1 _ _ g1 enr)) st2
        · cases h
      · cases h
    · cases h
  | arraylength =>
    obtain rfl : len = 1 := by simpa [lenOk] using hlen
    simp only [xI] at h
    split at h
    · rename_i o S0
      obtain ⟨ad, S1, g1, rfl, h1⟩ := hS.ref
      split at h
      · rename_i bb B hc0
        cases h
        obtain ⟨ad', g2, cl, Ar, z1, z2, z3⟩ := hH.at hc0
        rw [g1] at g2; cases g2
        exact Nxt.pure X rfl hL ⟨_, _, rfl, rfl, h1⟩ hH hF (fun t z => X.arraylength hx (cell := cl) Ar.1 (State.isArrayOf_alike hZ.alike Ar.2.1) (g := mkF m pc A _) rfl rfl hd t (by rw [z1]; exact z))
      · cases h
    · cases h
  | _ => simp [xI] at h
set_option maxHeartbeats 4000000 in
theorem stepN (X : Stand p l e R s m args below meth c T locs cells slots) (hx : p.tables.exec = Jvm.exec) (hZ : Z.Warmed39 s.vm) (hown : s.vm.findClass d.name.cls = some m.cls) (hP : chk P = true) (hW : ∀ w ∈ wordsOf P, w.before a0 Z = true) (hdm : d ∈ P.mth)
    {pc len a ks : Nat} {er : List Bool} {b : Int} {i : Instr} (hit : (pc, i, len, er, a, b) ∈ d.code) (hd : decode c.code pc = .ok (i, len)) (hlen : lenOk i len = true) {ρ : List Addr} {S S' Sc : List Value} {H H1 : AHeap} {A : Array Slot}
    (hS : SR ρ S Sc) (hH : HR P Z n0 T.heap ρ H) (h : xN P i a S H = some (S', H1, ks)) (hc : cells + 1 ≤ R.cells) (hl : slots + ks ≤ R.slots) :
    ∃ T' ad Sc', Stand p l e R s m args below meth c T' locs (cells + 1) (slots + ks) ∧ SR (ρ ++ [ad]) S' Sc' ∧ HR P Z n0 T'.heap (ρ ++ [ad]) H1 ∧
      ∀ target, Steps p.tables e below (T'.setTop (mkF m (pc + len) A Sc')) target → Steps p.tables e below (T.setTop (mkF m pc A Sc)) target := by
  have hWi : ∀ w ∈ iWords P d (pc, i, len, er, a, b), w.before a0 Z = true := fun w q => hW w (in_wordsOf hdm hit q)
  cases i with
  | new k =>
    obtain rfl : len = 3 := by simpa [lenOk] using hlen
    simp only [xN] at h
    split at h
    · rename_i cd q1
      cases h
      have hcm : cd ∈ P.cls := List.mem_of_getElem? q1
      have w1 := hWi (.classLink d.name.cls k cd.1) (by simp only [iWords, q1]; exact List.mem_singleton.mpr rfl)
      have w2 := hW (.instantiable cd.1 cd.2.1) (in_wordsC hcm (List.mem_cons_self ..))
      have w3 := hW (.initialized cd.1) (in_wordsC hcm (List.mem_cons_of_mem _ (List.mem_cons_self ..)))
      obtain ⟨T2, h2, X2, e2, E2, A2, D2, -, st2⟩ := newO X hx hZ hown w1 w2 w3 rfl (g := mkF m pc A Sc) rfl hd hc hl
      have hck := cChk_of hP hcm
      simp only [cChk, Bool.and_eq_true, List.all_eq_true] at hck
      have hcr : CR P Z h2 (ρ ++ [T.heap.size]) T.heap.size (.inl (a, cd.2.2.map fun f => dflt f.2.2.1)) := by
        refine ⟨cd, q1, A2, by simp, fun j v fd y1 y2 => ?_⟩
        rw [List.getElem?_map, y2] at y1
        cases y1
        have f1 := hck.2 _ (List.mem_of_getElem? y2)
        simp only [fChk, Bool.and_eq_true, decide_eq_true_eq] at f1
        exact ⟨_, dflt_sim f1.2, D2 (laid_of (hW _ (in_wordsC hcm (fWord_in (List.mem_of_getElem? y2))))) f1.1⟩
      refine ⟨T2, T.heap.size, _, X2, ⟨_, _, rfl, ⟨T.heap.size, ?_, rfl⟩, hS.mono⟩, (by rw [e2]; exact hH.push E2 hcr), st2⟩
      rw [← hH.2.1]; simp
    · cases h
  | newarray t =>
    obtain rfl : len = 2 := by simpa [lenOk] using hlen
    simp only [xN] at h
    split at h
    · rename_i n S0
      obtain ⟨S1, rfl, h1⟩ := hS.int
      split at h
      · cases h
      · rename_i hn
        have hn1 : ¬ n < 0 := fun z => hn (Or.inl z)
        have hn2 : n.toNatClampNeg ≤ 100000 := Nat.le_of_not_lt fun z => hn (Or.inr z)
        have w1 := hWi (.arrayClass (newarray.typeOf t)) (List.mem_singleton.mpr rfl)
        have top : (ρ ++ [T.heap.size])[H.length]? = some T.heap.size := by rw [← hH.2.1]; simp
        split at h
        · cases h
          obtain ⟨T2, h2, cA, X2, e2, E2, A2, st2⟩ := newP X hx hZ w1 rfl (g := mkF m pc A _) rfl hd rfl hn1 (cap := n.toNatClampNeg) (Nat.le_refl _) (by omega) hc hl
          have hcr : CR P Z h2 (ρ ++ [T.heap.size]) T.heap.size ((.inr (.inl (false, List.replicate n.toNatClampNeg 0)) : ACell)) := by
            refine ⟨_, A2, by simp [sz_new], by simp; omega, fun j x y => ?_⟩
            rw [List.getElem?_replicate] at y
            split at y
            · rename_i lt
              cases y
              simp [newA, lt, newarray.typeOf, defaultValue]
            · cases y
          exact ⟨T2, T.heap.size, _, X2, ⟨_, _, rfl, ⟨T.heap.size, top, rfl⟩, h1.mono⟩, (by rw [e2]; exact hH.push E2 hcr), st2⟩
        · cases h
          obtain ⟨T2, h2, cA, X2, e2, E2, A2, st2⟩ := newP X hx hZ w1 rfl (g := mkF m pc A _) rfl hd rfl hn1 (cap := n.toNatClampNeg) (Nat.le_refl _) (by omega) hc hl
          have hcr : CR P Z h2 (ρ ++ [T.heap.size]) T.heap.size ((.inr (.inl (true, List.replicate n.toNatClampNeg 0)) : ACell)) := by
            refine ⟨_, A2, by simp [sz_new], by simp; omega, fun j x y => ?_⟩
            rw [List.getElem?_replicate] at y
            split at y
            · rename_i lt
              cases y
              simp [newA, lt, newarray.typeOf, defaultValue]
            · cases y
          exact ⟨T2, T.heap.size, _, X2, ⟨_, _, rfl, ⟨T.heap.size, top, rfl⟩, h1.mono⟩, (by rw [e2]; exact hH.push E2 hcr), st2⟩
        · cases h
          obtain ⟨T2, h2, cA, X2, e2, E2, A2, st2⟩ := newP X hx hZ w1 rfl (g := mkF m pc A _) rfl hd rfl hn1 (cap := n.toNatClampNeg) (Nat.le_refl _) (by omega) hc hl
          have hcr : CR P Z h2 (ρ ++ [T.heap.size]) T.heap.size ((.inr (.inr (List.replicate n.toNatClampNeg 0)) : ACell)) := by
            refine ⟨_, A2, by simp [sz_new], by simp; omega, fun j x y => ?_⟩
            rw [List.getElem?_replicate] at y
            split at y
            · rename_i lt
              cases y
              simp [newA, lt, newarray.typeOf, defaultValue]
            · cases y
          exact ⟨T2, T.heap.size, _, X2, ⟨_, _, rfl, ⟨T.heap.size, top, rfl⟩, h1.mono⟩, (by rw [e2]; exact hH.push E2 hcr), st2⟩
        · cases h
    · cases h
  | _ => simp [xN] at h
end Step
end Jvm.Own
namespace Jvm.Own
open Jvm Jvm.ClassFile Sem Op Lib Jvm.Free Jvm.Stand Jvm.LawKit Jvm.RoadKit Bundle
theorem fetch_mem : ∀ {l : List (Nat × It)} {pc : Nat} {i : It}, fetch l pc = some i → (pc, i) ∈ l
  | [], _, _, h => by simp [fetch] at h
  | (q, j) :: r, pc, i, h => by
    unfold fetch at h
    split at h
    · rename_i e; cases h; subst e; exact List.mem_cons_self ..
    · exact List.mem_cons_of_mem _ (fetch_mem h)
theorem tgt_spec {pc q : Nat} {o : Int} (h : tgt pc o = some q) : 0 ≤ (pc : Int) + o ∧ ((pc : Int) + o).toNat = q := by
  unfold tgt at h
  split at h
  · rename_i z; cases h; exact ⟨z, rfl⟩
  · cases h
/-- the end of a method's run -/
def Done (P : PD) (Z : State) (n0 : Nat) (p : Program) (e : Env) (below : List Frame) (s : State) (ρ : List Addr) (v : Option Value) (H' : AHeap) (kc ks : Nat) (t0 : State) : Prop :=
  ∃ s₂ v' L' t, Steps p.tables e below t0 s₂ ∧ s₂.status = .running ∧ Ended s₂ below (.returned v') ∧ OV (ρ ++ t) v v' ∧ HR P Z n0 s₂.heap (ρ ++ t) H' ∧ Fr n0 L' ∧ FrameEnd s (.returned v') s₂ L' kc ks
def Cx (P : PD) (Z : State) (p : Program) (R : Room) (s : State) (m : MethodId) (meth : Method) (c : Code) (d : MD) : Prop :=
  p.tables.exec = Jvm.exec ∧ Z.Warmed39 s.vm ∧ c.code = d.bytes ∧ c.maxLocals = d.maxL ∧ s.vm.findClass d.name.cls = some m.cls ∧ meth.name = d.name.name ∧ meth.sig.returnType = d.ret ∧ meth.locks = false ∧ d.rf ≤ R.frames ∧ d.rw ≤ R.locals
/-- what the machine says of a run that has come to pc is what the model does -/
def Says (P : PD) (Z : State) (n0 : Nat) (l : Launch) (n : Nat) : Prop :=
  ∀ (mi pc : Nat) (L : List Slot) (S : List Value) (H : AHeap) (v : Option Value) (H' : AHeap) (kc ks : Nat), exe P n mi pc L S H = some (v, H', kc, ks) → ∀ d, P.mth[mi]? = some d →
    ∀ (p : Program) (e : Env) (R : Room) (s : State) (m : MethodId) (args : Array Value) (below : List Frame) (meth : Method) (c : Code) (T : State) (locs : List Loc) (cells slots : Nat),
      Stand p l e R s m args below meth c T locs cells slots → Cx P Z p R s m meth c d → cells + kc ≤ R.cells → slots + ks ≤ R.slots →
      ∀ (ρ : List Addr) (A : Array Slot) (Sc : List Value), LR ρ L A → L.length = d.maxL → SR ρ S Sc → HR P Z n0 T.heap ρ H → Fr n0 locs →
        Done P Z n0 p e below s ρ v H' (cells + kc) (slots + ks) (T.setTop (mkF m pc A Sc))
def QQ (P : PD) (Z : State) (n0 : Nat) (ρ : List Addr) (v : Option Value) (H1 : AHeap) (v' : Option Value) (h' : Heap) (L : List Loc) : Prop := Fr n0 L ∧ ∃ t, OV (ρ ++ t) v v' ∧ HR P Z n0 h' (ρ ++ t) H1
theorem met_of {P : PD} {Z : State} {n0 : Nat} {l : Launch} {n : Nat} (ih : Says P Z n0 l n) {j : Nat} {y : MD} (hy : P.mth[j]? = some y) (hpn : plainName y.name.cls = true) {as ws : List Value} {H H1 : AHeap} {v : Option Value} {kc ks : Nat} (he : exe P n j 0 (entL as y.maxL) [] H = some (v, H1, kc, ks)) {ρ : List Addr} (hS : SR ρ as ws) (hlen : (entA as).length ≤ y.maxL) {h : Heap} (hH : HR P Z n0 h ρ H) (w0 : List Jvm.Cond) (rm : Room) (r1 : y.rf ≤ rm.frames) (r2 : y.rw ≤ rm.locals) (r3 : kc ≤ rm.cells) (r4 : ks ≤ rm.slots) :
    MetFree l y.name (head1 (Jvm.Cond.code y.name y.bytes y.maxL y.ret :: w0) rm) (fun a U => a = ws.toArray ∧ Z.Warmed39 U.vm ∧ U.heap = h) (fun _ _ _ _ _ => True)
      (fun _ U o U' => ∃ v' L, o = .returned v' ∧ QQ P Z n0 ρ v H1 v' U'.heap L ∧ FrameEnd U o U' L kc ks) := by
  refine MetFree.of_bodySF (plainFor_of_name hpn) hisR ?_
  intro p e s m args below meth c s₁ Bd hml0 hP hK
  obtain ⟨rfl, hZ, hh⟩ := hP
  have X0 : Stand p l e rm s m ws.toArray below meth c s₁ [] 0 0 := Stand.of_body Bd
  have e0 : s₁.heap = h := by rw [← hh, Bd.state]; rfl
  obtain ⟨hL, hsz⟩ := LR.enter hS hlen
  have hLl : (entL as y.maxL).length = y.maxL := by rw [← hL.1]; exact hsz
  obtain ⟨s₂, v', L', t, h1, h2, h3, h4, h5, h6, h7⟩ := ih j 0 _ [] H v H1 kc ks he y hy p e _ s m ws.toArray below meth c s₁ [] 0 0 X0
    ⟨Bd.exec, hZ, Bd.bytes, hml0, findClass_of_methodNamed Bd.named, (name_of_methodNamed Bd.named Bd.method).1, Bd.returns, BodyLoose.notSynchronized Bd, r1, r2⟩
    (by rw [Nat.zero_add]; exact r3) (by rw [Nat.zero_add]; exact r4) ρ _ [] hL hLl rfl (by rw [e0]; exact hH) (Fr.nil n0)
  refine ⟨s₂, _, h1, h2, h3, v', L', rfl, ⟨h6, t, h4, h5⟩, ?_⟩
  rw [Nat.zero_add, Nat.zero_add] at h7
  exact h7
section Sound
variable {P : PD} {Z : State} {n0 : Nat} {a0 : Array Value} {l : Launch}
theorem Done.step {p : Program} {e : Env} {below : List Frame} {s : State} {ρ t : List Addr} {v : Option Value} {H' : AHeap} {kc ks : Nat} {t0 t1 : State} (h : Done P Z n0 p e below s (ρ ++ t) v H' kc ks t1) (k : ∀ target, Steps p.tables e below t1 target → Steps p.tables e below t0 target) : Done P Z n0 p e below s ρ v H' kc ks t0 := by
  obtain ⟨s₂, v', L', t', h1, h2, h3, h4, h5, h6, h7⟩ := h
  exact ⟨s₂, v', L', t ++ t', k _ h1, h2, h3, by rw [← List.append_assoc]; exact h4, by rw [← List.append_assoc]; exact h5, h6, h7⟩
theorem argsOf_spec {n : Nat} {S as rest : List Value} (h : argsOf n S = some (as, rest)) : n ≤ S.length ∧ as = (S.take n).reverse ∧ rest = S.drop n := by
  unfold argsOf at h
  split at h
  · rename_i z; cases h; exact ⟨z, rfl, rfl⟩
  · cases h
theorem res_ext {α : Type} {o : Option Res} {v : Option Value} {H' : AHeap} {kc ks c1 s1 : Nat} (h : (o.map fun r => addR r c1 s1) = some (v, H', kc, ks)) : ∃ kc' ks', o = some (v, H', kc', ks') ∧ kc = kc' + c1 ∧ ks = ks' + s1 := by
  obtain ⟨⟨v0, H0, c0, s0⟩, h1, h2⟩ := Option.map_eq_some_iff.mp h
  simp only [addR] at h2
  cases h2
  exact ⟨c0, s0, h1, rfl, rfl⟩
set_option maxHeartbeats 4000000 in
theorem sound (hP : chk P = true) (hW : ∀ w ∈ wordsOf P, w.before a0 Z = true) : ∀ n, Says P Z n0 l n
  | 0 => fun mi pc L S H v H' kc ks h => by simp [exe] at h
  | n + 1 => by
    have ih := sound hP hW n
    intro mi pc L S H v H' kc ks h d hmi
    unfold exe at h
    rw [hmi] at h
    simp only at h
    have hdm : d ∈ P.mth := List.mem_of_getElem? hmi
    split at h
    · cases h
    rename_i it i len er a b hft
    have hit := fetch_mem hft
    have hmc := mChk_of hP hdm
    simp only [mChk, Bool.and_eq_true] at hmc
    obtain ⟨⟨⟨⟨⟨⟨mc1, mc2⟩, mc3⟩, mc4⟩, mc5⟩, mc6⟩, mc7⟩ := hmc
    unfold codeChk at mc3
    rw [List.all_eq_true] at mc3
    have hci := mc3 _ hit
    simp only [Bool.and_eq_true, decide_eq_true_eq] at hci
    obtain ⟨hdec, hlenOk⟩ := hci
    -- a jump, or a fall through
    have jump : ∀ (q : Nat) (S1 : List Value) (h1 : exe P n mi q (forget er L) S1 H = some (v, H', kc, ks)),
        (∀ (p : Program) (e : Env) (R : Room) (s : State) (m : MethodId) (args : Array Value) (below : List Frame) (meth : Method) (c : Code) (T : State) (locs : List Loc) (cells slots : Nat),
          Stand p l e R s m args below meth c T locs cells slots → Cx P Z p R s m meth c d → ∀ (ρ : List Addr) (A : Array Slot) (Sc : List Value), LR ρ L A → SR ρ S Sc → ∃ Sc1, SR ρ S1 Sc1 ∧ ∀ target, Steps p.tables e below (T.setTop (mkF m q A Sc1)) target → Steps p.tables e below (T.setTop (mkF m pc A Sc)) target) →
        ∀ (p : Program) (e : Env) (R : Room) (s : State) (m : MethodId) (args : Array Value) (below : List Frame) (meth : Method) (c : Code) (T : State) (locs : List Loc) (cells slots : Nat),
          Stand p l e R s m args below meth c T locs cells slots → Cx P Z p R s m meth c d → cells + kc ≤ R.cells → slots + ks ≤ R.slots →
          ∀ (ρ : List Addr) (A : Array Slot) (Sc : List Value), LR ρ L A → L.length = d.maxL → SR ρ S Sc → HR P Z n0 T.heap ρ H → Fr n0 locs →
            Done P Z n0 p e below s ρ v H' (cells + kc) (slots + ks) (T.setTop (mkF m pc A Sc)) := by
      intro q S1 h1 st p e R s m args below meth c T locs cells slots X cx k1 k2 ρ A Sc hL hLl hS hH hF
      obtain ⟨Sc1, hS1, st1⟩ := st p e R s m args below meth c T locs cells slots X cx ρ A Sc hL hS
      have := ih mi q _ S1 H v H' kc ks h1 d hmi p e R s m args below meth c T locs cells slots X cx k1 k2 ρ A Sc1 (hL.forget er) (by rw [forget_len]; exact hLl) hS1 hH hF
      exact Done.step (t := []) (by rw [List.append_nil]; exact this) st1
    have dec : ∀ {c : Code}, c.code = d.bytes → decode c.code pc = .ok (i, len) := fun hc => by rw [hc]; exact hdec
    split at h
    · -- goto
      rename_i o
      split at h
      · rename_i q hq
        obtain ⟨t1, t2⟩ := tgt_spec hq
        have m3 := jump q S h
        obtain rfl : len = 3 := by simpa [lenOk] using hlenOk
        exact m3 fun p e R s m args below meth c T locs cells slots X cx ρ A Sc hL hS => ⟨Sc, hS, fun t z => XS.goto (g := mkF m pc A Sc) X.here cx.1 rfl (pc0 := pc) (pc' := q) rfl (dec cx.2.2.1) t1 t2 z⟩
      · cases h
    · -- if_icmp
      rename_i cd o
      split at h
      · rename_i y x S1
        obtain rfl : len = 3 := by simpa [lenOk] using hlenOk
        split at h
        · rename_i hc
          split at h
          · rename_i q hq
            obtain ⟨t1, t2⟩ := tgt_spec hq
            have m3 := jump q S1 h
            exact m3 fun p e R s m args below meth c T locs cells slots X cx ρ A Sc hL hS => by
              obtain ⟨Sa, rfl, ha⟩ := hS.int
              obtain ⟨Sb, rfl, hb⟩ := ha.int
              exact ⟨Sb, hb, fun t z => XS.icmpYes (g := mkF m pc A _) X.here cx.1 rfl (pc0 := pc) (pc' := q) rfl (dec cx.2.2.1) rfl hc t1 t2 z⟩
          · cases h
        · rename_i hc
          have m3 := jump (pc + 3) S1 h
          exact m3 fun p e R s m args below meth c T locs cells slots X cx ρ A Sc hL hS => by
            obtain ⟨Sa, rfl, ha⟩ := hS.int
            obtain ⟨Sb, rfl, hb⟩ := ha.int
            exact ⟨Sb, hb, fun t z => XS.icmpNo (g := mkF m pc A _) X.here cx.1 rfl (dec cx.2.2.1) rfl (by simpa using hc) z⟩
      · cases h
    · -- ifCond
      rename_i cd o
      split at h
      · rename_i x S1
        obtain rfl : len = 3 := by simpa [lenOk] using hlenOk
        split at h
        · rename_i hc
          split at h
          · rename_i q hq
            obtain ⟨t1, t2⟩ := tgt_spec hq
            have m3 := jump q S1 h
            exact m3 fun p e R s m args below meth c T locs cells slots X cx ρ A Sc hL hS => by
              obtain ⟨Sa, rfl, ha⟩ := hS.int
              exact ⟨Sa, ha, fun t z => XS.ifYes (g := mkF m pc A _) X.here cx.1 rfl (pc0 := pc) (pc' := q) rfl (dec cx.2.2.1) rfl hc t1 t2 z⟩
          · cases h
        · rename_i hc
          have m3 := jump (pc + 3) S1 h
          exact m3 fun p e R s m args below meth c T locs cells slots X cx ρ A Sc hL hS => by
            obtain ⟨Sa, rfl, ha⟩ := hS.int
            exact ⟨Sa, ha, fun t z => XS.ifNo (g := mkF m pc A _) X.here cx.1 rfl (dec cx.2.2.1) rfl (by simpa using hc) z⟩
      · cases h
    · -- ifnonnull
      rename_i o
      split at h
      · rename_i x S1
        split at h
        · rename_i q hq
          obtain ⟨t1, t2⟩ := tgt_spec hq
          have m3 := jump q S1 h
          obtain rfl : len = 3 := by simpa [lenOk] using hlenOk
          exact m3 fun p e R s m args below meth c T locs cells slots X cx ρ A Sc hL hS => by
            obtain ⟨ad, Sa, -, rfl, ha⟩ := hS.ref
            exact ⟨Sa, ha, fun t z => XT.ifnonnullYes (g := mkF m pc A _) X.here cx.1 rfl (pc0 := pc) (pc' := q) rfl (dec cx.2.2.1) rfl t1 t2 z⟩
        · cases h
      · cases h
    · -- ireturn
      split at h
      · rename_i x
        split at h
        · rename_i v0 hv0
          cases h
          obtain rfl : len = 1 := by simpa [lenOk] using hlenOk
          intro p e R s m args below meth c T locs cells slots X cx k1 k2 ρ A Sc hL hLl hS hH hF
          obtain ⟨hx, hZ, hby, hml, hown, hnm, hret, hlk, -, -⟩ := cx
          obtain ⟨Sa, rfl, ha⟩ := hS.int
          unfold retV at hv0
          split at hv0
          · rename_i hr0
            cases hv0
            obtain ⟨fs, hr, hrun, hended, hWm, hsame⟩ := X.leave (v := some (.int x)) (fun q => by rw [hret, hr0] at q; cases q) hlk
            exact ⟨_, _, locs, [], retI X hx (by rw [hret, hr0]) (dec hby) hr, hrun, hended, ⟨_, rfl, rfl⟩, by rw [List.append_nil]; exact hH, hF, ⟨_, rfl⟩, hWm, hsame⟩
          · rename_i hr0
            cases hv0
            obtain ⟨fs, hr, hrun, hended, hWm, hsame⟩ := X.leave (v := some (.int (x &&& 1))) (fun q => by rw [hret, hr0] at q; cases q) hlk
            exact ⟨_, _, locs, [], retN X hx (t := .boolean) (by rw [hret, hr0]) (by simp) (dec hby) hr, hrun, hended, ⟨_, rfl, rfl⟩, by rw [List.append_nil]; exact hH, hF, ⟨_, rfl⟩, hWm, hsame⟩
          · cases hv0
        · cases h
      · cases h
    · -- lreturn
      split at h
      · rename_i x
        split at h
        · rename_i hr0
          cases h
          obtain rfl : len = 1 := by simpa [lenOk] using hlenOk
          intro p e R s m args below meth c T locs cells slots X cx k1 k2 ρ A Sc hL hLl hS hH hF
          obtain ⟨hx, hZ, hby, hml, hown, hnm, hret, hlk, -, -⟩ := cx
          obtain ⟨Sa, rfl, ha⟩ := hS.long
          obtain rfl : Sa = [] := ha
          obtain ⟨fs, hr, hrun, hended, hWm, hsame⟩ := X.leave (v := some (.long x)) (fun q => by rw [hret, hr0] at q; cases q) hlk
          exact ⟨_, _, locs, [], X.lreturnOut hx (by rw [hret, hr0]) (dec hby) hr, hrun, hended, ⟨_, rfl, rfl⟩, by rw [List.append_nil]; exact hH, hF, ⟨_, rfl⟩, hWm, hsame⟩
        · cases h
      · cases h
    · -- return
      split at h
      · split at h
        · rename_i hr0
          cases h
          obtain rfl : len = 1 := by simpa [lenOk] using hlenOk
          intro p e R s m args below meth c T locs cells slots X cx k1 k2 ρ A Sc hL hLl hS hH hF
          obtain ⟨hx, hZ, hby, hml, hown, hnm, hret, hlk, -, -⟩ := cx
          obtain rfl : Sc = [] := hS
          obtain ⟨fs, hr, hrun, hended, hWm, hsame⟩ := X.leave (v := none) (fun _ => rfl) hlk
          exact ⟨_, _, locs, [], X.returnOut hx (by rw [hret, hr0]) (dec hby) hr, hrun, hended, rfl, by rw [List.append_nil]; exact hH, hF, ⟨_, rfl⟩, hWm, hsame⟩
        · cases h
      · cases h
    · -- a call, or a plain step
      split at h
      · rename_i hinv
        split at h
        · -- Object.<init>
          rename_i hb1
          subst hb1
          have hk : ∃ k x S1, i = .invokespecial k ∧ S = .ref x :: S1 ∧ (if 1 ≤ d.rf ∧ catSum S1 + 12 ≤ d.rw then exe P n mi (pc + 3) (forget er L) S1 H else none) = some (v, H', kc, ks) := by
            split at h
            · exact ⟨_, _, _, rfl, rfl, h⟩
            · cases h
          clear h
          obtain ⟨k, x, S1, rfl, rfl, h⟩ := hk
          · split at h
            · rename_i hroom
              have m3 := ih mi (pc + 3) _ S1 H v H' kc ks h d hmi
              obtain rfl : len = 3 := by simpa [lenOk] using hlenOk
              have hWi : ∀ w ∈ iWords P d (pc, .invokespecial k, 3, er, a, -1), w.before a0 Z = true := fun w q => hW w (in_wordsOf hdm hit q)
              have hWi' : ∀ w ∈ [Jvm.Cond.methodLink d.name.cls k Lib.objectInit, .instanceMethod Lib.objectInit, .code Lib.objectInit ⟨#[0xb1]⟩ 1 none], w.before a0 Z = true := hWi
              intro p e R s m args below meth c T locs cells slots X cx k1 k2 ρ A Sc hL hLl hS hH hF
              have cx0 := cx
              obtain ⟨hx, hZ, hby, hml, hown, hnm, hret, hlk, hrf, hrw⟩ := cx
              obtain ⟨ad, Sa, -, rfl, ha⟩ := hS.ref
              obtain ⟨T2, X2, e2, st2⟩ := initO X hx hZ hown (hWi' _ (by simp)) (hWi' _ (by simp)) (hWi' _ (by simp)) rfl (g := mkF m pc A (.ref ad :: Sa)) rfl (by rw [hml]; exact hL.1.trans hLl) rfl (dec hby) (by omega) (W := catSum S1) (by show 2 * 0 + _ ≤ _; rw [ha.cat]; omega) (by omega)
              have := m3 p e R s m args below meth c T2 locs cells slots X2 cx0 k1 k2 ρ A Sa (hL.forget er) (by rw [forget_len]; exact hLl) ha (by rw [e2]; exact hH) hF
              exact Done.step (t := []) (by rw [List.append_nil]; exact this) st2
            · cases h
        · rename_i hb1
          split at h
          · cases h
          rename_i y hy
          split at h
          · cases h
          rename_i as rest hao
          split at h
          · rename_i hcond
            simp only [Bool.and_eq_true, decide_eq_true_eq] at hcond
            obtain ⟨⟨⟨⟨hj, hik⟩, hrecv⟩, hroom⟩, hent⟩ := hcond
            split at h
            · rename_i v1 H1 c1 s1 hcal
              obtain ⟨c0, s0, hcon, rfl, rfl⟩ := res_ext (α := Unit) h
              have m3 := ih mi (pc + 3) _ _ H1 v H' c0 s0 hcon d hmi
              intro p e R s m args below meth c T locs cells slots X cx k1 k2 ρ A Sc hL hLl hS hH hF
              have cx0 := cx
              obtain ⟨hx, hZ, hby, hml, hown, hnm, hret, hlk, hrf, hrw⟩ := cx
              have hym : y ∈ P.mth := List.mem_of_getElem? hy
              have hyc := mChk_of hP hym
              simp only [mChk, Bool.and_eq_true, decide_eq_true_eq] at hyc
              obtain ⟨⟨⟨⟨⟨⟨yc1, yc2⟩, yc3⟩, yc4⟩, yc5⟩, yc6⟩, yc7⟩ := hyc
              simp only [fitsRoom, Bool.and_eq_true, decide_eq_true_eq] at hroom
              obtain ⟨hn, has, hrest⟩ := argsOf_spec hao
              have hnc : nargs y ≤ Sc.length := by rw [hS.len]; exact hn
              have hSa : SR ρ as (Sc.take (nargs y)).reverse := by rw [has]; exact (hS.take _).rev
              have hSr : SR ρ rest (Sc.drop (nargs y)) := by rw [hrest]; exact hS.drop _
              have hsplit : Sc = (Sc.take (nargs y)).reverse.reverse ++ Sc.drop (nargs y) := by rw [List.reverse_reverse, List.take_append_drop]
              obtain ⟨ws, hws⟩ : ∃ ws, ws = (Sc.take (nargs y)).reverse := ⟨_, rfl⟩
              obtain ⟨rc, hrc⟩ : ∃ rc, rc = Sc.drop (nargs y) := ⟨_, rfl⟩
              have hwl : ws.length = nargs y := by rw [hws]; simp; omega
              rw [← hws] at hSa hsplit
              rw [← hrc] at hSr hsplit
              have wcode := hW (.code y.name y.bytes y.maxL y.ret) (in_wordsM hy hj (List.mem_cons_self ..))
              have winit := hW (.initialized y.name.cls) (in_wordsM hy hj (List.mem_cons_of_mem _ (List.mem_cons_self ..)))
              have wmore : ∀ w ∈ (if y.kind = 0 then [Jvm.Cond.static y.name] else if y.kind = 1 then [.instanceMethod y.name] else if y.kind = 2 then [.instanceMethod y.name, .privateMethod y.name] else [.declares y.name, .selects y.name.cls y.name y.name, .instanceMethod y.name]), w.before a0 Z = true := fun w q => hW w (in_wordsM hy hj (List.mem_cons_of_mem _ (List.mem_cons_of_mem _ q)))
              have hMH : y.name.cls ≠ "java/lang/invoke/MethodHandle" ∧ y.name.cls ≠ "java/lang/invoke/VarHandle" := ⟨yc5, yc6⟩
              have back := backOf (W := catSum rest) (len := 3) (R := R) (p := p) (e := e) (below := below) (s := s) (args := args) (met_of ih hy yc1 hcal hSa hent hH [] ({ frames := y.rf, cells := c1, slots := s1, locals := y.rw } : Room) (Nat.le_refl _) (Nat.le_refl _) (Nat.le_refl _) (Nat.le_refl _)) hZ wcode winit (by show y.rf + 1 ≤ _; omega) (by show _ + y.rw ≤ _; omega)
              have hWW : 2 * (mkF m pc A Sc).monitorRoom + (rc.map fun v => v.category).sum ≤ catSum rest := by show 2 * 0 + _ ≤ _; rw [hSr.cat]; omega
              have hpar : ∀ sig, parseMethodDescriptor y.name.desc = some sig → sig.parameters.length = y.npar := fun sig q => by
                unfold sigChk at yc2
                rw [q] at yc2
                simpa using yc2
              have fin : ∀ (v1' : Option Value) (T2 : State) (Lc : List Loc), Stand p l e R s m args below meth c T2 (locs ++ Lc) (cells + c1) (slots + s1) → QQ P Z n0 ρ v1 H1 v1' T2.heap Lc →
                  (∀ target, Steps p.tables e below (T2.setTop (mkF m (pc + 3) A (v1'.toList ++ rc))) target → Steps p.tables e below (T.setTop (mkF m pc A Sc)) target) →
                  Done P Z n0 p e below s ρ v H' (cells + (c0 + c1)) (slots + (s0 + s1)) (T.setTop (mkF m pc A Sc)) := by
                intro v1' T2 Lc X2 hq st2
                obtain ⟨hF2, t, hov, hH2⟩ := hq
                have := m3 p e R s m args below meth c T2 (locs ++ Lc) _ _ X2 cx0 (by omega) (by omega) (ρ ++ t) A (v1'.toList ++ rc) (hL.forget er).mono (by rw [forget_len]; exact hLl) (hov.list.app hSr.mono) hH2 (hF.app hF2)
                have q1 : cells + c1 + c0 = cells + (c0 + c1) := by omega
                have q2 : slots + s1 + s0 = slots + (s0 + s1) := by omega
                rw [q1, q2] at this
                exact this.step st2
              have hcR : cells + c1 ≤ R.cells := by omega
              have hsR : slots + s1 ≤ R.slots := by omega
              cases i with
              | invokestatic k =>
                obtain rfl : len = 3 := by simpa [lenOk] using hlenOk
                have hk0 : y.kind = 0 := by simpa [invKind] using hik
                have wl := hW (.methodLink d.name.cls k y.name) (in_wordsOf hdm hit (by show _ ∈ mLink P d k a b; unfold mLink; rw [if_neg hb1, hy]; exact List.mem_singleton.mpr rfl))
                have wst := wmore (.static y.name) (by rw [if_pos hk0]; exact List.mem_singleton.mpr rfl)
                have hna : nargs y = y.npar := by simp [nargs, hk0]
                obtain ⟨v1', _, ⟨T2, L2, k2', n2⟩, -, X2, ⟨Lc, hQ, l2, y2, z2⟩, st2⟩ := Jvm.LawKit.callS X hx (y := y.name) hown (mvT hZ wl) (mvT hZ wst) (mvT hZ winit) (mvT hZ wcode) hMH back (g := mkF m pc A Sc) rfl (by rw [hml]; exact hL.1.trans hLl) (argsL := ws) (rest := rc) (fun sig q => by rw [hpar sig q, hwl, hna]) hsplit hWW (dec hby) (fun _ _ => ⟨rfl, rfl, hcR, hsR⟩)
                dsimp only [Pt.U, Pt.locs, Pt.cells, Pt.slots] at X2 l2 y2 z2 st2 hQ
                subst l2 y2 z2
                exact fin v1' T2 Lc X2 hQ st2
              | invokespecial k =>
                obtain rfl : len = 3 := by simpa [lenOk] using hlenOk
                have hk1 : y.kind = 1 := by simpa [invKind] using hik
                have wl := hW (.methodLink d.name.cls k y.name) (in_wordsOf hdm hit (by show _ ∈ mLink P d k a b; unfold mLink; rw [if_neg hb1, hy]; exact List.mem_singleton.mpr rfl))
                have wst := wmore (.instanceMethod y.name) (by rw [if_neg (by omega), if_pos hk1]; exact List.mem_singleton.mpr rfl)
                have hna : nargs y = y.npar + 1 := by simp [nargs, hk1]
                simp [hk1] at yc7
                have wcode' : (Jvm.Cond.code y.name y.bytes y.maxL none).before a0 Z = true := by rw [← yc7.2]; exact wcode
                unfold recvOk at hrecv
                rw [if_neg (by omega)] at hrecv
                split at hrecv
                · rename_i o as'
                  obtain ⟨ad, ws', g1, rfl, ha'⟩ := hSa.ref
                  have hst : Sc = ws'.reverse ++ .ref ad :: rc := by rw [hsplit]; simp
                  obtain ⟨v1', _, ⟨T2, L2, k2', n2⟩, -, X2, ⟨Lc, hQ, l2, y2, z2⟩, st2⟩ := X.specialBack hx (y := y.name) yc7.1 hown (mvT hZ wl) (mvT hZ wst) (mvT hZ wcode') hMH back (g := mkF m pc A Sc) rfl (by rw [hml]; exact hL.1.trans hLl) (Steps.refl _) (a := ad) (argsL := ws') (rest := rc) (fun sig q => by rw [hpar sig q]; simp [hna] at hwl; omega) hst hWW (dec hby) (fun _ _ => ⟨rfl, rfl, hcR, hsR⟩)
                  dsimp only [Pt.U, Pt.locs, Pt.cells, Pt.slots] at X2 l2 y2 z2 st2 hQ
                  subst l2 y2 z2
                  exact fin v1' T2 Lc X2 hQ fun t z => st2.trans z
                · cases hrecv
              | invokevirtual k =>
                obtain rfl : len = 3 := by simpa [lenOk] using hlenOk
                have wl := hW (.methodLink d.name.cls k y.name) (in_wordsOf hdm hit (by show _ ∈ mLink P d k a b; unfold mLink; rw [if_neg hb1, hy]; exact List.mem_singleton.mpr rfl))
                have hk23 : y.kind = 2 ∨ y.kind = 3 := by simpa [invKind] using hik
                have hk0 : ¬ y.kind = 0 := by omega
                have hk1 : ¬ y.kind = 1 := by omega
                have hna : nargs y = y.npar + 1 := by simp [nargs, hk0]
                unfold recvOk at hrecv
                rw [if_neg hk0] at hrecv
                split at hrecv
                · rename_i o as'
                  obtain ⟨ad, ws', g1, rfl, ha'⟩ := hSa.ref
                  have hst : Sc = ws'.reverse ++ .ref ad :: rc := by rw [hsplit]; simp
                  split at hrecv
                  · rename_i c0 fs hc0
                    obtain rfl : c0 = y.cid := by simpa using hrecv
                    obtain ⟨ad', g2, cd, q1, q2, q3, q4⟩ := hH.at hc0
                    rw [g1] at g2; cases g2
                    have hcd := cid_of hP hym q1
                    have hcm : cd ∈ P.cls := List.mem_of_getElem? q1
                    rw [hcd] at q2
                    by_cases hk2 : y.kind = 2
                    · have w1 := wmore (.instanceMethod y.name) (by rw [if_neg hk0, if_neg hk1, if_pos hk2]; simp)
                      have w2 := wmore (.privateMethod y.name) (by rw [if_neg hk0, if_neg hk1, if_pos hk2]; simp)
                      have w3 := hW (.instantiable cd.1 cd.2.1) (in_wordsC hcm (List.mem_cons_self ..))
                      rw [hcd] at w3
                      obtain ⟨cI, kI, i1, i2, i3, i4, -⟩ := Cond.instantiable_spec (mvT hZ w3 (args := args) : (Jvm.Cond.instantiable y.name.cls cd.2.1).before args s = true)
                      have hsel := selects_self_of_private (args := args) i1 i2 (by simp at i4; exact i4.1) (Cond.privateMethod_at (mvP hZ w2 (args := #[]))) (mvT hZ w1) hMH
                      obtain ⟨cq, hq1, hq2⟩ := q2.cell
                      obtain ⟨v1', _, ⟨T2, L2, k2', n2⟩, -, X2, ⟨Lc, hQ, l2, y2, z2⟩, st2⟩ := X.privateBack hx (y := y.name) hown (mvT hZ wl) (mvT hZ w1) hsel (Cond.privateMethod_at (mvP hZ w2 (args := #[]))) (mvT hZ wcode) hMH back (g := mkF m pc A Sc) rfl (by rw [hml]; exact hL.1.trans hLl) (Steps.refl _) (a := ad) hq1 hq2 (argsL := ws') (rest := rc) (fun sig q => by rw [hpar sig q]; simp [hna] at hwl; omega) hst hWW (dec hby) (fun _ _ => ⟨rfl, rfl, hcR, hsR⟩)
                      dsimp only [Pt.U, Pt.locs, Pt.cells, Pt.slots] at X2 l2 y2 z2 st2 hQ
                      subst l2 y2 z2
                      exact fin v1' T2 Lc X2 hQ fun t z => st2.trans z
                    · have w1 := wmore (.declares y.name) (by rw [if_neg hk0, if_neg hk1, if_neg hk2]; simp)
                      have w2 := wmore (.selects y.name.cls y.name y.name) (by rw [if_neg hk0, if_neg hk1, if_neg hk2]; simp)
                      have w3 := wmore (.instanceMethod y.name) (by rw [if_neg hk0, if_neg hk1, if_neg hk2]; simp)
                      obtain ⟨cq, kq, qa, qb, qc⟩ := isOf hZ rfl q2
                      obtain ⟨v1', _, ⟨T2, L2, k2', n2⟩, -, X2, ⟨Lc, hQ, l2, y2, z2⟩, st2⟩ := X.virtualBack hx (y := y.name) (z := y.name) hown (mvT hZ wl) (mvT hZ w1) (notFace_of_selects (args := #[]) (mvT hZ w2)) (mvT hZ w2) (mvT hZ w3) hMH back qa qc (g := mkF m pc A Sc) rfl (by rw [hml]; exact hL.1.trans hLl) (Steps.refl _) (argsL := ws') (rest := rc) (fun sig q => by rw [hpar sig q]; simp [hna] at hwl; omega) hst hWW (dec hby) (fun _ _ => ⟨rfl, rfl, hcR, hsR⟩)
                      dsimp only [Pt.U, Pt.locs, Pt.cells, Pt.slots] at X2 l2 y2 z2 st2 hQ
                      subst l2 y2 z2
                      exact fin v1' T2 Lc X2 hQ fun t z => st2.trans z
                  · cases hrecv
                · cases hrecv
              | _ => simp [isInv] at hinv
            · cases h
          · cases h
      · split at h
        · split at h
          · rename_i S1 H1 k1' hxN
            obtain ⟨c0, s0, hcon, rfl, rfl⟩ := res_ext (α := Unit) h
            have m3 := ih mi (pc + len) _ S1 H1 v H' c0 s0 hcon d hmi
            intro p e R s m args below meth c T locs cells slots X cx k1 k2 ρ A Sc hL hLl hS hH hF
            have cx0 := cx
            obtain ⟨hx, hZ, hby, hml, hown, hnm, hret, hlk, hrf, hrw⟩ := cx
            obtain ⟨T2, ad, Sc2, X2, hS2, hH2, st2⟩ := stepN (A := A) X hx hZ hown hP hW hdm hit (dec hby) hlenOk hS hH hxN (by omega) (by omega)
            have := m3 p e R s m args below meth c T2 locs _ _ X2 cx0 (by omega) (by omega) (ρ ++ [ad]) A Sc2 (hL.forget er).mono (by rw [forget_len]; exact hLl) hS2 hH2 hF
            have q1 : cells + 1 + c0 = cells + (c0 + 1) := by omega
            have q2 : slots + k1' + s0 = slots + (s0 + k1') := by omega
            rw [q1, q2] at this
            exact this.step st2
          · cases h
        · split at h
          · rename_i L1 S1 H1 hxI
            have m3 := ih mi (pc + len) L1 S1 H1 v H' kc ks h d hmi
            intro p e R s m args below meth c T locs cells slots X cx k1 k2 ρ A Sc hL hLl hS hH hF
            have cx0 := cx
            obtain ⟨hx, hZ, hby, hml, hown, hnm, hret, hlk, hrf, hrw⟩ := cx
            obtain ⟨T2, locs2, A2, Sc2, X2, x3, hL2, hS2, hH2, hF2, st2⟩ := stepX X hx hZ hown hnm hP hW hdm hit (dec hby) hlenOk (hL.forget er) hS hH hF hxI
            have := m3 p e R s m args below meth c T2 locs2 cells slots X2 cx0 k1 k2 ρ A2 Sc2 hL2 (by rw [x3, forget_len]; exact hLl) hS2 hH2 hF2
            exact Done.step (t := []) (by rw [List.append_nil]; exact this) st2
          · cases h
end Sound
end Jvm.Own
namespace Jvm.Own
open Jvm Jvm.ClassFile Sem Op Lib Jvm.Free Jvm.Stand Jvm.LawKit Jvm.RoadKit Bundle
/-! Runs of the plain machine, rule by rule -/
def OEnds (P : PD) (mi pc : Nat) (L : List Slot) (S : List Value) (H : AHeap) (r : Res) : Prop := ∃ n0, ∀ n, n0 ≤ n → exe P n mi pc L S H = some r
def plainI : Instr → Bool
  | .goto _ => false
  | .if_icmp _ _ => false
  | .ifCond _ _ => false
  | .ifnonnull _ => false
  | .ireturn => false
  | .lreturn => false
  | .return_ => false
  | .invokestatic _ => false
  | .invokespecial _ => false
  | .invokevirtual _ => false
  | .new _ => false
  | .newarray _ => false
  | _ => true
section Rules
variable {P : PD} {mi pc len a q : Nat} {er : List Bool} {b : Int} {i : Instr} {d y : MD} {L L' : List Slot} {S S' as rest : List Value} {H H' H1 : AHeap} {r : Res} {kc ks : Nat} {v : Option Value}
theorem OEnds.up (h : ∀ n, exe P n mi q L' S' H' = some r → exe P (n + 1) mi pc L S H = some r) (E : OEnds P mi q L' S' H' r) : OEnds P mi pc L S H r := by
  obtain ⟨n0, E⟩ := E
  refine ⟨n0 + 1, fun n hn => ?_⟩
  obtain ⟨k, rfl⟩ : ∃ k, n = k + 1 := ⟨n - 1, by omega⟩
  exact h k (E k (by omega))
theorem OEnds.plain (hm : P.mth[mi]? = some d) (hf : fetch d.code pc = some (i, len, er, a, b)) (hp : plainI i = true) (hx : xI P (d.name.name == "<init>") d.cid i a b (forget er L) S H = some (L', S', H')) (E : OEnds P mi (pc + len) L' S' H' r) : OEnds P mi pc L S H r := by
  refine E.up fun n h => ?_
  unfold exe
  rw [hm]
  simp only
  rw [hf]
  simp only
  split
  all_goals first | (simp [plainI] at hp; done) | skip
  have h1 : ¬ isInv i = true := by
    cases i <;> first | (simp [plainI] at hp; done) | simp [isInv]
  have h2 : ¬ isNew i = true := by
    cases i <;> first | (simp [plainI] at hp; done) | simp [isNew]
  rw [if_neg h1, if_neg h2, hx]
  exact h
theorem OEnds.goto {o : Int} (hm : P.mth[mi]? = some d) (hf : fetch d.code pc = some (.goto o, len, er, a, b)) (ht : tgt pc o = some q) (E : OEnds P mi q (forget er L) S H r) : OEnds P mi pc L S H r := by
  refine E.up fun n h => ?_
  unfold exe
  rw [hm]
  simp only
  rw [hf]
  simp only
  rw [ht]
  exact h
theorem OEnds.icmpT {o : Int} {cd : ClassFile.Cond} {x z : Int32} (hm : P.mth[mi]? = some d) (hf : fetch d.code pc = some (.if_icmp cd o, len, er, a, b)) (ht : tgt pc o = some q) (hc : if_icmp.holds cd x z = true) (E : OEnds P mi q (forget er L) S H r) : OEnds P mi pc L (.int z :: .int x :: S) H r := by
  refine E.up fun n h => ?_
  unfold exe
  rw [hm]
  simp only
  rw [hf]
  simp only
  rw [if_pos hc, ht]
  exact h
theorem OEnds.icmpF {o : Int} {cd : ClassFile.Cond} {x z : Int32} (hm : P.mth[mi]? = some d) (hf : fetch d.code pc = some (.if_icmp cd o, len, er, a, b)) (hc : if_icmp.holds cd x z = false) (E : OEnds P mi (pc + 3) (forget er L) S H r) : OEnds P mi pc L (.int z :: .int x :: S) H r := by
  refine E.up fun n h => ?_
  unfold exe
  rw [hm]
  simp only
  rw [hf]
  simp only
  rw [if_neg (by rw [hc]; exact Bool.false_ne_true)]
  exact h
theorem OEnds.ifT {o : Int} {cd : ClassFile.Cond} {x : Int32} (hm : P.mth[mi]? = some d) (hf : fetch d.code pc = some (.ifCond cd o, len, er, a, b)) (ht : tgt pc o = some q) (hc : if_icmp.holds cd x 0 = true) (E : OEnds P mi q (forget er L) S H r) : OEnds P mi pc L (.int x :: S) H r := by
  refine E.up fun n h => ?_
  unfold exe
  rw [hm]
  simp only
  rw [hf]
  simp only
  rw [if_pos ((if0 cd x).trans hc), ht]
  exact h
theorem OEnds.ifF {o : Int} {cd : ClassFile.Cond} {x : Int32} (hm : P.mth[mi]? = some d) (hf : fetch d.code pc = some (.ifCond cd o, len, er, a, b)) (hc : if_icmp.holds cd x 0 = false) (E : OEnds P mi (pc + 3) (forget er L) S H r) : OEnds P mi pc L (.int x :: S) H r := by
  refine E.up fun n h => ?_
  unfold exe
  rw [hm]
  simp only
  rw [hf]
  simp only
  rw [if_neg (by rw [if0 cd x, hc]; exact Bool.false_ne_true)]
  exact h
theorem OEnds.nonnull {o : Int} {x : Nat} (hm : P.mth[mi]? = some d) (hf : fetch d.code pc = some (.ifnonnull o, len, er, a, b)) (ht : tgt pc o = some q) (E : OEnds P mi q (forget er L) S H r) : OEnds P mi pc L (.ref x :: S) H r := by
  refine E.up fun n h => ?_
  unfold exe
  rw [hm]
  simp only
  rw [hf]
  simp only
  rw [ht]
  exact h
theorem OEnds.iret {x : Int32} {u : Value} (hm : P.mth[mi]? = some d) (hf : fetch d.code pc = some (.ireturn, len, er, a, b)) (hv : retV d.ret x = some u) : OEnds P mi pc L [.int x] H (some u, H, 0, 0) := by
  refine ⟨1, fun n hn => ?_⟩
  obtain ⟨k, rfl⟩ : ∃ k, n = k + 1 := ⟨n - 1, by omega⟩
  unfold exe
  rw [hm]
  simp only
  rw [hf]
  simp only
  rw [hv]
theorem OEnds.lret {x : Int64} (hm : P.mth[mi]? = some d) (hf : fetch d.code pc = some (.lreturn, len, er, a, b)) (hv : d.ret = some .long) : OEnds P mi pc L [.long x] H (some (.long x), H, 0, 0) := by
  refine ⟨1, fun n hn => ?_⟩
  obtain ⟨k, rfl⟩ : ∃ k, n = k + 1 := ⟨n - 1, by omega⟩
  unfold exe
  rw [hm]
  simp only
  rw [hf]
  simp only
  rw [if_pos hv]
theorem OEnds.vret (hm : P.mth[mi]? = some d) (hf : fetch d.code pc = some (.return_, len, er, a, b)) (hv : d.ret = none) : OEnds P mi pc L [] H (none, H, 0, 0) := by
  refine ⟨1, fun n hn => ?_⟩
  obtain ⟨k, rfl⟩ : ∃ k, n = k + 1 := ⟨n - 1, by omega⟩
  unfold exe
  rw [hm]
  simp only
  rw [hf]
  simp only
  rw [if_pos hv]
theorem OEnds.oinit {k x : Nat} (hm : P.mth[mi]? = some d) (hf : fetch d.code pc = some (.invokespecial k, len, er, a, -1)) (hr : 1 ≤ d.rf ∧ catSum S + 12 ≤ d.rw) (E : OEnds P mi (pc + 3) (forget er L) S H r) : OEnds P mi pc L (.ref x :: S) H r := by
  refine E.up fun n h => ?_
  unfold exe
  rw [hm]
  simp only
  rw [hf]
  simp only [isInv, if_true]
  rw [if_pos hr]
  exact h
theorem OEnds.call (hm : P.mth[mi]? = some d) (hf : fetch d.code pc = some (i, len, er, a, b)) (hi : isInv i = true) (hb : ¬ b = -1) (hy : P.mth[a]? = some y) (hao : argsOf (nargs y) S = some (as, rest))
    (hc : (decide (0 < a) && invKind i y.kind && recvOk P H y as && fitsRoom d y rest && decide ((entA as).length ≤ y.maxL)) = true) (E1 : OEnds P a 0 (entL as y.maxL) [] H (v, H1, kc, ks)) (E2 : OEnds P mi (pc + 3) (forget er L) (v.toList ++ rest) H1 r) : OEnds P mi pc L S H (addR r kc ks) := by
  obtain ⟨n1, E1⟩ := E1
  obtain ⟨n2, E2⟩ := E2
  refine ⟨n1 + n2 + 1, fun n hn => ?_⟩
  obtain ⟨k, rfl⟩ : ∃ k, n = k + 1 := ⟨n - 1, by omega⟩
  have e1 := E1 k (by omega)
  have e2 := E2 k (by omega)
  unfold exe
  rw [hm]
  simp only
  rw [hf]
  simp only
  split
  all_goals first | (simp [isInv] at hi; done) | skip
  rw [if_pos hi, if_neg hb, hy]
  simp only
  rw [hao]
  simp only
  rw [if_pos hc, e1]
  simp only
  rw [e2]
  rfl
theorem OEnds.call0 (hm : P.mth[mi]? = some d) (hf : fetch d.code pc = some (i, len, er, a, b)) (hi : isInv i = true) (hb : ¬ b = -1) (hy : P.mth[a]? = some y) (hao : argsOf (nargs y) S = some (as, rest))
    (hc : (decide (0 < a) && invKind i y.kind && recvOk P H y as && fitsRoom d y rest && decide ((entA as).length ≤ y.maxL)) = true) (E1 : OEnds P a 0 (entL as y.maxL) [] H (v, H1, 0, 0)) (E2 : OEnds P mi (pc + 3) (forget er L) (v.toList ++ rest) H1 r) : OEnds P mi pc L S H r :=
  OEnds.call (r := r) hm hf hi hb hy hao hc E1 E2
theorem OEnds.made (hm : P.mth[mi]? = some d) (hf : fetch d.code pc = some (i, len, er, a, b)) (hi : isNew i = true) (hx : xN P i a S H = some (S', H', ks)) (E : OEnds P mi (pc + len) (forget er L) S' H' r) : OEnds P mi pc L S H (addR r 1 ks) := by
  obtain ⟨n0, E⟩ := E
  refine ⟨n0 + 1, fun n hn => ?_⟩
  obtain ⟨k, rfl⟩ : ∃ k, n = k + 1 := ⟨n - 1, by omega⟩
  have e1 := E k (by omega)
  unfold exe
  rw [hm]
  simp only
  rw [hf]
  simp only
  split
  all_goals first | (simp [isNew] at hi; done) | skip
  have h1 : ¬ isInv i = true := by
    cases i <;> first | (simp [isNew] at hi; done) | simp [isInv]
  rw [if_neg h1, if_pos hi, hx]
  simp only
  rw [e1]
  rfl
end Rules
/-- k plain instructions and jumps in one go -/
def adv (P : PD) (d : MD) : Nat → Nat → List Slot → List Value → AHeap → Option (Nat × List Slot × List Value × AHeap)
  | 0, pc, L, S, H => some (pc, L, S, H)
  | k + 1, pc, L, S, H => match fetch d.code pc with
    | some (i, len, er, a, b) => match i with
      | .goto o => match tgt pc o with
        | some q => adv P d k q (forget er L) S H
        | none => none
      | i => if plainI i = true then match xI P (d.name.name == "<init>") d.cid i a b (forget er L) S H with
          | some (L', S', H') => adv P d k (pc + len) L' S' H'
          | none => none
        else none
    | none => none
theorem OEnds.adv {P : PD} {mi : Nat} {d : MD} (hm : P.mth[mi]? = some d) {r : Res} : ∀ (k : Nat) {pc pc' : Nat} {L L' : List Slot} {S S' : List Value} {H H' : AHeap}, adv P d k pc L S H = some (pc', L', S', H') → OEnds P mi pc' L' S' H' r → OEnds P mi pc L S H r
  | 0, _, _, _, _, _, _, _, _, h, E => by
    unfold Own.adv at h
    cases h
    exact E
  | k + 1, pc, pc', L, L', S, S', H, H', h, E => by
    unfold Own.adv at h
    split at h
    · rename_i it i len er a b hf
      split at h
      · rename_i o
        split at h
        · rename_i q hq
          exact OEnds.goto hm hf hq (OEnds.adv hm k h E)
        · cases h
      · split at h
        · rename_i hp
          split at h
          · rename_i L1 S1 H1 hx
            exact OEnds.plain hm hf hp hx (OEnds.adv hm k h E)
          · cases h
        · cases h
    · cases h
theorem x_iaload {P : PD} {ini : Bool} {cid a o : Nat} {b : Int} {L : List Slot} {S : List Value} {H : AHeap} {A : List Int32} {j x : Int32} (h : H[o]? = some (.inr (.inl (false, A)))) (hx : rdA A j = some x) : xI P ini cid .iaload a b L (.int j :: .ref o :: S) H = some (L, .int x :: S, H) := by simp [xI, h, hx]
theorem x_baload {P : PD} {ini : Bool} {cid a o : Nat} {b : Int} {L : List Slot} {S : List Value} {H : AHeap} {A : List Int32} {j x : Int32} (h : H[o]? = some (.inr (.inl (true, A)))) (hx : rdA A j = some x) : xI P ini cid .baload a b L (.int j :: .ref o :: S) H = some (L, .int x :: S, H) := by simp [xI, h, hx]
theorem x_laload {P : PD} {ini : Bool} {cid a o : Nat} {b : Int} {L : List Slot} {S : List Value} {H : AHeap} {A : List Int64} {j : Int32} {x : Int64} (h : H[o]? = some (.inr (.inr A))) (hx : rdA A j = some x) : xI P ini cid .laload a b L (.int j :: .ref o :: S) H = some (L, .long x :: S, H) := by simp [xI, h, hx]
theorem x_iastore {P : PD} {ini : Bool} {cid a o : Nat} {b : Int} {L : List Slot} {S : List Value} {H : AHeap} {A A' : List Int32} {j x : Int32} (h : H[o]? = some (.inr (.inl (false, A)))) (hn : P.nr ≤ o) (hx : wrA A j x = some A') : xI P ini cid .iastore a b L (.int x :: .int j :: .ref o :: S) H = some (L, S, H.set o (.inr (.inl (false, A')))) := by simp [xI, h, hx, hn]
theorem x_bastore {P : PD} {ini : Bool} {cid a o : Nat} {b : Int} {L : List Slot} {S : List Value} {H : AHeap} {A A' : List Int32} {j x : Int32} (h : H[o]? = some (.inr (.inl (true, A)))) (hn : P.nr ≤ o) (hx : wrA A j (x &&& 1) = some A') : xI P ini cid .bastore a b L (.int x :: .int j :: .ref o :: S) H = some (L, S, H.set o (.inr (.inl (true, A')))) := by simp [xI, h, hx, hn]
theorem x_lastore {P : PD} {ini : Bool} {cid a o : Nat} {b : Int} {L : List Slot} {S : List Value} {H : AHeap} {A A' : List Int64} {j : Int32} {x : Int64} (h : H[o]? = some (.inr (.inr A))) (hn : P.nr ≤ o) (hx : wrA A j x = some A') : xI P ini cid .lastore a b L (.long x :: .int j :: .ref o :: S) H = some (L, S, H.set o (.inr (.inr A'))) := by simp [xI, h, hx, hn]
theorem x_irem {P : PD} {ini : Bool} {cid a : Nat} {b : Int} {L : List Slot} {S : List Value} {H : AHeap} {x y : Int32} (h : ¬ y = 0) : xI P ini cid .irem a b L (.int y :: .int x :: S) H = some (L, .int (x % y) :: S, H) := by simp [xI, h]
theorem x_idiv {P : PD} {ini : Bool} {cid a : Nat} {b : Int} {L : List Slot} {S : List Value} {H : AHeap} {x y : Int32} (h : ¬ y = 0) : xI P ini cid .idiv a b L (.int y :: .int x :: S) H = some (L, .int (x / y) :: S, H) := by simp [xI, h]
theorem x_lrem {P : PD} {ini : Bool} {cid a : Nat} {b : Int} {L : List Slot} {S : List Value} {H : AHeap} {x y : Int64} (h : ¬ y = 0) : xI P ini cid .lrem a b L (.long y :: .long x :: S) H = some (L, .long (x % y) :: S, H) := by simp [xI, h]
theorem x_ldiv {P : PD} {ini : Bool} {cid a : Nat} {b : Int} {L : List Slot} {S : List Value} {H : AHeap} {x y : Int64} (h : ¬ y = 0) : xI P ini cid .ldiv a b L (.long y :: .long x :: S) H = some (L, .long (x / y) :: S, H) := by simp [xI, h]
theorem c_lt {x y : Int64} : XT.cmpL x y < 0 ↔ x < y := by
  unfold XT.cmpL; split <;> (try split) <;> simp_all [Int64.lt_iff_toInt_lt, ← Int64.toInt_inj] <;> omega
theorem c_gt {x y : Int64} : 0 < XT.cmpL x y ↔ y < x := by
  unfold XT.cmpL; split <;> (try split) <;> simp_all [Int64.lt_iff_toInt_lt, ← Int64.toInt_inj] <;> omega
theorem c_eq {x y : Int64} : XT.cmpL x y = 0 ↔ x = y := by
  unfold XT.cmpL; split <;> (try split) <;> simp_all [Int64.lt_iff_toInt_lt, ← Int64.toInt_inj] <;> omega
end Jvm.Own
namespace Jvm.Own
open Jvm Jvm.ClassFile Sem Op Lib Jvm.Free Jvm.Stand Jvm.LawKit Jvm.RoadKit Bundle
theorem bnd {α β : Type} {o : Option α} {f : α → Option β} {b : β} (h : o.bind f = some b) : ∃ a, o = some a ∧ f a = some b := Option.bind_eq_some_iff.mp h
theorem x_putZ {P : PD} {ini : Bool} {k cid a o : Nat} {b : Int} {L : List Slot} {S : List Value} {H : AHeap} {fs : List Value} {nm ds : String} {x : Int32} (h : H[o]? = some (.inl (cid, fs))) (hn : P.nr ≤ o) (hf : ((P.cls[cid]?).bind fun cd => cd.2.2[a]?) = some (nm, ds, .boolean, false)) (hx : x = 0 ∨ x = 1) :
    xI P ini cid (.putfield k) a b L (.int x :: .ref o :: S) H = some (L, S, H.set o (.inl (cid, fs.set a (.int x)))) := by
  rcases hx with rfl | rfl <;> simp [xI, h, hn, hf, putOk]
section Rules
variable {P : PD} {mi pc len a q : Nat} {er : List Bool} {b : Int} {i : Instr} {d y : MD} {L L' : List Slot} {S S' as rest : List Value} {H H' H1 : AHeap} {r : Res} {kc ks : Nat} {v : Option Value}
theorem OEnds.made1 {w : Option Value} {Hf : AHeap} (hm : P.mth[mi]? = some d) (hf : fetch d.code pc = some (i, len, er, a, b)) (hi : isNew i = true) (hx : xN P i a S H = some (S', H', ks)) {c0 s0 c1 s1 : Nat} (hr : (c1, s1) = (c0 + 1, s0 + ks)) (E : OEnds P mi (pc + len) (forget er L) S' H' (w, Hf, c0, s0)) : OEnds P mi pc L S H (w, Hf, c1, s1) := by
  cases hr
  exact OEnds.made (r := (w, Hf, c0, s0)) hm hf hi hx E
/-! The same, of a run whose end is told by a property -/
def OEndsQ (P : PD) (mi pc : Nat) (L : List Slot) (S : List Value) (H : AHeap) (Q : Res → Prop) : Prop := ∃ r, OEnds P mi pc L S H r ∧ Q r
variable {Q : Res → Prop}
theorem OEndsQ.plain (hm : P.mth[mi]? = some d) (hf : fetch d.code pc = some (i, len, er, a, b)) (hp : plainI i = true) (hx : xI P (d.name.name == "<init>") d.cid i a b (forget er L) S H = some (L', S', H')) (E : OEndsQ P mi (pc + len) L' S' H' Q) : OEndsQ P mi pc L S H Q := by
  obtain ⟨r, E, hq⟩ := E; exact ⟨r, OEnds.plain hm hf hp hx E, hq⟩
theorem OEndsQ.icmpT {o : Int} {cd : ClassFile.Cond} {x z : Int32} (hm : P.mth[mi]? = some d) (hf : fetch d.code pc = some (.if_icmp cd o, len, er, a, b)) (ht : tgt pc o = some q) (hc : if_icmp.holds cd x z = true) (E : OEndsQ P mi q (forget er L) S H Q) : OEndsQ P mi pc L (.int z :: .int x :: S) H Q := by
  obtain ⟨r, E, hq⟩ := E; exact ⟨r, OEnds.icmpT hm hf ht hc E, hq⟩
theorem OEndsQ.icmpF {o : Int} {cd : ClassFile.Cond} {x z : Int32} (hm : P.mth[mi]? = some d) (hf : fetch d.code pc = some (.if_icmp cd o, len, er, a, b)) (hc : if_icmp.holds cd x z = false) (E : OEndsQ P mi (pc + 3) (forget er L) S H Q) : OEndsQ P mi pc L (.int z :: .int x :: S) H Q := by
  obtain ⟨r, E, hq⟩ := E; exact ⟨r, OEnds.icmpF hm hf hc E, hq⟩
theorem OEndsQ.ifT {o : Int} {cd : ClassFile.Cond} {x : Int32} (hm : P.mth[mi]? = some d) (hf : fetch d.code pc = some (.ifCond cd o, len, er, a, b)) (ht : tgt pc o = some q) (hc : if_icmp.holds cd x 0 = true) (E : OEndsQ P mi q (forget er L) S H Q) : OEndsQ P mi pc L (.int x :: S) H Q := by
  obtain ⟨r, E, hq⟩ := E; exact ⟨r, OEnds.ifT hm hf ht hc E, hq⟩
theorem OEndsQ.ifF {o : Int} {cd : ClassFile.Cond} {x : Int32} (hm : P.mth[mi]? = some d) (hf : fetch d.code pc = some (.ifCond cd o, len, er, a, b)) (hc : if_icmp.holds cd x 0 = false) (E : OEndsQ P mi (pc + 3) (forget er L) S H Q) : OEndsQ P mi pc L (.int x :: S) H Q := by
  obtain ⟨r, E, hq⟩ := E; exact ⟨r, OEnds.ifF hm hf hc E, hq⟩
theorem OEndsQ.nonnull {o : Int} {x : Nat} (hm : P.mth[mi]? = some d) (hf : fetch d.code pc = some (.ifnonnull o, len, er, a, b)) (ht : tgt pc o = some q) (E : OEndsQ P mi q (forget er L) S H Q) : OEndsQ P mi pc L (.ref x :: S) H Q := by
  obtain ⟨r, E, hq⟩ := E; exact ⟨r, OEnds.nonnull hm hf ht E, hq⟩
theorem OEndsQ.call0 (hm : P.mth[mi]? = some d) (hf : fetch d.code pc = some (i, len, er, a, b)) (hi : isInv i = true) (hb : ¬ b = -1) (hy : P.mth[a]? = some y) (hao : argsOf (nargs y) S = some (as, rest))
    (hc : (decide (0 < a) && invKind i y.kind && recvOk P H y as && fitsRoom d y rest && decide ((entA as).length ≤ y.maxL)) = true) (E1 : OEnds P a 0 (entL as y.maxL) [] H (v, H1, 0, 0)) (E2 : OEndsQ P mi (pc + 3) (forget er L) (v.toList ++ rest) H1 Q) : OEndsQ P mi pc L S H Q := by
  obtain ⟨r, E, hq⟩ := E2; exact ⟨r, OEnds.call0 hm hf hi hb hy hao hc E1 E, hq⟩
theorem OEndsQ.adv (hm : P.mth[mi]? = some d) (k : Nat) {pc' : Nat} (h : adv P d k pc L S H = some (pc', L', S', H')) (E : OEndsQ P mi pc' L' S' H' Q) : OEndsQ P mi pc L S H Q := by
  obtain ⟨r, E, hq⟩ := E; exact ⟨r, OEnds.adv hm k h E, hq⟩
/-- what a law's run ends with: its answer, and at the most so many cells and slots made -/
def LawQ (x : Int32) (kc ks : Nat) (r : Res) : Prop := r.1 = some (.int x) ∧ r.2.2.1 ≤ kc ∧ r.2.2.2 ≤ ks
theorem OEndsQ.iret {x u : Int32} (hm : P.mth[mi]? = some d) (hf : fetch d.code pc = some (.ireturn, len, er, a, b)) (hv : retV d.ret x = some (.int u)) : OEndsQ P mi pc L [.int x] H (LawQ u kc ks) :=
  ⟨_, OEnds.iret hm hf hv, rfl, Nat.zero_le _, Nat.zero_le _⟩
theorem OEndsQ.weak {x : Int32} {c0 s0 : Nat} (h1 : c0 ≤ kc) (h2 : s0 ≤ ks) (E : OEndsQ P mi pc L S H (LawQ x c0 s0)) : OEndsQ P mi pc L S H (LawQ x kc ks) := by
  obtain ⟨r, E, q1, q2, q3⟩ := E; exact ⟨r, E, q1, Nat.le_trans q2 h1, Nat.le_trans q3 h2⟩
theorem OEndsQ.made {x : Int32} {c0 s0 c1 s1 : Nat} (hm : P.mth[mi]? = some d) (hf : fetch d.code pc = some (i, len, er, a, b)) (hi : isNew i = true) (hx : xN P i a S H = some (S', H', ks)) (h1 : c0 + 1 ≤ c1) (h2 : s0 + ks ≤ s1) (E : OEndsQ P mi (pc + len) (forget er L) S' H' (LawQ x c0 s0)) : OEndsQ P mi pc L S H (LawQ x c1 s1) := by
  obtain ⟨⟨v, Hf, k, n⟩, E, q1, q2, q3⟩ := E
  dsimp only at q1 q2 q3
  exact ⟨_, OEnds.made hm hf hi hx E, q1, by show k + 1 ≤ c1; omega, by show n + ks ≤ s1; omega⟩
theorem OEndsQ.callN {x : Int32} {c0 s0 c1 s1 : Nat} (hm : P.mth[mi]? = some d) (hf : fetch d.code pc = some (i, len, er, a, b)) (hi : isInv i = true) (hb : ¬ b = -1) (hy : P.mth[a]? = some y) (hao : argsOf (nargs y) S = some (as, rest))
    (hc : (decide (0 < a) && invKind i y.kind && recvOk P H y as && fitsRoom d y rest && decide ((entA as).length ≤ y.maxL)) = true) (E1 : OEnds P a 0 (entL as y.maxL) [] H (v, H1, kc, ks)) (h1 : c0 + kc ≤ c1) (h2 : s0 + ks ≤ s1) (E2 : OEndsQ P mi (pc + 3) (forget er L) (v.toList ++ rest) H1 (LawQ x c0 s0)) : OEndsQ P mi pc L S H (LawQ x c1 s1) := by
  obtain ⟨⟨v, Hf, k, n⟩, E, q1, q2, q3⟩ := E2
  dsimp only at q1 q2 q3
  exact ⟨_, OEnds.call hm hf hi hb hy hao hc E1 E, q1, by show k + kc ≤ c1; omega, by show n + ks ≤ s1; omega⟩
end Rules
/-! From the machine to the claim -/
theorem law_met {P : PD} {Z : State} {a0 : Array Value} {l : Launch} {y : MD} {as ws : List Value} {H : AHeap} {ρ : List Addr} {n0 kc ks : Nat} {h : Heap} (hP : chk P = true) (hW : ∀ w ∈ wordsOf P, w.before a0 Z = true) (hy : P.mth[0]? = some y)
    (E : OEndsQ P 0 0 (entL as y.maxL) [] H (LawQ 1 kc ks)) (hS : SR ρ as ws) (hlen : (entA as).length ≤ y.maxL) (hH : HR P Z n0 h ρ H) (w0 : List Jvm.Cond) (rm : Room) (r1 : y.rf ≤ rm.frames) (r2 : y.rw ≤ rm.locals) (r3 : kc ≤ rm.cells) (r4 : ks ≤ rm.slots) :
    MetFree l y.name (head1 (Jvm.Cond.code y.name y.bytes y.maxL y.ret :: w0) rm) (fun a U => a = ws.toArray ∧ Z.Warmed39 U.vm ∧ U.heap = h) (fun _ _ _ _ _ => True)
      (fun _ U o U' => ∃ L, o = .returned (some (.int 1)) ∧ Fr n0 L ∧ FrameEnd U o U' L kc ks) := by
  obtain ⟨⟨v, H1, c1, s1⟩, ⟨n, E⟩, q1, q2, q3⟩ := E
  dsimp only at q1 q2 q3
  subst q1
  have hpn : plainName y.name.cls = true := by
    have := mChk_of hP (List.mem_of_getElem? hy)
    simp only [mChk, Bool.and_eq_true] at this
    exact this.1.1.1.1.1.1
  have M := met_of (l := l) (n := n) (sound hP hW n) hy hpn (E n (Nat.le_refl _)) hS hlen hH w0 rm r1 r2 (Nat.le_trans q2 r3) (Nat.le_trans q3 r4)
  intro p e ha hc hk s m args below hf happ hp hK
  obtain ⟨n', o, h1, h2, h3, v', L, rfl, ⟨hF, t, ⟨u, rfl, hu⟩, -⟩, hq⟩ := M p e ha hc hk s m args below hf happ hp hK
  obtain rfl : u = .int 1 := hu
  exact ⟨n', _, h1, h2, h3, L, rfl, hF, hq.1, hq.2.1, hq.2.2.mono q2 q3⟩
end Jvm.Own
namespace Jvm.Own
open Jvm Jvm.ClassFile Sem Op Lib Jvm.Free Jvm.Stand Jvm.LawKit Jvm.RoadKit Bundle
/-- the law's script: an int array of at most 260 -/
theorem script_of {s : State} {ad : Addr} {cl : Cell} (hf : Fit s) (A : Arr s s.heap ad cl .int) (e0 : (Term.arg 0).eval #[.ref ad] s none [] s = some (.ref ad)) (hn : (Jvm.Cond.le (.length (.arg 0)) (.int 260)).value #[.ref ad] s none s [] = some true) :
    ∃ scr : List Int32, cl.slots.size = scr.length ∧ scr.length ≤ 260 ∧ ∀ (i : Nat) x, scr[i]? = some x → cl.slots[i]? = some (.int x) := by
  obtain ⟨u, v, g1, g2, -, -⟩ := cmp_v (Or.inr (Or.inr hn))
  obtain ⟨a', cl', z1, z2, z3⟩ := Term.length_spec g1
  have hat := A.fin (Vm.Alike.refl _)
  rw [e0] at z1
  cases z1
  rw [hat] at z2
  cases z2
  have hsz : cl.slots.size < 2 ^ 31 := by
    rcases Nat.lt_or_ge cl.slots.size (2 ^ 31) with q | q
    · exact q
    · exfalso
      simp [Term.eval, hat] at g1
      omega
  subst z3
  have hv : v = .int 260 := by simpa [Term.eval] using g2.symm
  subst hv
  have hle : cl.slots.size.toInt32 ≤ 260 := by
    simpa [Cond.value, g1, g2] using hn
  have hle' : cl.slots.size ≤ 260 := by
    rw [Int32.le_iff_toInt_le, len_toInt hsz] at hle
    have : (260 : Int32).toInt = 260 := rfl
    rw [this] at hle
    omega
  have key : ∀ i, i < cl.slots.size → ∃ x, cl.slots[i]? = some (.int x) := fun i hi => by
    have hj := idx_in hi hsz
    obtain ⟨v, e1, e2⟩ := elem_fit hf A hj
    have : i.toInt32.toNatClampNeg = i := by
      have h1 : i.toInt32.toInt = i := len_toInt (by omega)
      simp [Int32.toNatClampNeg, h1]
    rw [this] at e1
    obtain ⟨x, rfl⟩ := fit_I e2 (Or.inl rfl)
    exact ⟨x, e1⟩
  refine ⟨cl.slots.toList.map fun v => match v with | .int x => x | _ => 0, by simp, by simpa using hle', fun i x hx => ?_⟩
  rw [List.getElem?_map] at hx
  obtain ⟨v, h1, h2⟩ := Option.map_eq_some_iff.mp hx
  have h1' : cl.slots[i]? = some v := by simpa using h1
  obtain ⟨y, hy⟩ := key i (Array.getElem?_eq_some_iff.mp h1').1
  rw [h1'] at hy
  cases hy
  rw [h1']
  simp at h2
  rw [h2]
theorem hr_script {P : PD} {s : State} {ad : Addr} {cl : Cell} {scr : List Int32} (hnr : P.nr = 1) (A : Arr s s.heap ad cl .int) (h1 : cl.slots.size = scr.length) (h2 : scr.length ≤ 260) (h3 : ∀ (i : Nat) x, scr[i]? = some x → cl.slots[i]? = some (.int x)) : HR P s s.heap.size s.heap [ad] [.inr (.inl (false, scr))] := by
  refine ⟨Nat.le_refl _, rfl, fun i j a g1 g2 => ?_, fun k a g1 g2 => ?_, fun k a c g1 g2 => ?_⟩
  · match i, j, g1, g2 with
    | 0, 0, _, _ => rfl
    | i + 1, _, g1, _ => simp at g1
    | 0, j + 1, _, g2 => simp at g2
  · match k, g1, g2 with
    | 0, _, g2 => rw [hnr] at g2; omega
    | k + 1, g1, _ => simp at g1
  · match k, g1, g2 with
    | 0, g1, g2 =>
      simp at g1 g2
      subst g1 g2
      exact ⟨cl, A, h1, by omega, h3⟩
    | k + 1, g1, _ => simp at g1
end Jvm.Own
namespace Jvm.Own
open Jvm
/-! Ints in range, arrays -/
theorem ilt {a b : Int32} : a < b ↔ a.toInt < b.toInt := Int32.lt_iff_toInt_lt
theorem ile {a b : Int32} : a ≤ b ↔ a.toInt ≤ b.toInt := Int32.le_iff_toInt_le
theorem ieq {a b : Int32} : a = b ↔ a.toInt = b.toInt := Int32.toInt_inj.symm
theorem irng (a : Int32) : -2147483648 ≤ a.toInt ∧ a.toInt < 2147483648 := ⟨Int32.le_toInt a, Int32.toInt_lt a⟩
theorem iadd_i {a b : Int32} (h1 : -2147483648 ≤ a.toInt + b.toInt) (h2 : a.toInt + b.toInt < 2147483648) : (a + b).toInt = a.toInt + b.toInt := by
  rw [Int32.toInt_add]; exact Int.bmod_eq_of_le (by omega) (by omega)
theorem isub_i {a b : Int32} (h1 : -2147483648 ≤ a.toInt - b.toInt) (h2 : a.toInt - b.toInt < 2147483648) : (a - b).toInt = a.toInt - b.toInt := by
  rw [Int32.toInt_sub]; exact Int.bmod_eq_of_le (by omega) (by omega)
theorem imul_i {a b : Int32} (h1 : -2147483648 ≤ a.toInt * b.toInt) (h2 : a.toInt * b.toInt < 2147483648) : (a * b).toInt = a.toInt * b.toInt := by
  rw [Int32.toInt_mul]; exact Int.bmod_eq_of_le (by omega) (by omega)
theorem rdA_nn {α : Type} {L : List α} {j : Int32} (h0 : 0 ≤ j.toInt) : rdA L j = L[j.toInt.toNat]? := by
  unfold rdA
  rw [if_neg (by rw [ilt]; exact Int.not_lt.mpr h0)]
  rfl
theorem rdA_in {α : Type} {L : List α} {j : Int32} (h0 : 0 ≤ j.toInt) (h1 : j.toInt.toNat < L.length) : rdA L j = some L[j.toInt.toNat] := by
  rw [rdA_nn h0, List.getElem?_eq_getElem h1]
theorem wrA_in {α : Type} {L : List α} {j : Int32} {x : α} (h0 : 0 ≤ j.toInt) (h1 : j.toInt.toNat < L.length) : wrA L j x = some (L.set j.toInt.toNat x) := by
  unfold wrA
  rw [if_neg (by rw [ilt]; exact Int.not_lt.mpr h0)]
  exact if_pos h1
theorem rdA_rep {α : Type} {n : Nat} {x : α} {j : Int32} (h0 : 0 ≤ j.toInt) (h1 : j.toInt < n) : rdA (List.replicate n x) j = some x := by
  rw [rdA_nn h0, List.getElem?_replicate, if_pos (by omega)]
end Jvm.Own
namespace Jvm.Own
open Jvm
/-! Sums of ints with their wrap, for omega; runs that answer, and what they answer -/
theorem bmod32 (x : Int) : x.bmod (2 ^ 32) = (x + 2147483648) % 4294967296 - 2147483648 := by
  rw [Int.bmod_def]
  split <;> omega
theorem iadd_e (a b : Int32) : (a + b).toInt = (a.toInt + b.toInt + 2147483648) % 4294967296 - 2147483648 := by
  rw [Int32.toInt_add, bmod32]
theorem isub_e (a b : Int32) : (a - b).toInt = (a.toInt - b.toInt + 2147483648) % 4294967296 - 2147483648 := by
  rw [Int32.toInt_sub, bmod32]
theorem imul_e (a b : Int32) : (a * b).toInt = (a.toInt * b.toInt + 2147483648) % 4294967296 - 2147483648 := by
  rw [Int32.toInt_mul, bmod32]
theorem iscr {n : Nat} (h : n ≤ 260) : (n.toInt32).toInt = n := Int32.toInt_ofNat_of_lt (by omega)
def Tot {α : Type} (x : Option α) (P : α → Prop) : Prop := ∃ r, x = some r ∧ P r
theorem Tot.mk {α : Type} {P : α → Prop} {a : α} (h : P a) : Tot (some a) P := ⟨a, rfl, h⟩
theorem Tot.bind {α β : Type} {x : Option α} {f : α → Option β} {P : α → Prop} {Q : β → Prop} (h : Tot x P) (g : ∀ a, P a → Tot (f a) Q) : Tot (x.bind f) Q := by
  obtain ⟨r, e, p⟩ := h
  rw [e]
  exact g r p
theorem Tot.mono {α : Type} {x : Option α} {P Q : α → Prop} (h : Tot x P) (g : ∀ a, P a → Q a) : Tot x Q := by
  obtain ⟨r, e, p⟩ := h
  exact ⟨r, e, g r p⟩
theorem Tot.ite {α : Type} {c : Prop} [Decidable c] {a b : Option α} {Q : α → Prop} (h1 : c → Tot a Q) (h2 : ¬ c → Tot b Q) : Tot (if c then a else b) Q := by
  by_cases h : c
  · rw [if_pos h]; exact h1 h
  · rw [if_neg h]; exact h2 h
theorem Tot.rd {α β : Type} {L : List α} {j : Int32} {f : α → Option β} {Q : β → Prop} (h0 : 0 ≤ j.toInt) (h1 : j.toInt < L.length) (g : ∀ a, L[j.toInt.toNat]? = some a → Tot (f a) Q) : Tot ((rdA L j).bind f) Q := by
  have h2 : j.toInt.toNat < L.length := by omega
  rw [rdA_in h0 h2]
  exact g _ (List.getElem?_eq_getElem h2)
theorem Tot.wr {α β : Type} {L : List α} {j : Int32} {x : α} {f : List α → Option β} {Q : β → Prop} (h0 : 0 ≤ j.toInt) (h1 : j.toInt < L.length) (g : ∀ L' : List α, L' = L.set j.toInt.toNat x → L'.length = L.length → Tot (f L') Q) : Tot ((wrA L j x).bind f) Q := by
  rw [wrA_in h0 (by omega)]
  exact g _ rfl (by simp)
theorem Tot.eq {α : Type} {x : Option α} {a : α} (h : Tot x (fun r => r = a)) : x = some a := by
  obtain ⟨r, e, p⟩ := h
  rw [e, p]
theorem Tot.of {α : Type} {x : Option α} {a : α} {P : α → Prop} (e : x = some a) (p : P a) : Tot x P := ⟨a, e, p⟩
/-- a bit mask at 15, 31 .. -/
theorem iand_rng (x : Int32) (m : Int32) (h : 0 ≤ m.toInt) : 0 ≤ (x &&& m).toInt ∧ (x &&& m).toInt ≤ m.toInt := by
  have hm : m.toBitVec.msb = false := by
    rw [BitVec.msb_eq_toInt]; simpa using h
  have hx : (x &&& m).toBitVec.msb = false := by
    rw [Int32.toBitVec_and, BitVec.msb_and, hm, Bool.and_false]
  have e1 : m.toInt = (m.toBitVec.toNat : Int) := BitVec.toInt_eq_toNat_of_msb hm
  have e2 : (x &&& m).toInt = (((x &&& m).toBitVec).toNat : Int) := BitVec.toInt_eq_toNat_of_msb hx
  have e3 : ((x &&& m).toBitVec).toNat ≤ m.toBitVec.toNat := by
    rw [Int32.toBitVec_and, BitVec.toNat_and]; exact Nat.and_le_right
  omega
def gI (L : List Int32) (j : Int32) : Int32 := (rdA L j).getD 0
theorem rdg {L : List Int32} {j : Int32} (h0 : 0 ≤ j.toInt) (h1 : j.toInt < L.length) : rdA L j = some (gI L j) := by
  have h2 : j.toInt.toNat < L.length := by omega
  unfold gI
  rw [rdA_in h0 h2]
  (first | done | rfl | simp)
theorem gset {L : List Int32} {i j : Int32} {x : Int32} (hi : 0 ≤ i.toInt) (hl : i.toInt < L.length) (hj : 0 ≤ j.toInt) : gI (L.set i.toInt.toNat x) j = if i = j then x else gI L j := by
  unfold gI
  rw [rdA_nn hj, rdA_nn hj]
  by_cases h : i = j
  · subst h
    rw [if_pos rfl, List.getElem?_set_self (by omega)]
    (first | done | rfl | simp)
  · rw [if_neg h, List.getElem?_set_ne (by rw [ieq] at h; omega)]
theorem gext {A B : List Int32} (hl : A.length < 100000) (ha : A.length = B.length) (h : ∀ i : Int32, 0 ≤ i.toInt → i.toInt < A.length → gI A i = gI B i) : A = B := by
  apply List.ext_getElem ha
  intro k h1 h2
  have e : (Int32.ofNat k).toInt = k := Int32.toInt_ofNat_of_lt (by omega)
  have q := h (Int32.ofNat k) (by omega) (by omega)
  unfold gI at q
  rw [rdA_nn (by omega), rdA_nn (by omega), e] at q
  simpa [h1, h2] using q
theorem Tot.rdI {β : Type} {L : List Int32} {j : Int32} {f : Int32 → Option β} {Q : β → Prop} (h0 : 0 ≤ j.toInt) (h1 : j.toInt < L.length) (g : Tot (f (gI L j)) Q) : Tot ((rdA L j).bind f) Q := by
  rw [rdg h0 h1]
  exact g
theorem gI_rep {n : Nat} {x : Int32} {j : Int32} (h0 : 0 ≤ j.toInt) (h1 : j.toInt < n) : gI (List.replicate n x) j = x := by
  unfold gI
  rw [rdA_rep h0 h1]
  (first | done | rfl | simp)
/-! Longs -/
theorem lltI {a b : Int64} : a < b ↔ a.toInt < b.toInt := Int64.lt_iff_toInt_lt
theorem leqI {a b : Int64} : a = b ↔ a.toInt = b.toInt := Int64.toInt_inj.symm
theorem lrng (a : Int64) : -9223372036854775808 ≤ a.toInt ∧ a.toInt < 9223372036854775808 := ⟨Int64.le_toInt a, Int64.toInt_lt a⟩
theorem ladd_i {a b : Int64} (h1 : -9223372036854775808 ≤ a.toInt + b.toInt) (h2 : a.toInt + b.toInt < 9223372036854775808) : (a + b).toInt = a.toInt + b.toInt := by
  rw [Int64.toInt_add]; exact Int.bmod_eq_of_le (by omega) (by omega)
theorem lsub_i {a b : Int64} (h1 : -9223372036854775808 ≤ a.toInt - b.toInt) (h2 : a.toInt - b.toInt < 9223372036854775808) : (a - b).toInt = a.toInt - b.toInt := by
  rw [Int64.toInt_sub]; exact Int.bmod_eq_of_le (by omega) (by omega)
theorem lmul_i {a b : Int64} (h1 : -9223372036854775808 ≤ a.toInt * b.toInt) (h2 : a.toInt * b.toInt < 9223372036854775808) : (a * b).toInt = a.toInt * b.toInt := by
  rw [Int64.toInt_mul]; exact Int.bmod_eq_of_le (by omega) (by omega)
theorem lmod_i {a b : Int64} (h : 0 ≤ a.toInt) : (a % b).toInt = a.toInt % b.toInt := by
  rw [Int64.toInt_mod, Int.tmod_eq_emod_of_nonneg h]
theorem lback {a : Int64} (h1 : -2147483648 ≤ a.toInt) (h2 : a.toInt < 2147483648) : a.toInt32.toInt64 = a := by
  rw [leqI, Int32.toInt_toInt64, Int64.toInt_toInt32, bmod32]
  omega
theorem mulb {a b M : Int} (h0 : 0 ≤ a) (h1 : a ≤ M) (h2 : 0 ≤ b) (h3 : b ≤ M) : 0 ≤ a * b ∧ a * b ≤ M * M :=
  ⟨Int.mul_nonneg h0 h2, Int.mul_le_mul h1 h3 h2 (by omega)⟩
end Jvm.Own
namespace Jvm.Pilot.@@N@@
open Jvm Jvm.ClassFile Sem Op Lib Jvm.Free Jvm.Stand Jvm.LawKit Jvm.RoadKit Bundle Jvm.Own Jvm.Pilot.@@N@@.Jvm.D
def d_0 : MD := (x, code, maxLocals, ret, 0, 1, 999, 6, 90, [(0, .new 7, 3, [], 0, 0), (3, .dup, 1, [], 0, 0), (4, .iconst 4, 1, [], 0, 0), (5, .iconst 2, 1, [], 0, 0), (6, .iconst 4, 1, [], 0, 0), (7, .bipush 9, 2, [], 0, 0), (9, .invokespecial 9, 3, [], 1, 0), (12, .astore_n 1, 1, [], 0, 0), (13, .iconst 0, 1, [], 0, 0), (14, .istore_n 2, 1, [], 0, 0), (15, .iconst 0, 1, [], 0, 0), (16, .istore_n 3, 1, [], 0, 0), (17, .iconst 0, 1, [], 0, 0), (18, .istore 4, 2, [], 0, 0), (20, .iconst 1, 1, [], 0, 0), (21, .istore 5, 2, [], 0, 0), (23, .aload_n 0, 1, [], 0, 0), (24, .arraylength, 1, [], 0, 0), (25, .iconst 4, 1, [], 0, 0), (26, .idiv, 1, [], 0, 0), (27, .istore 6, 2, [], 0, 0), (29, .iconst 0, 1, [], 0, 0), (30, .istore 7, 2, [], 0, 0), (32, .iload 7, 2, [false, false, false, false, false, false, false, false, true, true, true, true, true, true, true, true, true, true], 0, 0), (34, .iload 6, 2, [], 0, 0), (36, .if_icmp .ge 770, 3, [], 0, 0), (39, .aload_n 0, 1, [], 0, 0), (40, .iconst 4, 1, [], 0, 0), (41, .iload 7, 2, [], 0, 0), (43, .imul, 1, [], 0, 0), (44, .iaload, 1, [], 0, 0), (45, .ldc 12, 2, [], 0, 2147483647), (47, .iand, 1, [], 0, 0), (48, .bipush 10, 2, [], 0, 0), (50, .irem, 1, [], 0, 0), (51, .istore 8, 2, [], 0, 0), (53, .aload_n 0, 1, [], 0, 0), (54, .iconst 4, 1, [], 0, 0), (55, .iload 7, 2, [], 0, 0), (57, .imul, 1, [], 0, 0), (58, .iconst 1, 1, [], 0, 0), (59, .iadd, 1, [], 0, 0), (60, .iaload, 1, [], 0, 0), (61, .ldc 12, 2, [], 0, 2147483647), (63, .iand, 1, [], 0, 0), (64, .istore 9, 2, [], 0, 0), (66, .aload_n 0, 1, [], 0, 0), (67, .iconst 4, 1, [], 0, 0), (68, .iload 7, 2, [], 0, 0), (70, .imul, 1, [], 0, 0), (71, .iconst 2, 1, [], 0, 0), (72, .iadd, 1, [], 0, 0), (73, .iaload, 1, [], 0, 0), (74, .ldc 12, 2, [], 0, 2147483647), (76, .iand, 1, [], 0, 0), (77, .istore 10, 2, [], 0, 0), (79, .aload_n 0, 1, [], 0, 0), (80, .iconst 4, 1, [], 0, 0), (81, .iload 7, 2, [], 0, 0), (83, .imul, 1, [], 0, 0), (84, .iconst 3, 1, [], 0, 0), (85, .iadd, 1, [], 0, 0), (86, .iaload, 1, [], 0, 0), (87, .ldc 12, 2, [], 0, 2147483647), (89, .iand, 1, [], 0, 0), (90, .istore 11, 2, [], 0, 0), (92, .iload 8, 2, [], 0, 0), (94, .ifCond .ne 23, 3, [], 0, 0), (97, .aload_n 1, 1, [], 0, 0), (98, .iload 9, 2, [], 0, 0), (100, .iconst 1, 1, [], 0, 0), (101, .iand, 1, [], 0, 0), (102, .iconst 1, 1, [], 0, 0), (103, .if_icmp .ne 7, 3, [], 0, 0), (106, .iconst 1, 1, [], 0, 0), (107, .goto 4, 3, [], 0, 0), (110, .iconst 0, 1, [], 0, 0), (111, .invokevirtual 13, 3, [false, false, false, false, false, false, false, false, true, true, true, true, true, true, true, true, true, true], 11, 0), (114, .goto 588, 3, [], 0, 0), (117, .iload 8, 2, [], 0, 0), (119, .iconst 1, 1, [], 0, 0), (120, .if_icmp .ne 62, 3, [], 0, 0), (123, .iload 9, 2, [], 0, 0), (125, .sipush 300, 3, [], 0, 0), (128, .irem, 1, [], 0, 0), (129, .bipush 20, 2, [], 0, 0), (131, .isub, 1, [], 0, 0), (132, .istore 12, 2, [], 0, 0), (134, .iload 12, 2, [], 0, 0), (136, .iconst 4, 1, [], 0, 0), (137, .if_icmp .ge 7, 3, [], 0, 0), (140, .iconst 4, 1, [], 0, 0), (141, .goto 19, 3, [], 0, 0), (144, .iload 12, 2, [], 0, 0), (146, .sipush 255, 3, [], 0, 0), (149, .if_icmp .le 9, 3, [], 0, 0), (152, .sipush 255, 3, [], 0, 0), (155, .goto 5, 3, [], 0, 0), (158, .iload 12, 2, [], 0, 0), (160, .istore 13, 2, [false, false, false, false, false, false, false, false, true, true, true, true, false, true, true, true, true, true], 0, 0), (162, .aload_n 1, 1, [], 0, 0), (163, .iload 12, 2, [], 0, 0), (165, .invokevirtual 17, 3, [], 10, 0), (168, .istore 14, 2, [], 0, 0), (170, .iload 14, 2, [], 0, 0), (172, .iload 13, 2, [], 0, 0), (174, .if_icmp .eq 5, 3, [], 0, 0), (177, .iconst 0, 1, [], 0, 0), (178, .ireturn, 1, [], 0, 0), (179, .goto 523, 3, [], 0, 0), (182, .iload 8, 2, [], 0, 0), (184, .iconst 2, 1, [], 0, 0), (185, .if_icmp .ne 72, 3, [], 0, 0), (188, .iload 9, 2, [], 0, 0), (190, .bipush 9, 2, [], 0, 0), (192, .irem, 1, [], 0, 0), (193, .istore 12, 2, [], 0, 0), (195, .iload 10, 2, [], 0, 0), (197, .iconst 5, 1, [], 0, 0), (198, .irem, 1, [], 0, 0), (199, .istore 13, 2, [], 0, 0), (201, .iload 12, 2, [], 0, 0), (203, .bipush 8, 2, [], 0, 0), (205, .if_icmp .ge 13, 3, [], 0, 0), (208, .iload 13, 2, [], 0, 0), (210, .iconst 4, 1, [], 0, 0), (211, .if_icmp .ge 7, 3, [], 0, 0), (214, .iconst 1, 1, [], 0, 0), (215, .goto 4, 3, [], 0, 0), (218, .iconst 0, 1, [], 0, 0), (219, .istore 14, 2, [false, false, false, false, false, false, false, false, true, true, true, true, false, false, true, true, true, true], 0, 0), (221, .aload_n 1, 1, [], 0, 0), (222, .iload 12, 2, [], 0, 0), (224, .iload 13, 2, [], 0, 0), (226, .invokevirtual 21, 3, [], 12, 0), (229, .istore 15, 2, [], 0, 0), (231, .iload 15, 2, [], 0, 0), (233, .iload 14, 2, [], 0, 0), (235, .if_icmp .eq 5, 3, [], 0, 0), (238, .iconst 0, 1, [], 0, 0), (239, .ireturn, 1, [], 0, 0), (240, .iload 14, 2, [], 0, 0), (242, .ifCond .eq 12, 3, [], 0, 0), (245, .iload_n 2, 1, [], 0, 0), (246, .iload 12, 2, [], 0, 0), (248, .iload 13, 2, [], 0, 0), (250, .invokestatic 25, 3, [], 4, 0), (253, .istore_n 2, 1, [], 0, 0), (254, .goto 448, 3, [], 0, 0), (257, .iload 8, 2, [], 0, 0), (259, .iconst 3, 1, [], 0, 0), (260, .if_icmp .ne 117, 3, [], 0, 0), (263, .iload 9, 2, [], 0, 0), (265, .bipush 9, 2, [], 0, 0), (267, .irem, 1, [], 0, 0), (268, .istore 12, 2, [], 0, 0), (270, .iload 10, 2, [], 0, 0), (272, .bipush 9, 2, [], 0, 0), (274, .irem, 1, [], 0, 0), (275, .istore 13, 2, [], 0, 0), (277, .iload 11, 2, [], 0, 0), (279, .iconst 5, 1, [], 0, 0), (280, .irem, 1, [], 0, 0), (281, .istore 14, 2, [], 0, 0), (283, .iload 14, 2, [], 0, 0), (285, .iconst 4, 1, [], 0, 0), (286, .if_icmp .ge 30, 3, [], 0, 0), (289, .iload 12, 2, [], 0, 0), (291, .bipush 8, 2, [], 0, 0), (293, .if_icmp .ge 23, 3, [], 0, 0), (296, .iload 13, 2, [], 0, 0), (298, .iconst 1, 1, [], 0, 0), (299, .if_icmp .lt 17, 3, [], 0, 0), (302, .iload 13, 2, [], 0, 0), (304, .bipush 8, 2, [], 0, 0), (306, .iload 12, 2, [], 0, 0), (308, .isub, 1, [], 0, 0), (309, .if_icmp .gt 7, 3, [], 0, 0), (312, .iconst 1, 1, [], 0, 0), (313, .goto 4, 3, [], 0, 0), (316, .iconst 0, 1, [], 0, 0), (317, .istore 15, 2, [false, false, false, false, false, false, false, false, true, true, true, true, false, false, false, true, true, true], 0, 0), (319, .aload_n 1, 1, [], 0, 0), (320, .iload 12, 2, [], 0, 0), (322, .iload 13, 2, [], 0, 0), (324, .iload 14, 2, [], 0, 0), (326, .invokevirtual 31, 3, [], 3, 0), (329, .istore 16, 2, [], 0, 0), (331, .iload 16, 2, [], 0, 0), (333, .iload 15, 2, [], 0, 0), (335, .if_icmp .eq 5, 3, [], 0, 0), (338, .iconst 0, 1, [], 0, 0), (339, .ireturn, 1, [], 0, 0), (340, .iload 15, 2, [], 0, 0), (342, .ifCond .eq 32, 3, [], 0, 0), (345, .iload 12, 2, [], 0, 0), (347, .istore 17, 2, [], 0, 0), (349, .iload 17, 2, [false, false, false, false, false, false, false, false, true, true, true, true, false, false, false, true, true], 0, 0), (351, .iload 12, 2, [], 0, 0), (353, .iload 13, 2, [], 0, 0), (355, .iadd, 1, [], 0, 0), (356, .if_icmp .ge 18, 3, [], 0, 0), (359, .iload_n 2, 1, [], 0, 0), (360, .iload 17, 2, [], 0, 0), (362, .iload 14, 2, [], 0, 0), (364, .invokestatic 25, 3, [], 4, 0), (367, .istore_n 2, 1, [], 0, 0), (368, .iinc 17 1, 3, [], 0, 0), (371, .goto (-22), 3, [], 0, 0), (374, .goto 328, 3, [], 0, 0), (377, .iload 8, 2, [], 0, 0), (379, .iconst 4, 1, [], 0, 0), (380, .if_icmp .ne 74, 3, [], 0, 0), (383, .aload_n 1, 1, [], 0, 0), (384, .invokevirtual 35, 3, [], 14, 0), (387, .istore 12, 2, [], 0, 0), (389, .iload 12, 2, [], 0, 0), (391, .iconst 5, 1, [], 0, 0), (392, .if_icmp .lt 10, 3, [], 0, 0), (395, .iload 12, 2, [], 0, 0), (397, .bipush 9, 2, [], 0, 0), (399, .if_icmp .le 5, 3, [], 0, 0), (402, .iconst 0, 1, [], 0, 0), (403, .ireturn, 1, [], 0, 0), (404, .iload 12, 2, [], 0, 0), (406, .istore 4, 2, [], 0, 0), (408, .aload_n 1, 1, [], 0, 0), (409, .iconst 0, 1, [], 0, 0), (410, .invokevirtual 39, 3, [], 9, 0), (413, .iconst 2, 1, [], 0, 0), (414, .if_icmp .ne 14, 3, [], 0, 0), (417, .aload_n 1, 1, [], 0, 0), (418, .iload 12, 2, [], 0, 0), (420, .iconst 1, 1, [], 0, 0), (421, .isub, 1, [], 0, 0), (422, .invokevirtual 39, 3, [], 9, 0), (425, .ifCond .eq 5, 3, [], 0, 0), (428, .iconst 0, 1, [], 0, 0), (429, .ireturn, 1, [], 0, 0), (430, .aload_n 1, 1, [], 0, 0), (431, .iconst 1, 1, [], 0, 0), (432, .invokevirtual 39, 3, [], 9, 0), (435, .istore 13, 2, [], 0, 0), (437, .iload 13, 2, [], 0, 0), (439, .iconst 2, 1, [], 0, 0), (440, .if_icmp .lt 9, 3, [], 0, 0), (443, .iload 13, 2, [], 0, 0), (445, .iconst 5, 1, [], 0, 0), (446, .if_icmp .le 5, 3, [], 0, 0), (449, .iconst 0, 1, [], 0, 0), (450, .ireturn, 1, [], 0, 0), (451, .goto 251, 3, [], 0, 0), (454, .iload 8, 2, [], 0, 0), (456, .iconst 5, 1, [], 0, 0), (457, .if_icmp .ne 12, 3, [], 0, 0), (460, .aload_n 1, 1, [], 0, 0), (461, .invokevirtual 42, 3, [], 29, 0), (464, .iconst 0, 1, [], 0, 0), (465, .istore_n 3, 1, [], 0, 0), (466, .goto 236, 3, [], 0, 0), (469, .iload 8, 2, [], 0, 0), (471, .bipush 6, 2, [], 0, 0), (473, .if_icmp .ne 61, 3, [], 0, 0), (476, .iload 9, 2, [], 0, 0), (478, .sipush 300, 3, [], 0, 0), (481, .irem, 1, [], 0, 0), (482, .istore 12, 2, [], 0, 0), (484, .iload 12, 2, [], 0, 0), (486, .sipush 255, 3, [], 0, 0), (489, .if_icmp .gt 14, 3, [], 0, 0), (492, .iload_n 3, 1, [], 0, 0), (493, .sipush 512, 3, [], 0, 0), (496, .if_icmp .ge 7, 3, [], 0, 0), (499, .iconst 1, 1, [], 0, 0), (500, .goto 4, 3, [], 0, 0), (503, .iconst 0, 1, [], 0, 0), (504, .istore 13, 2, [false, false, false, false, false, false, false, false, true, true, true, true, false, true, true, true, true, true], 0, 0), (506, .aload_n 1, 1, [], 0, 0), (507, .iload 12, 2, [], 0, 0), (509, .invokevirtual 45, 3, [], 28, 0), (512, .istore 14, 2, [], 0, 0), (514, .iload 14, 2, [], 0, 0), (516, .iload 13, 2, [], 0, 0), (518, .if_icmp .eq 5, 3, [], 0, 0), (521, .iconst 0, 1, [], 0, 0), (522, .ireturn, 1, [], 0, 0), (523, .iload 13, 2, [], 0, 0), (525, .ifCond .eq 6, 3, [], 0, 0), (528, .iinc 3 1, 3, [], 0, 0), (531, .goto 171, 3, [], 0, 0), (534, .iload 8, 2, [], 0, 0), (536, .bipush 7, 2, [], 0, 0), (538, .if_icmp .ne 62, 3, [], 0, 0), (541, .iload 9, 2, [], 0, 0), (543, .iload_n 3, 1, [], 0, 0), (544, .iconst 2, 1, [], 0, 0), (545, .iadd, 1, [], 0, 0), (546, .irem, 1, [], 0, 0), (547, .istore 12, 2, [], 0, 0), (549, .iload 10, 2, [], 0, 0), (551, .sipush 300, 3, [], 0, 0), (554, .irem, 1, [], 0, 0), (555, .istore 13, 2, [], 0, 0), (557, .iload 12, 2, [], 0, 0), (559, .iload_n 3, 1, [], 0, 0), (560, .if_icmp .ge 15, 3, [], 0, 0), (563, .iload 13, 2, [], 0, 0), (565, .sipush 255, 3, [], 0, 0), (568, .if_icmp .gt 7, 3, [], 0, 0), (571, .iconst 1, 1, [], 0, 0), (572, .goto 4, 3, [], 0, 0), (575, .iconst 0, 1, [], 0, 0), (576, .istore 14, 2, [false, false, false, false, false, false, false, false, true, true, true, true, false, false, true, true, true, true], 0, 0), (578, .aload_n 1, 1, [], 0, 0), (579, .iload 12, 2, [], 0, 0), (581, .iload 13, 2, [], 0, 0), (583, .invokevirtual 49, 3, [], 24, 0), (586, .istore 15, 2, [], 0, 0), (588, .iload 15, 2, [], 0, 0), (590, .iload 14, 2, [], 0, 0), (592, .if_icmp .eq 5, 3, [], 0, 0), (595, .iconst 0, 1, [], 0, 0), (596, .ireturn, 1, [], 0, 0), (597, .goto 105, 3, [], 0, 0), (600, .iload 8, 2, [], 0, 0), (602, .bipush 8, 2, [], 0, 0), (604, .if_icmp .ne 24, 3, [], 0, 0), (607, .aload_n 1, 1, [], 0, 0), (608, .invokevirtual 52, 3, [], 13, 0), (611, .istore 12, 2, [], 0, 0), (613, .iload 12, 2, [], 0, 0), (615, .iload 4, 2, [], 0, 0), (617, .if_icmp .eq 5, 3, [], 0, 0), (620, .iconst 0, 1, [], 0, 0), (621, .ireturn, 1, [], 0, 0), (622, .iload 4, 2, [], 0, 0), (624, .istore_n 3, 1, [], 0, 0), (625, .goto 77, 3, [], 0, 0), (628, .aload_n 1, 1, [], 0, 0), (629, .invokevirtual 55, 3, [], 25, 0), (632, .istore 12, 2, [], 0, 0), (634, .iload 12, 2, [], 0, 0), (636, .istore 5, 2, [], 0, 0), (638, .iload 12, 2, [], 0, 0), (640, .ifCond .gt 10, 3, [], 0, 0), (643, .iload 12, 2, [], 0, 0), (645, .bipush (-8), 2, [], 0, 0), (647, .if_icmp .ge 5, 3, [], 0, 0), (650, .iconst 0, 1, [], 0, 0), (651, .ireturn, 1, [], 0, 0), (652, .iload_n 3, 1, [], 0, 0), (653, .ifCond .ne 11, 3, [], 0, 0), (656, .iload 12, 2, [], 0, 0), (658, .iconst (-1), 1, [], 0, 0), (659, .if_icmp .eq 5, 3, [], 0, 0), (662, .iconst 0, 1, [], 0, 0), (663, .ireturn, 1, [], 0, 0), (664, .aload_n 1, 1, [false, false, false, false, false, false, false, false, true, true, true, true, false, true, true, true, true, true], 0, 0), (665, .iconst 0, 1, [], 0, 0), (666, .invokevirtual 58, 3, [], 27, 0), (669, .istore 13, 2, [], 0, 0), (671, .iload 12, 2, [], 0, 0), (673, .ifCond .eq 11, 3, [], 0, 0), (676, .iload 13, 2, [], 0, 0), (678, .iconst (-1), 1, [], 0, 0), (679, .if_icmp .eq 5, 3, [], 0, 0), (682, .iconst 0, 1, [], 0, 0), (683, .ireturn, 1, [], 0, 0), (684, .iload 12, 2, [false, false, false, false, false, false, false, false, true, true, true, true, false, false, true, true, true, true], 0, 0), (686, .ifCond .ne 16, 3, [], 0, 0), (689, .iload 13, 2, [], 0, 0), (691, .ifCond .lt 9, 3, [], 0, 0), (694, .iload 13, 2, [], 0, 0), (696, .iconst 3, 1, [], 0, 0), (697, .if_icmp .le 5, 3, [], 0, 0), (700, .iconst 0, 1, [], 0, 0), (701, .ireturn, 1, [], 0, 0), (702, .aload_n 1, 1, [false, false, false, false, false, false, false, false, true, true, true, true, true, true, true, true, true, true], 0, 0), (703, .invokevirtual 61, 3, [], 5, 0), (706, .iload_n 3, 1, [], 0, 0), (707, .if_icmp .ne 12, 3, [], 0, 0), (710, .aload_n 1, 1, [], 0, 0), (711, .invokevirtual 64, 3, [], 6, 0), (714, .iload 4, 2, [], 0, 0), (716, .if_icmp .eq 5, 3, [], 0, 0), (719, .iconst 0, 1, [], 0, 0), (720, .ireturn, 1, [], 0, 0), (721, .aload_n 1, 1, [], 0, 0), (722, .invokevirtual 67, 3, [], 7, 0), (725, .iload 5, 2, [], 0, 0), (727, .if_icmp .eq 5, 3, [], 0, 0), (730, .iconst 0, 1, [], 0, 0), (731, .ireturn, 1, [], 0, 0), (732, .iconst 0, 1, [], 0, 0), (733, .istore 12, 2, [], 0, 0), (735, .iload 12, 2, [false, false, false, false, false, false, false, false, true, true, true, true, false, true, true, true, true, true], 0, 0), (737, .bipush 8, 2, [], 0, 0), (739, .if_icmp .ge 28, 3, [], 0, 0), (742, .aload_n 1, 1, [], 0, 0), (743, .iload 12, 2, [], 0, 0), (745, .invokevirtual 70, 3, [], 8, 0), (748, .iload_n 2, 1, [], 0, 0), (749, .iconst 2, 1, [], 0, 0), (750, .iload 12, 2, [], 0, 0), (752, .imul, 1, [], 0, 0), (753, .iushr, 1, [], 0, 0), (754, .iconst 3, 1, [], 0, 0), (755, .iand, 1, [], 0, 0), (756, .if_icmp .eq 5, 3, [], 0, 0), (759, .iconst 0, 1, [], 0, 0), (760, .ireturn, 1, [], 0, 0), (761, .iinc 12 1, 3, [], 0, 0), (764, .goto (-29), 3, [], 0, 0), (767, .aload_n 1, 1, [false, false, false, false, false, false, false, false, true, true, true, true, true, true, true, true, true, true], 0, 0), (768, .bipush 8, 2, [], 0, 0), (770, .invokevirtual 70, 3, [], 8, 0), (773, .iconst (-1), 1, [], 0, 0), (774, .if_icmp .ne 12, 3, [], 0, 0), (777, .aload_n 1, 1, [], 0, 0), (778, .iconst (-1), 1, [], 0, 0), (779, .invokevirtual 70, 3, [], 8, 0), (782, .iconst (-1), 1, [], 0, 0), (783, .if_icmp .eq 5, 3, [], 0, 0), (786, .iconst 0, 1, [], 0, 0), (787, .ireturn, 1, [], 0, 0), (788, .aload_n 1, 1, [], 0, 0), (789, .iload 4, 2, [], 0, 0), (791, .invokevirtual 39, 3, [], 9, 0), (794, .iconst (-1), 1, [], 0, 0), (795, .if_icmp .eq 5, 3, [], 0, 0), (798, .iconst 0, 1, [], 0, 0), (799, .ireturn, 1, [], 0, 0), (800, .iinc 7 1, 3, [], 0, 0), (803, .goto (-771), 3, [], 0, 0), (806, .iconst 1, 1, [], 0, 0), (807, .ireturn, 1, [], 0, 0)])
def d_1 : MD := (⟨"LzwIndexedImage", "<init>", "(IIII)V"⟩, prog_1_method_1_code, 7, none, 1, 4, 0, 1, 16, [(0, .aload_n 0, 1, [], 0, 0), (1, .invokespecial 1, 3, [], 0, -1), (4, .aload_n 0, 1, [], 0, 0), (5, .sipush 256, 3, [], 0, 0), (8, .newarray .int, 2, [], 0, 0), (10, .putfield 7, 3, [], 0, 0), (13, .aload_n 0, 1, [], 0, 0), (14, .sipush 400, 3, [], 0, 0), (17, .newarray .int, 2, [], 0, 0), (19, .putfield 13, 3, [], 1, 0), (22, .aload_n 0, 1, [], 0, 0), (23, .sipush 512, 3, [], 0, 0), (26, .newarray .int, 2, [], 0, 0), (28, .putfield 16, 3, [], 2, 0), (31, .aload_n 0, 1, [], 0, 0), (32, .sipush 256, 3, [], 0, 0), (35, .newarray .int, 2, [], 0, 0), (37, .putfield 19, 3, [], 3, 0), (40, .aload_n 0, 1, [], 0, 0), (41, .bipush 16, 2, [], 0, 0), (43, .newarray .int, 2, [], 0, 0), (45, .putfield 22, 3, [], 4, 0), (48, .aload_n 0, 1, [], 0, 0), (49, .sipush 256, 3, [], 0, 0), (52, .newarray .int, 2, [], 0, 0), (54, .putfield 25, 3, [], 5, 0), (57, .aload_n 0, 1, [], 0, 0), (58, .sipush 512, 3, [], 0, 0), (61, .newarray .int, 2, [], 0, 0), (63, .putfield 28, 3, [], 6, 0), (66, .aload_n 0, 1, [], 0, 0), (67, .sipush 512, 3, [], 0, 0), (70, .newarray .int, 2, [], 0, 0), (72, .putfield 31, 3, [], 7, 0), (75, .aload_n 0, 1, [], 0, 0), (76, .sipush 512, 3, [], 0, 0), (79, .newarray .int, 2, [], 0, 0), (81, .putfield 34, 3, [], 8, 0), (84, .aload_n 0, 1, [], 0, 0), (85, .sipush 512, 3, [], 0, 0), (88, .newarray .int, 2, [], 0, 0), (90, .putfield 37, 3, [], 9, 0), (93, .aload_n 0, 1, [], 0, 0), (94, .sipush 512, 3, [], 0, 0), (97, .newarray .int, 2, [], 0, 0), (99, .putfield 40, 3, [], 10, 0), (102, .aload_n 0, 1, [], 0, 0), (103, .sipush 512, 3, [], 0, 0), (106, .newarray .int, 2, [], 0, 0), (108, .putfield 43, 3, [], 11, 0), (111, .aload_n 0, 1, [], 0, 0), (112, .sipush 512, 3, [], 0, 0), (115, .newarray .int, 2, [], 0, 0), (117, .putfield 46, 3, [], 12, 0), (120, .aload_n 0, 1, [], 0, 0), (121, .sipush 512, 3, [], 0, 0), (124, .newarray .int, 2, [], 0, 0), (126, .putfield 49, 3, [], 13, 0), (129, .aload_n 0, 1, [], 0, 0), (130, .aload_n 0, 1, [], 0, 0), (131, .iload_n 1, 1, [], 0, 0), (132, .iconst 1, 1, [], 0, 0), (133, .bipush 16, 2, [], 0, 0), (135, .invokevirtual 52, 3, [], 2, 0), (138, .putfield 56, 3, [], 14, 0), (141, .aload_n 0, 1, [], 0, 0), (142, .aload_n 0, 1, [], 0, 0), (143, .iload_n 2, 1, [], 0, 0), (144, .iconst 1, 1, [], 0, 0), (145, .bipush 16, 2, [], 0, 0), (147, .invokevirtual 52, 3, [], 2, 0), (150, .putfield 60, 3, [], 15, 0), (153, .aload_n 0, 1, [], 0, 0), (154, .aload_n 0, 1, [], 0, 0), (155, .getfield 56, 3, [], 14, 0), (158, .aload_n 0, 1, [], 0, 0), (159, .getfield 60, 3, [], 15, 0), (162, .imul, 1, [], 0, 0), (163, .putfield 63, 3, [], 16, 0), (166, .aload_n 0, 1, [], 0, 0), (167, .aload_n 0, 1, [], 0, 0), (168, .iload_n 3, 1, [], 0, 0), (169, .iconst 2, 1, [], 0, 0), (170, .sipush 256, 3, [], 0, 0), (173, .invokevirtual 52, 3, [], 2, 0), (176, .putfield 66, 3, [], 17, 0), (179, .iconst 2, 1, [], 0, 0), (180, .istore 5, 2, [], 0, 0), (182, .iconst 0, 1, [], 0, 0), (183, .istore 6, 2, [], 0, 0), (185, .iload 6, 2, [false, true, true, true], 0, 0), (187, .bipush 8, 2, [], 0, 0), (189, .if_icmp .ge 30, 3, [], 0, 0), (192, .iconst 1, 1, [], 0, 0), (193, .iload 5, 2, [], 0, 0), (195, .ishl, 1, [], 0, 0), (196, .aload_n 0, 1, [], 0, 0), (197, .getfield 66, 3, [], 17, 0), (200, .if_icmp .ge 19, 3, [], 0, 0), (203, .iload 5, 2, [], 0, 0), (205, .bipush 8, 2, [], 0, 0), (207, .if_icmp .ge 12, 3, [], 0, 0), (210, .iinc 5 1, 3, [], 0, 0), (213, .iinc 6 1, 3, [], 0, 0), (216, .goto (-31), 3, [], 0, 0), (219, .aload_n 0, 1, [false, true, true, true, false, false, true], 0, 0), (220, .iload 5, 2, [], 0, 0), (222, .putfield 69, 3, [], 18, 0), (225, .aload_n 0, 1, [], 0, 0), (226, .iconst 1, 1, [], 0, 0), (227, .iload 5, 2, [], 0, 0), (229, .ishl, 1, [], 0, 0), (230, .putfield 72, 3, [], 19, 0), (233, .aload_n 0, 1, [], 0, 0), (234, .iload 4, 2, [], 0, 0), (236, .iconst 3, 1, [], 0, 0), (237, .bipush 9, 2, [], 0, 0), (239, .invokevirtual 52, 3, [], 2, 0), (242, .istore 6, 2, [], 0, 0), (244, .iload 6, 2, [], 0, 0), (246, .iload 5, 2, [], 0, 0), (248, .iconst 1, 1, [], 0, 0), (249, .iadd, 1, [], 0, 0), (250, .if_icmp .ge 9, 3, [], 0, 0), (253, .iload 5, 2, [], 0, 0), (255, .iconst 1, 1, [], 0, 0), (256, .iadd, 1, [], 0, 0), (257, .istore 6, 2, [], 0, 0), (259, .aload_n 0, 1, [false, true, true, true, true, true], 0, 0), (260, .iload 6, 2, [], 0, 0), (262, .putfield 75, 3, [], 20, 0), (265, .aload_n 0, 1, [], 0, 0), (266, .iconst 1, 1, [], 0, 0), (267, .iload 6, 2, [], 0, 0), (269, .ishl, 1, [], 0, 0), (270, .putfield 78, 3, [], 21, 0), (273, .aload_n 0, 1, [], 0, 0), (274, .iconst 0, 1, [], 0, 0), (275, .putfield 81, 3, [], 22, 0), (278, .aload_n 0, 1, [], 0, 0), (279, .sipush 255, 3, [], 0, 0), (282, .putfield 85, 3, [], 23, 0), (285, .aload_n 0, 1, [], 0, 0), (286, .iconst 0, 1, [], 0, 0), (287, .putfield 88, 3, [], 24, 0), (290, .aload_n 0, 1, [], 0, 0), (291, .iconst 0, 1, [], 0, 0), (292, .putfield 91, 3, [], 25, 0), (295, .aload_n 0, 1, [], 0, 0), (296, .iconst 0, 1, [], 0, 0), (297, .putfield 94, 3, [], 26, 0), (300, .aload_n 0, 1, [], 0, 0), (301, .iconst 1, 1, [], 0, 0), (302, .putfield 97, 3, [], 27, 0), (305, .return_, 1, [], 0, 0)])
def d_2 : MD := (⟨"LzwIndexedImage", "clamp", "(III)I"⟩, prog_1_method_2_code, 4, some .int, 2, 3, 0, 0, 0, [(0, .iload_n 1, 1, [], 0, 0), (1, .iload_n 2, 1, [], 0, 0), (2, .if_icmp .ge 5, 3, [], 0, 0), (5, .iload_n 2, 1, [], 0, 0), (6, .ireturn, 1, [], 0, 0), (7, .iload_n 1, 1, [], 0, 0), (8, .iload_n 3, 1, [], 0, 0), (9, .if_icmp .le 5, 3, [], 0, 0), (12, .iload_n 3, 1, [], 0, 0), (13, .ireturn, 1, [], 0, 0), (14, .iload_n 1, 1, [], 0, 0), (15, .ireturn, 1, [], 0, 0)])
def d_3 : MD := (⟨"LzwIndexedImage", "fill", "(III)Z"⟩, prog_1_method_6_code, 5, some .boolean, 3, 3, 0, 0, 0, [(0, .iload_n 3, 1, [], 0, 0), (1, .ifCond .lt 23, 3, [], 0, 0), (4, .iload_n 3, 1, [], 0, 0), (5, .aload_n 0, 1, [], 0, 0), (6, .getfield 66, 3, [], 17, 0), (9, .if_icmp .ge 15, 3, [], 0, 0), (12, .iload_n 1, 1, [], 0, 0), (13, .ifCond .lt 11, 3, [], 0, 0), (16, .iload_n 1, 1, [], 0, 0), (17, .aload_n 0, 1, [], 0, 0), (18, .getfield 63, 3, [], 16, 0), (21, .if_icmp .lt 5, 3, [], 0, 0), (24, .iconst 0, 1, [], 0, 0), (25, .ireturn, 1, [], 0, 0), (26, .iload_n 2, 1, [], 0, 0), (27, .iconst 1, 1, [], 0, 0), (28, .if_icmp .lt 13, 3, [], 0, 0), (31, .iload_n 2, 1, [], 0, 0), (32, .aload_n 0, 1, [], 0, 0), (33, .getfield 63, 3, [], 16, 0), (36, .iload_n 1, 1, [], 0, 0), (37, .isub, 1, [], 0, 0), (38, .if_icmp .le 5, 3, [], 0, 0), (41, .iconst 0, 1, [], 0, 0), (42, .ireturn, 1, [], 0, 0), (43, .iload_n 1, 1, [], 0, 0), (44, .istore 4, 2, [], 0, 0), (46, .iload 4, 2, [], 0, 0), (48, .iload_n 1, 1, [], 0, 0), (49, .iload_n 2, 1, [], 0, 0), (50, .iadd, 1, [], 0, 0), (51, .if_icmp .ge 25, 3, [], 0, 0), (54, .iload 4, 2, [], 0, 0), (56, .sipush 256, 3, [], 0, 0), (59, .if_icmp .ge 17, 3, [], 0, 0), (62, .aload_n 0, 1, [], 0, 0), (63, .getfield 7, 3, [], 0, 0), (66, .iload 4, 2, [], 0, 0), (68, .iload_n 3, 1, [], 0, 0), (69, .iastore, 1, [], 0, 0), (70, .iinc 4 1, 3, [], 0, 0), (73, .goto (-27), 3, [], 0, 0), (76, .iconst 1, 1, [], 0, 0), (77, .ireturn, 1, [], 0, 0)])
def d_4 : MD := (⟨"LzwIndexedImageL6", "put", "(III)I"⟩, method_3_code, 3, some .int, 0, 3, 999, 0, 0, [(0, .iload_n 0, 1, [], 0, 0), (1, .iconst 3, 1, [], 0, 0), (2, .iconst 2, 1, [], 0, 0), (3, .iload_n 1, 1, [], 0, 0), (4, .imul, 1, [], 0, 0), (5, .ishl, 1, [], 0, 0), (6, .iconst (-1), 1, [], 0, 0), (7, .ixor, 1, [], 0, 0), (8, .iand, 1, [], 0, 0), (9, .iload_n 2, 1, [], 0, 0), (10, .iconst 2, 1, [], 0, 0), (11, .iload_n 1, 1, [], 0, 0), (12, .imul, 1, [], 0, 0), (13, .ishl, 1, [], 0, 0), (14, .ior, 1, [], 0, 0), (15, .ireturn, 1, [], 0, 0)])
def d_5 : MD := (⟨"LzwIndexedImage", "getInLength", "()I"⟩, prog_1_method_25_code, 1, some .int, 3, 0, 0, 0, 0, [(0, .aload_n 0, 1, [], 0, 0), (1, .getfield 91, 3, [], 25, 0), (4, .ireturn, 1, [], 0, 0)])
def d_6 : MD := (⟨"LzwIndexedImage", "getOutLength", "()I"⟩, prog_1_method_19_code, 1, some .int, 3, 0, 0, 0, 0, [(0, .aload_n 0, 1, [], 0, 0), (1, .getfield 88, 3, [], 24, 0), (4, .ireturn, 1, [], 0, 0)])
def d_7 : MD := (⟨"LzwIndexedImage", "getStatus", "()I"⟩, prog_1_method_37_code, 1, some .int, 3, 0, 0, 0, 0, [(0, .aload_n 0, 1, [], 0, 0), (1, .getfield 97, 3, [], 27, 0), (4, .ireturn, 1, [], 0, 0)])
def d_8 : MD := (⟨"LzwIndexedImage", "getPixel", "(I)I"⟩, prog_1_method_7_code, 2, some .int, 3, 1, 0, 0, 0, [(0, .iload_n 1, 1, [], 0, 0), (1, .ifCond .lt 11, 3, [], 0, 0), (4, .iload_n 1, 1, [], 0, 0), (5, .aload_n 0, 1, [], 0, 0), (6, .getfield 63, 3, [], 16, 0), (9, .if_icmp .lt 5, 3, [], 0, 0), (12, .iconst (-1), 1, [], 0, 0), (13, .ireturn, 1, [], 0, 0), (14, .aload_n 0, 1, [], 0, 0), (15, .getfield 7, 3, [], 0, 0), (18, .iload_n 1, 1, [], 0, 0), (19, .iaload, 1, [], 0, 0), (20, .ireturn, 1, [], 0, 0)])
def d_9 : MD := (⟨"LzwIndexedImage", "getOutByte", "(I)I"⟩, prog_1_method_20_code, 2, some .int, 3, 1, 0, 0, 0, [(0, .iload_n 1, 1, [], 0, 0), (1, .ifCond .lt 11, 3, [], 0, 0), (4, .iload_n 1, 1, [], 0, 0), (5, .aload_n 0, 1, [], 0, 0), (6, .getfield 88, 3, [], 24, 0), (9, .if_icmp .lt 5, 3, [], 0, 0), (12, .iconst (-1), 1, [], 0, 0), (13, .ireturn, 1, [], 0, 0), (14, .aload_n 0, 1, [], 0, 0), (15, .getfield 13, 3, [], 1, 0), (18, .iload_n 1, 1, [], 0, 0), (19, .iaload, 1, [], 0, 0), (20, .ireturn, 1, [], 0, 0)])
def d_10 : MD := (⟨"LzwIndexedImage", "setBlockSize", "(I)I"⟩, prog_1_method_4_code, 2, some .int, 3, 1, 0, 1, 16, [(0, .aload_n 0, 1, [], 0, 0), (1, .aload_n 0, 1, [], 0, 0), (2, .iload_n 1, 1, [], 0, 0), (3, .iconst 4, 1, [], 0, 0), (4, .sipush 255, 3, [], 0, 0), (7, .invokevirtual 52, 3, [], 2, 0), (10, .putfield 85, 3, [], 23, 0), (13, .aload_n 0, 1, [], 0, 0), (14, .getfield 85, 3, [], 23, 0), (17, .ireturn, 1, [], 0, 0)])
def d_11 : MD := (⟨"LzwIndexedImage", "setInterlaced", "(Z)V"⟩, prog_1_method_3_code, 2, none, 3, 1, 0, 0, 0, [(0, .aload_n 0, 1, [], 0, 0), (1, .iload_n 1, 1, [], 0, 0), (2, .putfield 81, 3, [], 22, 0), (5, .return_, 1, [], 0, 0)])
def d_12 : MD := (⟨"LzwIndexedImage", "setPixel", "(II)Z"⟩, prog_1_method_5_code, 3, some .boolean, 3, 2, 0, 0, 0, [(0, .iload_n 1, 1, [], 0, 0), (1, .ifCond .lt 23, 3, [], 0, 0), (4, .iload_n 1, 1, [], 0, 0), (5, .aload_n 0, 1, [], 0, 0), (6, .getfield 63, 3, [], 16, 0), (9, .if_icmp .ge 15, 3, [], 0, 0), (12, .iload_n 2, 1, [], 0, 0), (13, .ifCond .lt 11, 3, [], 0, 0), (16, .iload_n 2, 1, [], 0, 0), (17, .aload_n 0, 1, [], 0, 0), (18, .getfield 66, 3, [], 17, 0), (21, .if_icmp .lt 5, 3, [], 0, 0), (24, .iconst 0, 1, [], 0, 0), (25, .ireturn, 1, [], 0, 0), (26, .aload_n 0, 1, [], 0, 0), (27, .getfield 7, 3, [], 0, 0), (30, .iload_n 1, 1, [], 0, 0), (31, .iload_n 2, 1, [], 0, 0), (32, .iastore, 1, [], 0, 0), (33, .iconst 1, 1, [], 0, 0), (34, .ireturn, 1, [], 0, 0)])
def d_13 : MD := (⟨"LzwIndexedImage", "loadInFromOut", "()I"⟩, prog_1_method_24_code, 3, some .int, 3, 0, 0, 0, 0, [(0, .iconst 0, 1, [], 0, 0), (1, .istore_n 1, 1, [], 0, 0), (2, .iconst 0, 1, [], 0, 0), (3, .istore_n 2, 1, [], 0, 0), (4, .iload_n 2, 1, [], 0, 0), (5, .aload_n 0, 1, [], 0, 0), (6, .getfield 88, 3, [], 24, 0), (9, .if_icmp .ge 31, 3, [], 0, 0), (12, .iload_n 2, 1, [], 0, 0), (13, .sipush 512, 3, [], 0, 0), (16, .if_icmp .ge 24, 3, [], 0, 0), (19, .aload_n 0, 1, [], 0, 0), (20, .getfield 16, 3, [], 2, 0), (23, .iload_n 2, 1, [], 0, 0), (24, .aload_n 0, 1, [], 0, 0), (25, .getfield 13, 3, [], 1, 0), (28, .iload_n 2, 1, [], 0, 0), (29, .iaload, 1, [], 0, 0), (30, .iastore, 1, [], 0, 0), (31, .iinc 1 1, 3, [], 0, 0), (34, .iinc 2 1, 3, [], 0, 0), (37, .goto (-33), 3, [], 0, 0), (40, .aload_n 0, 1, [false, false, true], 0, 0), (41, .iload_n 1, 1, [], 0, 0), (42, .putfield 91, 3, [], 25, 0), (45, .aload_n 0, 1, [], 0, 0), (46, .getfield 91, 3, [], 25, 0), (49, .ireturn, 1, [], 0, 0)])
def d_14 : MD := (⟨"LzwIndexedImage", "encode", "()I"⟩, prog_1_method_11_code, 3, some .int, 3, 0, 0, 3, 47, [(0, .aload_n 0, 1, [], 0, 0), (1, .invokevirtual 103, 3, [], 15, 0), (4, .iconst 0, 1, [], 0, 0), (5, .istore_n 1, 1, [], 0, 0), (6, .iload_n 1, 1, [false, false, true], 0, 0), (7, .aload_n 0, 1, [], 0, 0), (8, .getfield 63, 3, [], 16, 0), (11, .if_icmp .ge 38, 3, [], 0, 0), (14, .aload_n 0, 1, [], 0, 0), (15, .iload_n 1, 1, [], 0, 0), (16, .invokevirtual 106, 3, [], 16, 0), (19, .istore_n 2, 1, [], 0, 0), (20, .iload_n 2, 1, [], 0, 0), (21, .ifCond .lt 22, 3, [], 0, 0), (24, .iload_n 2, 1, [], 0, 0), (25, .sipush 256, 3, [], 0, 0), (28, .if_icmp .ge 15, 3, [], 0, 0), (31, .aload_n 0, 1, [], 0, 0), (32, .getfield 25, 3, [], 5, 0), (35, .iload_n 1, 1, [], 0, 0), (36, .aload_n 0, 1, [], 0, 0), (37, .getfield 7, 3, [], 0, 0), (40, .iload_n 2, 1, [], 0, 0), (41, .iaload, 1, [], 0, 0), (42, .iastore, 1, [], 0, 0), (43, .iinc 1 1, 3, [], 0, 0), (46, .goto (-40), 3, [], 0, 0), (49, .aload_n 0, 1, [false, true, true], 0, 0), (50, .invokevirtual 110, 3, [], 17, 0), (53, .aload_n 0, 1, [], 0, 0), (54, .invokevirtual 113, 3, [], 22, 0), (57, .aload_n 0, 1, [], 0, 0), (58, .getfield 88, 3, [], 24, 0), (61, .ireturn, 1, [], 0, 0)])
def d_15 : MD := (⟨"LzwIndexedImage", "buildRowOrder", "()V"⟩, prog_1_method_8_code, 2, none, 2, 0, 0, 1, 17, [(0, .aload_n 0, 1, [], 0, 0), (1, .getfield 81, 3, [], 22, 0), (4, .ifCond .ne 33, 3, [], 0, 0), (7, .iconst 0, 1, [], 0, 0), (8, .istore_n 1, 1, [], 0, 0), (9, .iload_n 1, 1, [], 0, 0), (10, .aload_n 0, 1, [], 0, 0), (11, .getfield 60, 3, [], 15, 0), (14, .if_icmp .ge 22, 3, [], 0, 0), (17, .iload_n 1, 1, [], 0, 0), (18, .bipush 16, 2, [], 0, 0), (20, .if_icmp .ge 16, 3, [], 0, 0), (23, .aload_n 0, 1, [], 0, 0), (24, .getfield 22, 3, [], 4, 0), (27, .iload_n 1, 1, [], 0, 0), (28, .iload_n 1, 1, [], 0, 0), (29, .iastore, 1, [], 0, 0), (30, .iinc 1 1, 3, [], 0, 0), (33, .goto (-24), 3, [], 0, 0), (36, .return_, 1, [], 0, 0), (37, .aload_n 0, 1, [], 0, 0), (38, .iconst 0, 1, [], 0, 0), (39, .iconst 0, 1, [], 0, 0), (40, .bipush 8, 2, [], 0, 0), (42, .invokevirtual 100, 3, [], 30, 0), (45, .istore_n 1, 1, [], 0, 0), (46, .aload_n 0, 1, [], 0, 0), (47, .iload_n 1, 1, [], 0, 0), (48, .iconst 4, 1, [], 0, 0), (49, .bipush 8, 2, [], 0, 0), (51, .invokevirtual 100, 3, [], 30, 0), (54, .istore_n 1, 1, [], 0, 0), (55, .aload_n 0, 1, [], 0, 0), (56, .iload_n 1, 1, [], 0, 0), (57, .iconst 2, 1, [], 0, 0), (58, .iconst 4, 1, [], 0, 0), (59, .invokevirtual 100, 3, [], 30, 0), (62, .istore_n 1, 1, [], 0, 0), (63, .aload_n 0, 1, [], 0, 0), (64, .iload_n 1, 1, [], 0, 0), (65, .iconst 1, 1, [], 0, 0), (66, .iconst 2, 1, [], 0, 0), (67, .invokevirtual 100, 3, [], 30, 0), (70, .pop, 1, [], 0, 0), (71, .return_, 1, [], 0, 0)])
def d_16 : MD := (⟨"LzwIndexedImage", "rasterOf", "(I)I"⟩, prog_1_method_10_code, 4, some .int, 2, 1, 0, 0, 0, [(0, .iload_n 1, 1, [], 0, 0), (1, .aload_n 0, 1, [], 0, 0), (2, .getfield 56, 3, [], 14, 0), (5, .idiv, 1, [], 0, 0), (6, .istore_n 2, 1, [], 0, 0), (7, .iload_n 1, 1, [], 0, 0), (8, .aload_n 0, 1, [], 0, 0), (9, .getfield 56, 3, [], 14, 0), (12, .irem, 1, [], 0, 0), (13, .istore_n 3, 1, [], 0, 0), (14, .iload_n 2, 1, [], 0, 0), (15, .ifCond .lt 9, 3, [], 0, 0), (18, .iload_n 2, 1, [], 0, 0), (19, .bipush 16, 2, [], 0, 0), (21, .if_icmp .lt 5, 3, [], 0, 0), (24, .iconst 0, 1, [], 0, 0), (25, .ireturn, 1, [], 0, 0), (26, .aload_n 0, 1, [], 0, 0), (27, .getfield 22, 3, [], 4, 0), (30, .iload_n 2, 1, [], 0, 0), (31, .iaload, 1, [], 0, 0), (32, .aload_n 0, 1, [], 0, 0), (33, .getfield 56, 3, [], 14, 0), (36, .imul, 1, [], 0, 0), (37, .iload_n 3, 1, [], 0, 0), (38, .iadd, 1, [], 0, 0), (39, .ireturn, 1, [], 0, 0)])
def d_17 : MD := (⟨"LzwIndexedImage", "compress", "()V"⟩, prog_1_method_12_code, 5, none, 2, 0, 0, 2, 31, [(0, .aload_n 0, 1, [], 0, 0), (1, .iconst 0, 1, [], 0, 0), (2, .putfield 116, 3, [], 28, 0), (5, .aload_n 0, 1, [], 0, 0), (6, .aload_n 0, 1, [], 0, 0), (7, .getfield 78, 3, [], 21, 0), (10, .invokevirtual 119, 3, [], 18, 0), (13, .aload_n 0, 1, [], 0, 0), (14, .aload_n 0, 1, [], 0, 0), (15, .getfield 69, 3, [], 18, 0), (18, .iconst 1, 1, [], 0, 0), (19, .iadd, 1, [], 0, 0), (20, .putfield 123, 3, [], 29, 0), (23, .aload_n 0, 1, [], 0, 0), (24, .aload_n 0, 1, [], 0, 0), (25, .getfield 72, 3, [], 19, 0), (28, .iconst 2, 1, [], 0, 0), (29, .iadd, 1, [], 0, 0), (30, .putfield 126, 3, [], 30, 0), (33, .aload_n 0, 1, [], 0, 0), (34, .aload_n 0, 1, [], 0, 0), (35, .getfield 72, 3, [], 19, 0), (38, .invokevirtual 129, 3, [], 19, 0), (41, .aload_n 0, 1, [], 0, 0), (42, .getfield 25, 3, [], 5, 0), (45, .iconst 0, 1, [], 0, 0), (46, .iaload, 1, [], 0, 0), (47, .istore_n 1, 1, [], 0, 0), (48, .iconst 1, 1, [], 0, 0), (49, .istore_n 2, 1, [], 0, 0), (50, .iload_n 2, 1, [false, false, false, true, true], 0, 0), (51, .aload_n 0, 1, [], 0, 0), (52, .getfield 63, 3, [], 16, 0), (55, .if_icmp .ge 48, 3, [], 0, 0), (58, .aload_n 0, 1, [], 0, 0), (59, .getfield 25, 3, [], 5, 0), (62, .iload_n 2, 1, [], 0, 0), (63, .iaload, 1, [], 0, 0), (64, .istore_n 3, 1, [], 0, 0), (65, .aload_n 0, 1, [], 0, 0), (66, .iload_n 1, 1, [], 0, 0), (67, .iload_n 3, 1, [], 0, 0), (68, .invokevirtual 132, 3, [], 20, 0), (71, .istore 4, 2, [], 0, 0), (73, .iload 4, 2, [], 0, 0), (75, .ifCond .lt 9, 3, [], 0, 0), (78, .iload 4, 2, [], 0, 0), (80, .istore_n 1, 1, [], 0, 0), (81, .goto 16, 3, [], 0, 0), (84, .aload_n 0, 1, [], 0, 0), (85, .iload_n 1, 1, [], 0, 0), (86, .invokevirtual 129, 3, [], 19, 0), (89, .aload_n 0, 1, [], 0, 0), (90, .iload_n 1, 1, [], 0, 0), (91, .iload_n 3, 1, [], 0, 0), (92, .invokevirtual 136, 3, [], 21, 0), (95, .iload_n 3, 1, [], 0, 0), (96, .istore_n 1, 1, [], 0, 0), (97, .iinc 2 1, 3, [], 0, 0), (100, .goto (-50), 3, [], 0, 0), (103, .aload_n 0, 1, [false, false, true, true, true], 0, 0), (104, .iload_n 1, 1, [], 0, 0), (105, .invokevirtual 129, 3, [], 19, 0), (108, .aload_n 0, 1, [], 0, 0), (109, .aload_n 0, 1, [], 0, 0), (110, .getfield 72, 3, [], 19, 0), (113, .iconst 1, 1, [], 0, 0), (114, .iadd, 1, [], 0, 0), (115, .invokevirtual 129, 3, [], 19, 0), (118, .return_, 1, [], 0, 0)])
def d_18 : MD := (⟨"LzwIndexedImage", "resetEncoderTable", "(I)V"⟩, prog_1_method_13_code, 3, none, 2, 1, 0, 0, 0, [(0, .iconst 0, 1, [], 0, 0), (1, .istore_n 2, 1, [], 0, 0), (2, .iload_n 2, 1, [], 0, 0), (3, .iload_n 1, 1, [], 0, 0), (4, .if_icmp .ge 23, 3, [], 0, 0), (7, .iload_n 2, 1, [], 0, 0), (8, .sipush 512, 3, [], 0, 0), (11, .if_icmp .ge 16, 3, [], 0, 0), (14, .aload_n 0, 1, [], 0, 0), (15, .getfield 31, 3, [], 7, 0), (18, .iload_n 2, 1, [], 0, 0), (19, .iconst (-1), 1, [], 0, 0), (20, .iastore, 1, [], 0, 0), (21, .iinc 2 1, 3, [], 0, 0), (24, .goto (-22), 3, [], 0, 0), (27, .return_, 1, [], 0, 0)])
def d_19 : MD := (⟨"LzwIndexedImage", "putCode", "(I)V"⟩, prog_1_method_16_code, 5, none, 2, 1, 0, 0, 0, [(0, .iconst 0, 1, [], 0, 0), (1, .istore_n 2, 1, [], 0, 0), (2, .iload_n 2, 1, [false, false, false, true, true], 0, 0), (3, .aload_n 0, 1, [], 0, 0), (4, .getfield 123, 3, [], 29, 0), (7, .if_icmp .ge 83, 3, [], 0, 0), (10, .aload_n 0, 1, [], 0, 0), (11, .getfield 116, 3, [], 28, 0), (14, .iconst 3, 1, [], 0, 0), (15, .ishr, 1, [], 0, 0), (16, .istore_n 3, 1, [], 0, 0), (17, .aload_n 0, 1, [], 0, 0), (18, .getfield 116, 3, [], 28, 0), (21, .bipush 7, 2, [], 0, 0), (23, .iand, 1, [], 0, 0), (24, .istore 4, 2, [], 0, 0), (26, .iload_n 3, 1, [], 0, 0), (27, .ifCond .lt 47, 3, [], 0, 0), (30, .iload_n 3, 1, [], 0, 0), (31, .sipush 512, 3, [], 0, 0), (34, .if_icmp .ge 40, 3, [], 0, 0), (37, .iload 4, 2, [], 0, 0), (39, .ifCond .ne 10, 3, [], 0, 0), (42, .aload_n 0, 1, [], 0, 0), (43, .getfield 28, 3, [], 6, 0), (46, .iload_n 3, 1, [], 0, 0), (47, .iconst 0, 1, [], 0, 0), (48, .iastore, 1, [], 0, 0), (49, .iload_n 1, 1, [], 0, 0), (50, .iload_n 2, 1, [], 0, 0), (51, .ishr, 1, [], 0, 0), (52, .iconst 1, 1, [], 0, 0), (53, .iand, 1, [], 0, 0), (54, .ifCond .eq 20, 3, [], 0, 0), (57, .aload_n 0, 1, [], 0, 0), (58, .getfield 28, 3, [], 6, 0), (61, .iload_n 3, 1, [], 0, 0), (62, .aload_n 0, 1, [], 0, 0), (63, .getfield 28, 3, [], 6, 0), (66, .iload_n 3, 1, [], 0, 0), (67, .iaload, 1, [], 0, 0), (68, .iconst 1, 1, [], 0, 0), (69, .iload 4, 2, [], 0, 0), (71, .ishl, 1, [], 0, 0), (72, .ior, 1, [], 0, 0), (73, .iastore, 1, [], 0, 0), (74, .aload_n 0, 1, [false, false, false, true, true], 0, 0), (75, .dup, 1, [], 0, 0), (76, .getfield 116, 3, [], 28, 0), (79, .iconst 1, 1, [], 0, 0), (80, .iadd, 1, [], 0, 0), (81, .putfield 116, 3, [], 28, 0), (84, .iinc 2 1, 3, [], 0, 0), (87, .goto (-85), 3, [], 0, 0), (90, .return_, 1, [], 0, 0)])
def d_20 : MD := (⟨"LzwIndexedImage", "findChild", "(II)I"⟩, prog_1_method_14_code, 5, some .int, 2, 2, 0, 0, 0, [(0, .iload_n 1, 1, [], 0, 0), (1, .ifCond .lt 10, 3, [], 0, 0), (4, .iload_n 1, 1, [], 0, 0), (5, .sipush 512, 3, [], 0, 0), (8, .if_icmp .lt 5, 3, [], 0, 0), (11, .iconst (-1), 1, [], 0, 0), (12, .ireturn, 1, [], 0, 0), (13, .aload_n 0, 1, [], 0, 0), (14, .getfield 31, 3, [], 7, 0), (17, .iload_n 1, 1, [], 0, 0), (18, .iaload, 1, [], 0, 0), (19, .istore_n 3, 1, [], 0, 0), (20, .iconst 0, 1, [], 0, 0), (21, .istore 4, 2, [], 0, 0), (23, .iload 4, 2, [false, true], 0, 0), (25, .sipush 512, 3, [], 0, 0), (28, .if_icmp .ge 39, 3, [], 0, 0), (31, .iload_n 3, 1, [], 0, 0), (32, .ifCond .lt 35, 3, [], 0, 0), (35, .iload_n 3, 1, [], 0, 0), (36, .sipush 512, 3, [], 0, 0), (39, .if_icmp .ge 28, 3, [], 0, 0), (42, .aload_n 0, 1, [], 0, 0), (43, .getfield 37, 3, [], 9, 0), (46, .iload_n 3, 1, [], 0, 0), (47, .iaload, 1, [], 0, 0), (48, .iload_n 2, 1, [], 0, 0), (49, .if_icmp .ne 5, 3, [], 0, 0), (52, .iload_n 3, 1, [], 0, 0), (53, .ireturn, 1, [], 0, 0), (54, .aload_n 0, 1, [], 0, 0), (55, .getfield 34, 3, [], 8, 0), (58, .iload_n 3, 1, [], 0, 0), (59, .iaload, 1, [], 0, 0), (60, .istore_n 3, 1, [], 0, 0), (61, .iinc 4 1, 3, [], 0, 0), (64, .goto (-41), 3, [], 0, 0), (67, .iconst (-1), 1, [], 0, 0), (68, .ireturn, 1, [], 0, 0)])
def d_21 : MD := (⟨"LzwIndexedImage", "addEncoderCode", "(II)V"⟩, prog_1_method_15_code, 4, none, 2, 2, 0, 1, 16, [(0, .aload_n 0, 1, [], 0, 0), (1, .getfield 126, 3, [], 30, 0), (4, .istore_n 3, 1, [], 0, 0), (5, .iload_n 3, 1, [], 0, 0), (6, .ifCond .lt 54, 3, [], 0, 0), (9, .iload_n 3, 1, [], 0, 0), (10, .sipush 512, 3, [], 0, 0), (13, .if_icmp .ge 47, 3, [], 0, 0), (16, .iload_n 1, 1, [], 0, 0), (17, .ifCond .lt 43, 3, [], 0, 0), (20, .iload_n 1, 1, [], 0, 0), (21, .sipush 512, 3, [], 0, 0), (24, .if_icmp .ge 36, 3, [], 0, 0), (27, .aload_n 0, 1, [], 0, 0), (28, .getfield 37, 3, [], 9, 0), (31, .iload_n 3, 1, [], 0, 0), (32, .iload_n 2, 1, [], 0, 0), (33, .iastore, 1, [], 0, 0), (34, .aload_n 0, 1, [], 0, 0), (35, .getfield 34, 3, [], 8, 0), (38, .iload_n 3, 1, [], 0, 0), (39, .aload_n 0, 1, [], 0, 0), (40, .getfield 31, 3, [], 7, 0), (43, .iload_n 1, 1, [], 0, 0), (44, .iaload, 1, [], 0, 0), (45, .iastore, 1, [], 0, 0), (46, .aload_n 0, 1, [], 0, 0), (47, .getfield 31, 3, [], 7, 0), (50, .iload_n 1, 1, [], 0, 0), (51, .iload_n 3, 1, [], 0, 0), (52, .iastore, 1, [], 0, 0), (53, .aload_n 0, 1, [], 0, 0), (54, .getfield 31, 3, [], 7, 0), (57, .iload_n 3, 1, [], 0, 0), (58, .iconst (-1), 1, [], 0, 0), (59, .iastore, 1, [], 0, 0), (60, .aload_n 0, 1, [false, true, true], 0, 0), (61, .iload_n 3, 1, [], 0, 0), (62, .iconst 1, 1, [], 0, 0), (63, .iadd, 1, [], 0, 0), (64, .putfield 126, 3, [], 30, 0), (67, .aload_n 0, 1, [], 0, 0), (68, .getfield 126, 3, [], 30, 0), (71, .iconst 1, 1, [], 0, 0), (72, .aload_n 0, 1, [], 0, 0), (73, .getfield 123, 3, [], 29, 0), (76, .ishl, 1, [], 0, 0), (77, .if_icmp .le 24, 3, [], 0, 0), (80, .aload_n 0, 1, [], 0, 0), (81, .getfield 123, 3, [], 29, 0), (84, .aload_n 0, 1, [], 0, 0), (85, .getfield 75, 3, [], 20, 0), (88, .if_icmp .ge 13, 3, [], 0, 0), (91, .aload_n 0, 1, [], 0, 0), (92, .dup, 1, [], 0, 0), (93, .getfield 123, 3, [], 29, 0), (96, .iconst 1, 1, [], 0, 0), (97, .iadd, 1, [], 0, 0), (98, .putfield 123, 3, [], 29, 0), (101, .aload_n 0, 1, [false, true, true, true], 0, 0), (102, .getfield 126, 3, [], 30, 0), (105, .aload_n 0, 1, [], 0, 0), (106, .getfield 78, 3, [], 21, 0), (109, .if_icmp .ne 39, 3, [], 0, 0), (112, .aload_n 0, 1, [], 0, 0), (113, .aload_n 0, 1, [], 0, 0), (114, .getfield 72, 3, [], 19, 0), (117, .invokevirtual 129, 3, [], 19, 0), (120, .aload_n 0, 1, [], 0, 0), (121, .aload_n 0, 1, [], 0, 0), (122, .getfield 126, 3, [], 30, 0), (125, .invokevirtual 119, 3, [], 18, 0), (128, .aload_n 0, 1, [], 0, 0), (129, .aload_n 0, 1, [], 0, 0), (130, .getfield 69, 3, [], 18, 0), (133, .iconst 1, 1, [], 0, 0), (134, .iadd, 1, [], 0, 0), (135, .putfield 123, 3, [], 29, 0), (138, .aload_n 0, 1, [], 0, 0), (139, .aload_n 0, 1, [], 0, 0), (140, .getfield 72, 3, [], 19, 0), (143, .iconst 2, 1, [], 0, 0), (144, .iadd, 1, [], 0, 0), (145, .putfield 126, 3, [], 30, 0), (148, .return_, 1, [], 0, 0)])
def d_22 : MD := (⟨"LzwIndexedImage", "packBlocks", "()V"⟩, prog_1_method_17_code, 6, none, 2, 0, 0, 1, 13, [(0, .aload_n 0, 1, [], 0, 0), (1, .getfield 116, 3, [], 28, 0), (4, .bipush 7, 2, [], 0, 0), (6, .iadd, 1, [], 0, 0), (7, .iconst 3, 1, [], 0, 0), (8, .ishr, 1, [], 0, 0), (9, .istore_n 1, 1, [], 0, 0), (10, .iload_n 1, 1, [], 0, 0), (11, .sipush 512, 3, [], 0, 0), (14, .if_icmp .le 7, 3, [], 0, 0), (17, .sipush 512, 3, [], 0, 0), (20, .istore_n 1, 1, [], 0, 0), (21, .aload_n 0, 1, [false, false, true, true, true, true], 0, 0), (22, .iconst 0, 1, [], 0, 0), (23, .putfield 88, 3, [], 24, 0), (26, .aload_n 0, 1, [], 0, 0), (27, .aload_n 0, 1, [], 0, 0), (28, .getfield 69, 3, [], 18, 0), (31, .invokevirtual 140, 3, [], 23, 0), (34, .iconst 0, 1, [], 0, 0), (35, .istore_n 2, 1, [], 0, 0), (36, .iconst 0, 1, [], 0, 0), (37, .istore_n 3, 1, [], 0, 0), (38, .iload_n 3, 1, [false, false, false, false, true, true], 0, 0), (39, .sipush 512, 3, [], 0, 0), (42, .if_icmp .ge 69, 3, [], 0, 0), (45, .iload_n 2, 1, [], 0, 0), (46, .iload_n 1, 1, [], 0, 0), (47, .if_icmp .ge 64, 3, [], 0, 0), (50, .iload_n 1, 1, [], 0, 0), (51, .iload_n 2, 1, [], 0, 0), (52, .isub, 1, [], 0, 0), (53, .istore 4, 2, [], 0, 0), (55, .iload 4, 2, [], 0, 0), (57, .aload_n 0, 1, [], 0, 0), (58, .getfield 85, 3, [], 23, 0), (61, .if_icmp .le 9, 3, [], 0, 0), (64, .aload_n 0, 1, [], 0, 0), (65, .getfield 85, 3, [], 23, 0), (68, .istore 4, 2, [], 0, 0), (70, .aload_n 0, 1, [false, false, false, false, false, true], 0, 0), (71, .iload 4, 2, [], 0, 0), (73, .invokevirtual 140, 3, [], 23, 0), (76, .iconst 0, 1, [], 0, 0), (77, .istore 5, 2, [], 0, 0), (79, .iload 5, 2, [], 0, 0), (81, .iload 4, 2, [], 0, 0), (83, .if_icmp .ge 22, 3, [], 0, 0), (86, .aload_n 0, 1, [], 0, 0), (87, .aload_n 0, 1, [], 0, 0), (88, .getfield 28, 3, [], 6, 0), (91, .iload_n 2, 1, [], 0, 0), (92, .iaload, 1, [], 0, 0), (93, .invokevirtual 140, 3, [], 23, 0), (96, .iinc 2 1, 3, [], 0, 0), (99, .iinc 5 1, 3, [], 0, 0), (102, .goto (-23), 3, [], 0, 0), (105, .iinc 3 1, 3, [], 0, 0), (108, .goto (-70), 3, [], 0, 0), (111, .aload_n 0, 1, [false, true, true, true, true, true], 0, 0), (112, .iconst 0, 1, [], 0, 0), (113, .invokevirtual 140, 3, [], 23, 0), (116, .return_, 1, [], 0, 0)])
def d_23 : MD := (⟨"LzwIndexedImage", "writeOut", "(I)V"⟩, prog_1_method_18_code, 2, none, 2, 1, 0, 0, 0, [(0, .aload_n 0, 1, [], 0, 0), (1, .getfield 88, 3, [], 24, 0), (4, .ifCond .lt 37, 3, [], 0, 0), (7, .aload_n 0, 1, [], 0, 0), (8, .getfield 88, 3, [], 24, 0), (11, .sipush 400, 3, [], 0, 0), (14, .if_icmp .ge 27, 3, [], 0, 0), (17, .aload_n 0, 1, [], 0, 0), (18, .getfield 13, 3, [], 1, 0), (21, .aload_n 0, 1, [], 0, 0), (22, .getfield 88, 3, [], 24, 0), (25, .iload_n 1, 1, [], 0, 0), (26, .sipush 255, 3, [], 0, 0), (29, .iand, 1, [], 0, 0), (30, .iastore, 1, [], 0, 0), (31, .aload_n 0, 1, [], 0, 0), (32, .dup, 1, [], 0, 0), (33, .getfield 88, 3, [], 24, 0), (36, .iconst 1, 1, [], 0, 0), (37, .iadd, 1, [], 0, 0), (38, .putfield 88, 3, [], 24, 0), (41, .return_, 1, [], 0, 0)])
def d_24 : MD := (⟨"LzwIndexedImage", "setInByte", "(II)Z"⟩, prog_1_method_23_code, 3, some .boolean, 3, 2, 0, 0, 0, [(0, .iload_n 1, 1, [], 0, 0), (1, .ifCond .lt 22, 3, [], 0, 0), (4, .iload_n 1, 1, [], 0, 0), (5, .aload_n 0, 1, [], 0, 0), (6, .getfield 91, 3, [], 25, 0), (9, .if_icmp .ge 14, 3, [], 0, 0), (12, .iload_n 2, 1, [], 0, 0), (13, .ifCond .lt 10, 3, [], 0, 0), (16, .iload_n 2, 1, [], 0, 0), (17, .sipush 255, 3, [], 0, 0), (20, .if_icmp .le 5, 3, [], 0, 0), (23, .iconst 0, 1, [], 0, 0), (24, .ireturn, 1, [], 0, 0), (25, .aload_n 0, 1, [], 0, 0), (26, .getfield 16, 3, [], 2, 0), (29, .iload_n 1, 1, [], 0, 0), (30, .iload_n 2, 1, [], 0, 0), (31, .iastore, 1, [], 0, 0), (32, .iconst 1, 1, [], 0, 0), (33, .ireturn, 1, [], 0, 0)])
def d_25 : MD := (⟨"LzwIndexedImage", "decode", "()I"⟩, prog_1_method_26_code, 4, some .int, 3, 0, 0, 5, 75, [(0, .aload_n 0, 1, [], 0, 0), (1, .invokevirtual 143, 3, [], 26, 0), (4, .istore_n 1, 1, [], 0, 0), (5, .aload_n 0, 1, [], 0, 0), (6, .iload_n 1, 1, [], 0, 0), (7, .putfield 97, 3, [], 27, 0), (10, .iload_n 1, 1, [], 0, 0), (11, .ifCond .ne 60, 3, [], 0, 0), (14, .aload_n 0, 1, [], 0, 0), (15, .invokevirtual 103, 3, [], 15, 0), (18, .iconst 0, 1, [], 0, 0), (19, .istore_n 2, 1, [], 0, 0), (20, .iload_n 2, 1, [false, false, false, true], 0, 0), (21, .aload_n 0, 1, [], 0, 0), (22, .getfield 63, 3, [], 16, 0), (25, .if_icmp .ge 38, 3, [], 0, 0), (28, .aload_n 0, 1, [], 0, 0), (29, .iload_n 2, 1, [], 0, 0), (30, .invokevirtual 106, 3, [], 16, 0), (33, .istore_n 3, 1, [], 0, 0), (34, .iload_n 3, 1, [], 0, 0), (35, .ifCond .lt 22, 3, [], 0, 0), (38, .iload_n 3, 1, [], 0, 0), (39, .sipush 256, 3, [], 0, 0), (42, .if_icmp .ge 15, 3, [], 0, 0), (45, .aload_n 0, 1, [], 0, 0), (46, .getfield 19, 3, [], 3, 0), (49, .iload_n 3, 1, [], 0, 0), (50, .aload_n 0, 1, [], 0, 0), (51, .getfield 25, 3, [], 5, 0), (54, .iload_n 2, 1, [], 0, 0), (55, .iaload, 1, [], 0, 0), (56, .iastore, 1, [], 0, 0), (57, .iinc 2 1, 3, [], 0, 0), (60, .goto (-40), 3, [], 0, 0), (63, .aload_n 0, 1, [false, false, true, true], 0, 0), (64, .iconst 1, 1, [], 0, 0), (65, .putfield 94, 3, [], 26, 0), (68, .goto 8, 3, [], 0, 0), (71, .aload_n 0, 1, [], 0, 0), (72, .iconst 0, 1, [], 0, 0), (73, .putfield 94, 3, [], 26, 0), (76, .iload_n 1, 1, [], 0, 0), (77, .ireturn, 1, [], 0, 0)])
def d_26 : MD := (⟨"LzwIndexedImage", "decodeSteps", "()I"⟩, prog_1_method_27_code, 2, some .int, 2, 0, 0, 4, 62, [(0, .aload_n 0, 1, [], 0, 0), (1, .getfield 91, 3, [], 25, 0), (4, .ifCond .ne 5, 3, [], 0, 0), (7, .iconst (-1), 1, [], 0, 0), (8, .ireturn, 1, [], 0, 0), (9, .aload_n 0, 1, [], 0, 0), (10, .getfield 16, 3, [], 2, 0), (13, .iconst 0, 1, [], 0, 0), (14, .iaload, 1, [], 0, 0), (15, .aload_n 0, 1, [], 0, 0), (16, .getfield 69, 3, [], 18, 0), (19, .if_icmp .eq 6, 3, [], 0, 0), (22, .bipush (-2), 2, [], 0, 0), (24, .ireturn, 1, [], 0, 0), (25, .aload_n 0, 1, [], 0, 0), (26, .invokevirtual 147, 3, [], 31, 0), (29, .ifCond .ne 6, 3, [], 0, 0), (32, .bipush (-3), 2, [], 0, 0), (34, .ireturn, 1, [], 0, 0), (35, .aload_n 0, 1, [], 0, 0), (36, .invokevirtual 151, 3, [], 32, 0), (39, .istore_n 1, 1, [], 0, 0), (40, .iload_n 1, 1, [], 0, 0), (41, .ifCond .eq 5, 3, [], 0, 0), (44, .iload_n 1, 1, [], 0, 0), (45, .ireturn, 1, [], 0, 0), (46, .aload_n 0, 1, [], 0, 0), (47, .getfield 154, 3, [], 36, 0), (50, .aload_n 0, 1, [], 0, 0), (51, .getfield 63, 3, [], 16, 0), (54, .if_icmp .ge 6, 3, [], 0, 0), (57, .bipush (-8), 2, [], 0, 0), (59, .ireturn, 1, [], 0, 0), (60, .iconst 0, 1, [], 0, 0), (61, .ireturn, 1, [], 0, 0)])
def d_27 : MD := (⟨"LzwIndexedImage", "getDecodedPixel", "(I)I"⟩, prog_1_method_36_code, 2, some .int, 3, 1, 0, 0, 0, [(0, .aload_n 0, 1, [], 0, 0), (1, .getfield 94, 3, [], 26, 0), (4, .ifCond .eq 15, 3, [], 0, 0), (7, .iload_n 1, 1, [], 0, 0), (8, .ifCond .lt 11, 3, [], 0, 0), (11, .iload_n 1, 1, [], 0, 0), (12, .aload_n 0, 1, [], 0, 0), (13, .getfield 63, 3, [], 16, 0), (16, .if_icmp .lt 5, 3, [], 0, 0), (19, .iconst (-1), 1, [], 0, 0), (20, .ireturn, 1, [], 0, 0), (21, .aload_n 0, 1, [], 0, 0), (22, .getfield 19, 3, [], 3, 0), (25, .iload_n 1, 1, [], 0, 0), (26, .iaload, 1, [], 0, 0), (27, .ireturn, 1, [], 0, 0)])
def d_28 : MD := (⟨"LzwIndexedImage", "putInByte", "(I)Z"⟩, prog_1_method_22_code, 2, some .boolean, 3, 1, 0, 0, 0, [(0, .iload_n 1, 1, [], 0, 0), (1, .ifCond .lt 20, 3, [], 0, 0), (4, .iload_n 1, 1, [], 0, 0), (5, .sipush 255, 3, [], 0, 0), (8, .if_icmp .gt 13, 3, [], 0, 0), (11, .aload_n 0, 1, [], 0, 0), (12, .getfield 91, 3, [], 25, 0), (15, .sipush 512, 3, [], 0, 0), (18, .if_icmp .lt 5, 3, [], 0, 0), (21, .iconst 0, 1, [], 0, 0), (22, .ireturn, 1, [], 0, 0), (23, .aload_n 0, 1, [], 0, 0), (24, .getfield 16, 3, [], 2, 0), (27, .aload_n 0, 1, [], 0, 0), (28, .getfield 91, 3, [], 25, 0), (31, .iload_n 1, 1, [], 0, 0), (32, .iastore, 1, [], 0, 0), (33, .aload_n 0, 1, [], 0, 0), (34, .dup, 1, [], 0, 0), (35, .getfield 91, 3, [], 25, 0), (38, .iconst 1, 1, [], 0, 0), (39, .iadd, 1, [], 0, 0), (40, .putfield 91, 3, [], 25, 0), (43, .iconst 1, 1, [], 0, 0), (44, .ireturn, 1, [], 0, 0)])
def d_29 : MD := (⟨"LzwIndexedImage", "clearInput", "()V"⟩, prog_1_method_21_code, 1, none, 3, 0, 0, 0, 0, [(0, .aload_n 0, 1, [], 0, 0), (1, .iconst 0, 1, [], 0, 0), (2, .putfield 91, 3, [], 25, 0), (5, .return_, 1, [], 0, 0)])
def d_30 : MD := (⟨"LzwIndexedImage", "addRows", "(III)I"⟩, prog_1_method_9_code, 6, some .int, 2, 3, 0, 0, 0, [(0, .iload_n 1, 1, [], 0, 0), (1, .istore 4, 2, [], 0, 0), (3, .iload_n 2, 1, [], 0, 0), (4, .istore 5, 2, [], 0, 0), (6, .iload 5, 2, [false, true, true], 0, 0), (8, .aload_n 0, 1, [], 0, 0), (9, .getfield 60, 3, [], 15, 0), (12, .if_icmp .ge 36, 3, [], 0, 0), (15, .iload 4, 2, [], 0, 0), (17, .ifCond .lt 19, 3, [], 0, 0), (20, .iload 4, 2, [], 0, 0), (22, .bipush 16, 2, [], 0, 0), (24, .if_icmp .ge 12, 3, [], 0, 0), (27, .aload_n 0, 1, [], 0, 0), (28, .getfield 22, 3, [], 4, 0), (31, .iload 4, 2, [], 0, 0), (33, .iload 5, 2, [], 0, 0), (35, .iastore, 1, [], 0, 0), (36, .iinc 4 1, 3, [false, true, true], 0, 0), (39, .iload 5, 2, [], 0, 0), (41, .iload_n 3, 1, [], 0, 0), (42, .iadd, 1, [], 0, 0), (43, .istore 5, 2, [], 0, 0), (45, .goto (-39), 3, [], 0, 0), (48, .iload 4, 2, [], 0, 0), (50, .ireturn, 1, [], 0, 0)])
def d_31 : MD := (⟨"LzwIndexedImage", "gatherBlocks", "()Z"⟩, prog_1_method_28_code, 5, some .boolean, 2, 0, 0, 0, 0, [(0, .aload_n 0, 1, [], 0, 0), (1, .iconst 0, 1, [], 0, 0), (2, .putfield 157, 3, [], 31, 0), (5, .iconst 1, 1, [], 0, 0), (6, .istore_n 1, 1, [], 0, 0), (7, .iconst 0, 1, [], 0, 0), (8, .istore_n 2, 1, [], 0, 0), (9, .iload_n 2, 1, [false, false, false, true, true], 0, 0), (10, .sipush 512, 3, [], 0, 0), (13, .if_icmp .gt 114, 3, [], 0, 0), (16, .iload_n 1, 1, [], 0, 0), (17, .aload_n 0, 1, [], 0, 0), (18, .getfield 91, 3, [], 25, 0), (21, .if_icmp .lt 5, 3, [], 0, 0), (24, .iconst 0, 1, [], 0, 0), (25, .ireturn, 1, [], 0, 0), (26, .aload_n 0, 1, [], 0, 0), (27, .getfield 16, 3, [], 2, 0), (30, .iload_n 1, 1, [], 0, 0), (31, .iaload, 1, [], 0, 0), (32, .istore_n 3, 1, [], 0, 0), (33, .iinc 1 1, 3, [], 0, 0), (36, .iload_n 3, 1, [], 0, 0), (37, .ifCond .ne 5, 3, [], 0, 0), (40, .iconst 1, 1, [], 0, 0), (41, .ireturn, 1, [], 0, 0), (42, .iload_n 3, 1, [], 0, 0), (43, .aload_n 0, 1, [], 0, 0), (44, .getfield 91, 3, [], 25, 0), (47, .iload_n 1, 1, [], 0, 0), (48, .isub, 1, [], 0, 0), (49, .if_icmp .le 5, 3, [], 0, 0), (52, .iconst 0, 1, [], 0, 0), (53, .ireturn, 1, [], 0, 0), (54, .iconst 0, 1, [], 0, 0), (55, .istore 4, 2, [], 0, 0), (57, .iload 4, 2, [], 0, 0), (59, .iload_n 3, 1, [], 0, 0), (60, .if_icmp .ge 57, 3, [], 0, 0), (63, .aload_n 0, 1, [], 0, 0), (64, .getfield 157, 3, [], 31, 0), (67, .sipush 512, 3, [], 0, 0), (70, .if_icmp .ge 41, 3, [], 0, 0), (73, .iload_n 1, 1, [], 0, 0), (74, .iload 4, 2, [], 0, 0), (76, .iadd, 1, [], 0, 0), (77, .sipush 512, 3, [], 0, 0), (80, .if_icmp .ge 31, 3, [], 0, 0), (83, .aload_n 0, 1, [], 0, 0), (84, .getfield 28, 3, [], 6, 0), (87, .aload_n 0, 1, [], 0, 0), (88, .getfield 157, 3, [], 31, 0), (91, .aload_n 0, 1, [], 0, 0), (92, .getfield 16, 3, [], 2, 0), (95, .iload_n 1, 1, [], 0, 0), (96, .iload 4, 2, [], 0, 0), (98, .iadd, 1, [], 0, 0), (99, .iaload, 1, [], 0, 0), (100, .iastore, 1, [], 0, 0), (101, .aload_n 0, 1, [], 0, 0), (102, .dup, 1, [], 0, 0), (103, .getfield 157, 3, [], 31, 0), (106, .iconst 1, 1, [], 0, 0), (107, .iadd, 1, [], 0, 0), (108, .putfield 157, 3, [], 31, 0), (111, .iinc 4 1, 3, [], 0, 0), (114, .goto (-57), 3, [], 0, 0), (117, .iload_n 1, 1, [false, false, false, false, true], 0, 0), (118, .iload_n 3, 1, [], 0, 0), (119, .iadd, 1, [], 0, 0), (120, .istore_n 1, 1, [], 0, 0), (121, .iinc 2 1, 3, [], 0, 0), (124, .goto (-115), 3, [], 0, 0), (127, .iconst 0, 1, [], 0, 0), (128, .ireturn, 1, [], 0, 0)])
def d_32 : MD := (⟨"LzwIndexedImage", "decompress", "()I"⟩, prog_1_method_29_code, 5, some .int, 2, 0, 0, 3, 46, [(0, .aload_n 0, 1, [], 0, 0), (1, .iconst 0, 1, [], 0, 0), (2, .putfield 160, 3, [], 32, 0), (5, .aload_n 0, 1, [], 0, 0), (6, .aload_n 0, 1, [], 0, 0), (7, .getfield 69, 3, [], 18, 0), (10, .iconst 1, 1, [], 0, 0), (11, .iadd, 1, [], 0, 0), (12, .putfield 163, 3, [], 33, 0), (15, .aload_n 0, 1, [], 0, 0), (16, .aload_n 0, 1, [], 0, 0), (17, .getfield 72, 3, [], 19, 0), (20, .iconst 2, 1, [], 0, 0), (21, .iadd, 1, [], 0, 0), (22, .putfield 166, 3, [], 34, 0), (25, .aload_n 0, 1, [], 0, 0), (26, .iconst (-1), 1, [], 0, 0), (27, .putfield 169, 3, [], 35, 0), (30, .aload_n 0, 1, [], 0, 0), (31, .iconst 0, 1, [], 0, 0), (32, .putfield 154, 3, [], 36, 0), (35, .aload_n 0, 1, [], 0, 0), (36, .getfield 157, 3, [], 31, 0), (39, .bipush 8, 2, [], 0, 0), (41, .imul, 1, [], 0, 0), (42, .istore_n 1, 1, [], 0, 0), (43, .iconst 0, 1, [], 0, 0), (44, .istore_n 2, 1, [], 0, 0), (45, .iload_n 2, 1, [false, false, false, true, true], 0, 0), (46, .sipush 5000, 3, [], 0, 0), (49, .if_icmp .ge 93, 3, [], 0, 0), (52, .iload_n 1, 1, [], 0, 0), (53, .aload_n 0, 1, [], 0, 0), (54, .getfield 160, 3, [], 32, 0), (57, .isub, 1, [], 0, 0), (58, .aload_n 0, 1, [], 0, 0), (59, .getfield 163, 3, [], 33, 0), (62, .if_icmp .ge 6, 3, [], 0, 0), (65, .bipush (-4), 2, [], 0, 0), (67, .ireturn, 1, [], 0, 0), (68, .aload_n 0, 1, [], 0, 0), (69, .invokevirtual 172, 3, [], 33, 0), (72, .istore_n 3, 1, [], 0, 0), (73, .iload_n 3, 1, [], 0, 0), (74, .aload_n 0, 1, [], 0, 0), (75, .getfield 72, 3, [], 19, 0), (78, .if_icmp .ne 31, 3, [], 0, 0), (81, .aload_n 0, 1, [], 0, 0), (82, .aload_n 0, 1, [], 0, 0), (83, .getfield 69, 3, [], 18, 0), (86, .iconst 1, 1, [], 0, 0), (87, .iadd, 1, [], 0, 0), (88, .putfield 163, 3, [], 33, 0), (91, .aload_n 0, 1, [], 0, 0), (92, .aload_n 0, 1, [], 0, 0), (93, .getfield 72, 3, [], 19, 0), (96, .iconst 2, 1, [], 0, 0), (97, .iadd, 1, [], 0, 0), (98, .putfield 166, 3, [], 34, 0), (101, .aload_n 0, 1, [], 0, 0), (102, .iconst (-1), 1, [], 0, 0), (103, .putfield 169, 3, [], 35, 0), (106, .goto 30, 3, [], 0, 0), (109, .iload_n 3, 1, [], 0, 0), (110, .aload_n 0, 1, [], 0, 0), (111, .getfield 72, 3, [], 19, 0), (114, .iconst 1, 1, [], 0, 0), (115, .iadd, 1, [], 0, 0), (116, .if_icmp .ne 5, 3, [], 0, 0), (119, .iconst 0, 1, [], 0, 0), (120, .ireturn, 1, [], 0, 0), (121, .aload_n 0, 1, [], 0, 0), (122, .iload_n 3, 1, [], 0, 0), (123, .invokevirtual 175, 3, [], 34, 0), (126, .istore 4, 2, [], 0, 0), (128, .iload 4, 2, [], 0, 0), (130, .ifCond .eq 6, 3, [], 0, 0), (133, .iload 4, 2, [], 0, 0), (135, .ireturn, 1, [], 0, 0), (136, .iinc 2 1, 3, [], 0, 0), (139, .goto (-94), 3, [], 0, 0), (142, .bipush (-4), 2, [], 0, 0), (144, .ireturn, 1, [], 0, 0)])
def d_33 : MD := (⟨"LzwIndexedImage", "readCode", "()I"⟩, prog_1_method_30_code, 5, some .int, 2, 0, 0, 0, 0, [(0, .iconst 0, 1, [], 0, 0), (1, .istore_n 1, 1, [], 0, 0), (2, .iconst 0, 1, [], 0, 0), (3, .istore_n 2, 1, [], 0, 0), (4, .iload_n 2, 1, [false, false, false, true, true], 0, 0), (5, .aload_n 0, 1, [], 0, 0), (6, .getfield 163, 3, [], 33, 0), (9, .if_icmp .ge 65, 3, [], 0, 0), (12, .aload_n 0, 1, [], 0, 0), (13, .getfield 160, 3, [], 32, 0), (16, .iconst 3, 1, [], 0, 0), (17, .ishr, 1, [], 0, 0), (18, .istore_n 3, 1, [], 0, 0), (19, .iconst 0, 1, [], 0, 0), (20, .istore 4, 2, [], 0, 0), (22, .iload_n 3, 1, [], 0, 0), (23, .ifCond .lt 28, 3, [], 0, 0), (26, .iload_n 3, 1, [], 0, 0), (27, .sipush 512, 3, [], 0, 0), (30, .if_icmp .ge 21, 3, [], 0, 0), (33, .aload_n 0, 1, [], 0, 0), (34, .getfield 28, 3, [], 6, 0), (37, .iload_n 3, 1, [], 0, 0), (38, .iaload, 1, [], 0, 0), (39, .aload_n 0, 1, [], 0, 0), (40, .getfield 160, 3, [], 32, 0), (43, .bipush 7, 2, [], 0, 0), (45, .iand, 1, [], 0, 0), (46, .ishr, 1, [], 0, 0), (47, .iconst 1, 1, [], 0, 0), (48, .iand, 1, [], 0, 0), (49, .istore 4, 2, [], 0, 0), (51, .iload_n 1, 1, [false, false, false, true], 0, 0), (52, .iload 4, 2, [], 0, 0), (54, .iload_n 2, 1, [], 0, 0), (55, .ishl, 1, [], 0, 0), (56, .ior, 1, [], 0, 0), (57, .istore_n 1, 1, [], 0, 0), (58, .aload_n 0, 1, [], 0, 0), (59, .dup, 1, [], 0, 0), (60, .getfield 160, 3, [], 32, 0), (63, .iconst 1, 1, [], 0, 0), (64, .iadd, 1, [], 0, 0), (65, .putfield 160, 3, [], 32, 0), (68, .iinc 2 1, 3, [], 0, 0), (71, .goto (-67), 3, [], 0, 0), (74, .iload_n 1, 1, [], 0, 0), (75, .ireturn, 1, [], 0, 0)])
def d_34 : MD := (⟨"LzwIndexedImage", "handleCode", "(I)I"⟩, prog_1_method_31_code, 5, some .int, 2, 1, 0, 2, 30, [(0, .aload_n 0, 1, [], 0, 0), (1, .getfield 169, 3, [], 35, 0), (4, .ifCond .ge 14, 3, [], 0, 0), (7, .iload_n 1, 1, [], 0, 0), (8, .aload_n 0, 1, [], 0, 0), (9, .getfield 72, 3, [], 19, 0), (12, .if_icmp .lt 6, 3, [], 0, 0), (15, .bipush (-5), 2, [], 0, 0), (17, .ireturn, 1, [], 0, 0), (18, .aload_n 0, 1, [false, false, true, true, true], 0, 0), (19, .getfield 169, 3, [], 35, 0), (22, .ifCond .lt 14, 3, [], 0, 0), (25, .iload_n 1, 1, [], 0, 0), (26, .aload_n 0, 1, [], 0, 0), (27, .getfield 166, 3, [], 34, 0), (30, .if_icmp .le 6, 3, [], 0, 0), (33, .bipush (-5), 2, [], 0, 0), (35, .ireturn, 1, [], 0, 0), (36, .iload_n 1, 1, [false, false, true, true, true], 0, 0), (37, .aload_n 0, 1, [], 0, 0), (38, .getfield 72, 3, [], 19, 0), (41, .if_icmp .ge 14, 3, [], 0, 0), (44, .iload_n 1, 1, [], 0, 0), (45, .aload_n 0, 1, [], 0, 0), (46, .getfield 66, 3, [], 17, 0), (49, .if_icmp .lt 6, 3, [], 0, 0), (52, .bipush (-6), 2, [], 0, 0), (54, .ireturn, 1, [], 0, 0), (55, .iload_n 1, 1, [false, false, true, true, true], 0, 0), (56, .aload_n 0, 1, [], 0, 0), (57, .getfield 166, 3, [], 34, 0), (60, .if_icmp .ge 54, 3, [], 0, 0), (63, .aload_n 0, 1, [], 0, 0), (64, .iload_n 1, 1, [], 0, 0), (65, .invokevirtual 178, 3, [], 35, 0), (68, .istore_n 3, 1, [], 0, 0), (69, .aload_n 0, 1, [], 0, 0), (70, .getfield 154, 3, [], 36, 0), (73, .iload_n 3, 1, [], 0, 0), (74, .iadd, 1, [], 0, 0), (75, .aload_n 0, 1, [], 0, 0), (76, .getfield 63, 3, [], 16, 0), (79, .if_icmp .le 6, 3, [], 0, 0), (82, .bipush (-7), 2, [], 0, 0), (84, .ireturn, 1, [], 0, 0), (85, .aload_n 0, 1, [], 0, 0), (86, .iload_n 1, 1, [], 0, 0), (87, .aload_n 0, 1, [], 0, 0), (88, .getfield 154, 3, [], 36, 0), (91, .iload_n 3, 1, [], 0, 0), (92, .invokevirtual 181, 3, [], 36, 0), (95, .aload_n 0, 1, [], 0, 0), (96, .dup, 1, [], 0, 0), (97, .getfield 154, 3, [], 36, 0), (100, .iload_n 3, 1, [], 0, 0), (101, .iadd, 1, [], 0, 0), (102, .putfield 154, 3, [], 36, 0), (105, .aload_n 0, 1, [], 0, 0), (106, .iload_n 1, 1, [], 0, 0), (107, .invokevirtual 185, 3, [], 37, 0), (110, .istore_n 2, 1, [], 0, 0), (111, .goto 95, 3, [], 0, 0), (114, .aload_n 0, 1, [], 0, 0), (115, .aload_n 0, 1, [], 0, 0), (116, .getfield 169, 3, [], 35, 0), (119, .invokevirtual 178, 3, [], 35, 0), (122, .iconst 1, 1, [], 0, 0), (123, .iadd, 1, [], 0, 0), (124, .istore_n 3, 1, [], 0, 0), (125, .aload_n 0, 1, [], 0, 0), (126, .getfield 154, 3, [], 36, 0), (129, .iload_n 3, 1, [], 0, 0), (130, .iadd, 1, [], 0, 0), (131, .aload_n 0, 1, [], 0, 0), (132, .getfield 63, 3, [], 16, 0), (135, .if_icmp .le 6, 3, [], 0, 0), (138, .bipush (-7), 2, [], 0, 0), (140, .ireturn, 1, [], 0, 0), (141, .aload_n 0, 1, [], 0, 0), (142, .aload_n 0, 1, [], 0, 0), (143, .getfield 169, 3, [], 35, 0), (146, .aload_n 0, 1, [], 0, 0), (147, .getfield 154, 3, [], 36, 0), (150, .iload_n 3, 1, [], 0, 0), (151, .iconst 1, 1, [], 0, 0), (152, .isub, 1, [], 0, 0), (153, .invokevirtual 181, 3, [], 36, 0), (156, .aload_n 0, 1, [], 0, 0), (157, .aload_n 0, 1, [], 0, 0), (158, .getfield 169, 3, [], 35, 0), (161, .invokevirtual 185, 3, [], 37, 0), (164, .istore_n 2, 1, [], 0, 0), (165, .aload_n 0, 1, [], 0, 0), (166, .getfield 154, 3, [], 36, 0), (169, .iload_n 3, 1, [], 0, 0), (170, .iadd, 1, [], 0, 0), (171, .iconst 1, 1, [], 0, 0), (172, .isub, 1, [], 0, 0), (173, .istore 4, 2, [], 0, 0), (175, .iload 4, 2, [], 0, 0), (177, .ifCond .lt 19, 3, [], 0, 0), (180, .iload 4, 2, [], 0, 0), (182, .sipush 256, 3, [], 0, 0), (185, .if_icmp .ge 11, 3, [], 0, 0), (188, .aload_n 0, 1, [], 0, 0), (189, .getfield 25, 3, [], 5, 0), (192, .iload 4, 2, [], 0, 0), (194, .iload_n 2, 1, [], 0, 0), (195, .iastore, 1, [], 0, 0), (196, .aload_n 0, 1, [false, false, false, false, true], 0, 0), (197, .dup, 1, [], 0, 0), (198, .getfield 154, 3, [], 36, 0), (201, .iload_n 3, 1, [], 0, 0), (202, .iadd, 1, [], 0, 0), (203, .putfield 154, 3, [], 36, 0), (206, .aload_n 0, 1, [false, false, false, true, true], 0, 0), (207, .getfield 169, 3, [], 35, 0), (210, .ifCond .lt 23, 3, [], 0, 0), (213, .aload_n 0, 1, [], 0, 0), (214, .getfield 166, 3, [], 34, 0), (217, .aload_n 0, 1, [], 0, 0), (218, .getfield 78, 3, [], 21, 0), (221, .if_icmp .ge 12, 3, [], 0, 0), (224, .aload_n 0, 1, [], 0, 0), (225, .aload_n 0, 1, [], 0, 0), (226, .getfield 169, 3, [], 35, 0), (229, .iload_n 2, 1, [], 0, 0), (230, .invokevirtual 188, 3, [], 38, 0), (233, .aload_n 0, 1, [false, false, true, true, true], 0, 0), (234, .iload_n 1, 1, [], 0, 0), (235, .putfield 169, 3, [], 35, 0), (238, .iconst 0, 1, [], 0, 0), (239, .ireturn, 1, [], 0, 0)])
def d_35 : MD := (⟨"LzwIndexedImage", "lengthOf", "(I)I"⟩, prog_1_method_32_code, 2, some .int, 2, 1, 0, 0, 0, [(0, .iload_n 1, 1, [], 0, 0), (1, .aload_n 0, 1, [], 0, 0), (2, .getfield 72, 3, [], 19, 0), (5, .if_icmp .ge 5, 3, [], 0, 0), (8, .iconst 1, 1, [], 0, 0), (9, .ireturn, 1, [], 0, 0), (10, .iload_n 1, 1, [], 0, 0), (11, .sipush 512, 3, [], 0, 0), (14, .if_icmp .lt 5, 3, [], 0, 0), (17, .iconst 1, 1, [], 0, 0), (18, .ireturn, 1, [], 0, 0), (19, .aload_n 0, 1, [], 0, 0), (20, .getfield 49, 3, [], 13, 0), (23, .iload_n 1, 1, [], 0, 0), (24, .iaload, 1, [], 0, 0), (25, .ireturn, 1, [], 0, 0)])
def d_36 : MD := (⟨"LzwIndexedImage", "writeString", "(III)V"⟩, prog_1_method_34_code, 8, none, 2, 3, 0, 0, 0, [(0, .iload_n 1, 1, [], 0, 0), (1, .istore 4, 2, [], 0, 0), (3, .iload_n 2, 1, [], 0, 0), (4, .iload_n 3, 1, [], 0, 0), (5, .iadd, 1, [], 0, 0), (6, .iconst 1, 1, [], 0, 0), (7, .isub, 1, [], 0, 0), (8, .istore 5, 2, [], 0, 0), (10, .iconst 0, 1, [], 0, 0), (11, .istore 6, 2, [], 0, 0), (13, .iload 6, 2, [false, true, true, false, false, false, false, true], 0, 0), (15, .iload_n 3, 1, [], 0, 0), (16, .if_icmp .ge 101, 3, [], 0, 0), (19, .iload 6, 2, [], 0, 0), (21, .sipush 512, 3, [], 0, 0), (24, .if_icmp .ge 93, 3, [], 0, 0), (27, .iload 4, 2, [], 0, 0), (29, .ifCond .lt 11, 3, [], 0, 0), (32, .iload 4, 2, [], 0, 0), (34, .sipush 512, 3, [], 0, 0), (37, .if_icmp .lt 4, 3, [], 0, 0), (40, .return_, 1, [], 0, 0), (41, .iload 4, 2, [], 0, 0), (43, .aload_n 0, 1, [], 0, 0), (44, .getfield 72, 3, [], 19, 0), (47, .if_icmp .ge 8, 3, [], 0, 0), (50, .iload 4, 2, [], 0, 0), (52, .goto 10, 3, [], 0, 0), (55, .aload_n 0, 1, [], 0, 0), (56, .getfield 43, 3, [], 11, 0), (59, .iload 4, 2, [], 0, 0), (61, .iaload, 1, [], 0, 0), (62, .istore 7, 2, [false, true, true, false, false, false, false, true], 0, 0), (64, .iload 5, 2, [], 0, 0), (66, .ifCond .lt 20, 3, [], 0, 0), (69, .iload 5, 2, [], 0, 0), (71, .sipush 256, 3, [], 0, 0), (74, .if_icmp .ge 12, 3, [], 0, 0), (77, .aload_n 0, 1, [], 0, 0), (78, .getfield 25, 3, [], 5, 0), (81, .iload 5, 2, [], 0, 0), (83, .iload 7, 2, [], 0, 0), (85, .iastore, 1, [], 0, 0), (86, .iinc 5 (-1), 3, [false, true, true, false, false, false, false, true], 0, 0), (89, .iload 4, 2, [], 0, 0), (91, .aload_n 0, 1, [], 0, 0), (92, .getfield 72, 3, [], 19, 0), (95, .if_icmp .ge 7, 3, [], 0, 0), (98, .iconst (-1), 1, [], 0, 0), (99, .goto 10, 3, [], 0, 0), (102, .aload_n 0, 1, [], 0, 0), (103, .getfield 40, 3, [], 10, 0), (106, .iload 4, 2, [], 0, 0), (108, .iaload, 1, [], 0, 0), (109, .istore 4, 2, [], 0, 0), (111, .iinc 6 1, 3, [], 0, 0), (114, .goto (-101), 3, [], 0, 0), (117, .return_, 1, [], 0, 0)])
def d_37 : MD := (⟨"LzwIndexedImage", "firstOf", "(I)I"⟩, prog_1_method_33_code, 2, some .int, 2, 1, 0, 0, 0, [(0, .iload_n 1, 1, [], 0, 0), (1, .aload_n 0, 1, [], 0, 0), (2, .getfield 72, 3, [], 19, 0), (5, .if_icmp .ge 5, 3, [], 0, 0), (8, .iload_n 1, 1, [], 0, 0), (9, .ireturn, 1, [], 0, 0), (10, .iload_n 1, 1, [], 0, 0), (11, .sipush 512, 3, [], 0, 0), (14, .if_icmp .lt 5, 3, [], 0, 0), (17, .iconst 0, 1, [], 0, 0), (18, .ireturn, 1, [], 0, 0), (19, .aload_n 0, 1, [], 0, 0), (20, .getfield 46, 3, [], 12, 0), (23, .iload_n 1, 1, [], 0, 0), (24, .iaload, 1, [], 0, 0), (25, .ireturn, 1, [], 0, 0)])
def d_38 : MD := (⟨"LzwIndexedImage", "addDecoderCode", "(II)V"⟩, prog_1_method_35_code, 4, none, 2, 2, 0, 1, 15, [(0, .aload_n 0, 1, [], 0, 0), (1, .getfield 166, 3, [], 34, 0), (4, .istore_n 3, 1, [], 0, 0), (5, .iload_n 3, 1, [], 0, 0), (6, .ifCond .lt 48, 3, [], 0, 0), (9, .iload_n 3, 1, [], 0, 0), (10, .sipush 512, 3, [], 0, 0), (13, .if_icmp .ge 41, 3, [], 0, 0), (16, .aload_n 0, 1, [], 0, 0), (17, .getfield 40, 3, [], 10, 0), (20, .iload_n 3, 1, [], 0, 0), (21, .iload_n 1, 1, [], 0, 0), (22, .iastore, 1, [], 0, 0), (23, .aload_n 0, 1, [], 0, 0), (24, .getfield 43, 3, [], 11, 0), (27, .iload_n 3, 1, [], 0, 0), (28, .iload_n 2, 1, [], 0, 0), (29, .iastore, 1, [], 0, 0), (30, .aload_n 0, 1, [], 0, 0), (31, .getfield 46, 3, [], 12, 0), (34, .iload_n 3, 1, [], 0, 0), (35, .aload_n 0, 1, [], 0, 0), (36, .iload_n 1, 1, [], 0, 0), (37, .invokevirtual 185, 3, [], 37, 0), (40, .iastore, 1, [], 0, 0), (41, .aload_n 0, 1, [], 0, 0), (42, .getfield 49, 3, [], 13, 0), (45, .iload_n 3, 1, [], 0, 0), (46, .aload_n 0, 1, [], 0, 0), (47, .iload_n 1, 1, [], 0, 0), (48, .invokevirtual 178, 3, [], 35, 0), (51, .iconst 1, 1, [], 0, 0), (52, .iadd, 1, [], 0, 0), (53, .iastore, 1, [], 0, 0), (54, .aload_n 0, 1, [false, true, true], 0, 0), (55, .iload_n 3, 1, [], 0, 0), (56, .iconst 1, 1, [], 0, 0), (57, .iadd, 1, [], 0, 0), (58, .putfield 166, 3, [], 34, 0), (61, .aload_n 0, 1, [], 0, 0), (62, .getfield 166, 3, [], 34, 0), (65, .iconst 1, 1, [], 0, 0), (66, .aload_n 0, 1, [], 0, 0), (67, .getfield 163, 3, [], 33, 0), (70, .ishl, 1, [], 0, 0), (71, .if_icmp .ne 24, 3, [], 0, 0), (74, .aload_n 0, 1, [], 0, 0), (75, .getfield 163, 3, [], 33, 0), (78, .aload_n 0, 1, [], 0, 0), (79, .getfield 75, 3, [], 20, 0), (82, .if_icmp .ge 13, 3, [], 0, 0), (85, .aload_n 0, 1, [], 0, 0), (86, .dup, 1, [], 0, 0), (87, .getfield 163, 3, [], 33, 0), (90, .iconst 1, 1, [], 0, 0), (91, .iadd, 1, [], 0, 0), (92, .putfield 163, 3, [], 33, 0), (95, .return_, 1, [], 0, 0)])
def own_P : PD := ([("LzwIndexedImage", 37, [("pixels", "[I", (.array .int), false), ("out", "[I", (.array .int), false), ("in", "[I", (.array .int), false), ("decodedPix", "[I", (.array .int), false), ("rowOrder", "[I", (.array .int), false), ("streamBuf", "[I", (.array .int), false), ("data", "[I", (.array .int), false), ("firstChild", "[I", (.array .int), false), ("nextSibling", "[I", (.array .int), false), ("childPixel", "[I", (.array .int), false), ("prefix", "[I", (.array .int), false), ("suffix", "[I", (.array .int), false), ("firstPix", "[I", (.array .int), false), ("strLen", "[I", (.array .int), false), ("width", "I", .int, false), ("height", "I", .int, false), ("total", "I", .int, false), ("palette", "I", .int, false), ("minSize", "I", .int, false), ("clearCode", "I", .int, false), ("maxWidth", "I", .int, false), ("codeLimit", "I", .int, false), ("interlaced", "Z", .boolean, false), ("blockSize", "I", .int, false), ("outLen", "I", .int, false), ("inLen", "I", .int, false), ("hasDecoded", "Z", .boolean, false), ("status", "I", .int, false), ("bitPos", "I", .int, false), ("encWidth", "I", .int, false), ("encNext", "I", .int, false), ("dataLen", "I", .int, false), ("readPos", "I", .int, false), ("decWidth", "I", .int, false), ("decNext", "I", .int, false), ("decPrev", "I", .int, false), ("decCount", "I", .int, false)])], [d_0, d_1, d_2, d_3, d_4, d_5, d_6, d_7, d_8, d_9, d_10, d_11, d_12, d_13, d_14, d_15, d_16, d_17, d_18, d_19, d_20, d_21, d_22, d_23, d_24, d_25, d_26, d_27, d_28, d_29, d_30, d_31, d_32, d_33, d_34, d_35, d_36, d_37, d_38], 1)
theorem hm_0 : own_P.mth[0]? = some d_0 := rfl
theorem hm_1 : own_P.mth[1]? = some d_1 := rfl
theorem hm_2 : own_P.mth[2]? = some d_2 := rfl
theorem hm_3 : own_P.mth[3]? = some d_3 := rfl
theorem hm_4 : own_P.mth[4]? = some d_4 := rfl
theorem hm_5 : own_P.mth[5]? = some d_5 := rfl
theorem hm_6 : own_P.mth[6]? = some d_6 := rfl
theorem hm_7 : own_P.mth[7]? = some d_7 := rfl
theorem hm_8 : own_P.mth[8]? = some d_8 := rfl
theorem hm_9 : own_P.mth[9]? = some d_9 := rfl
theorem hm_10 : own_P.mth[10]? = some d_10 := rfl
theorem hm_11 : own_P.mth[11]? = some d_11 := rfl
theorem hm_12 : own_P.mth[12]? = some d_12 := rfl
theorem hm_13 : own_P.mth[13]? = some d_13 := rfl
theorem hm_14 : own_P.mth[14]? = some d_14 := rfl
theorem hm_15 : own_P.mth[15]? = some d_15 := rfl
theorem hm_16 : own_P.mth[16]? = some d_16 := rfl
theorem hm_17 : own_P.mth[17]? = some d_17 := rfl
theorem hm_18 : own_P.mth[18]? = some d_18 := rfl
theorem hm_19 : own_P.mth[19]? = some d_19 := rfl
theorem hm_20 : own_P.mth[20]? = some d_20 := rfl
theorem hm_21 : own_P.mth[21]? = some d_21 := rfl
theorem hm_22 : own_P.mth[22]? = some d_22 := rfl
theorem hm_23 : own_P.mth[23]? = some d_23 := rfl
theorem hm_24 : own_P.mth[24]? = some d_24 := rfl
theorem hm_25 : own_P.mth[25]? = some d_25 := rfl
theorem hm_26 : own_P.mth[26]? = some d_26 := rfl
theorem hm_27 : own_P.mth[27]? = some d_27 := rfl
theorem hm_28 : own_P.mth[28]? = some d_28 := rfl
theorem hm_29 : own_P.mth[29]? = some d_29 := rfl
theorem hm_30 : own_P.mth[30]? = some d_30 := rfl
theorem hm_31 : own_P.mth[31]? = some d_31 := rfl
theorem hm_32 : own_P.mth[32]? = some d_32 := rfl
theorem hm_33 : own_P.mth[33]? = some d_33 := rfl
theorem hm_34 : own_P.mth[34]? = some d_34 := rfl
theorem hm_35 : own_P.mth[35]? = some d_35 := rfl
theorem hm_36 : own_P.mth[36]? = some d_36 := rfl
theorem hm_37 : own_P.mth[37]? = some d_37 := rfl
theorem hm_38 : own_P.mth[38]? = some d_38 := rfl
set_option maxRecDepth 100000 in
theorem own_chk : chk own_P = true := by decide +kernel
def own_ix : List Nat := [1, 2, 11, 13, 15, 17, 19, 21, 23, 25, 27, 29, 31, 33, 35, 37, 43, 45, 47, 49, 51, 53, 55, 57, 59, 61, 63, 65, 67, 69, 143, 149, 151, 210, 216, 218, 220, 222, 224, 5, 2, 4, 41, 2, 39, 40, 75, 2, 72, 74, 73, 79, 78, 77, 84, 2, 81, 83, 82, 89, 2, 86, 88, 87, 94, 2, 91, 93, 92, 99, 2, 96, 98, 97, 104, 2, 101, 103, 102, 109, 2, 106, 108, 107, 114, 2, 111, 113, 112, 119, 2, 116, 118, 117, 124, 2, 121, 123, 122, 129, 2, 126, 128, 127, 133, 2, 131, 132, 137, 2, 135, 136, 141, 2, 139, 140, 147, 2, 145, 146, 155, 2, 153, 154, 159, 2, 157, 158, 163, 2, 161, 162, 167, 2, 165, 166, 171, 2, 169, 170, 176, 2, 173, 175, 174, 181, 2, 178, 180, 179, 185, 2, 183, 184, 190, 2, 187, 189, 188, 195, 2, 192, 194, 193, 200, 2, 197, 199, 198, 204, 2, 202, 203, 208, 2, 206, 207, 214, 2, 212, 213, 228, 2, 226, 227, 232, 2, 230, 231, 236, 2, 234, 235, 240, 2, 238, 239, 244, 2, 242, 243, 248, 2, 246, 247, 0, 3, 70, 70, 70, 70, 110, 105, 115, 76, 71, 76, 125, 100, 100, 100, 196, 191, 172, 120, 177, 186, 80, 85, 90, 95, 95, 95, 100, 6, 7, 8, 9, 10, 9, 12, 9, 14, 9, 16, 9, 18, 9, 20, 9, 22, 9, 24, 9, 26, 9, 28, 9, 30, 9, 32, 9, 34, 9, 36, 38, 42, 38, 44, 42, 44, 46, 38, 48, 48, 50, 52, 38, 54, 56, 58, 60, 62, 64, 66, 68, 48, 46, 46, 10, 64, 62, 68, 46, 10, 62, 12, 38, 60, 60, 58, 46, 48, 10, 62, 14, 12, 64, 64, 130, 46, 134, 20, 10, 138, 164, 62, 58, 44, 18, 201, 201, 201, 201, 42, 42, 18, 42, 142, 56, 144, 50, 148, 52, 150, 52, 152, 20, 46, 20, 156, 152, 160, 152, 52, 152, 24, 148, 142, 142, 22, 22, 22, 142, 142, 24, 28, 26, 150, 28, 26, 24, 24, 24, 150, 150, 148, 148, 54, 148, 148, 150, 56, 52, 152, 150, 144, 50, 148, 52, 150, 142, 62, 50, 168, 60, 60, 168, 22, 168, 168, 62, 62, 12, 62, 62, 62, 64, 14, 182, 68, 130, 46, 134, 16, 20, 66, 66, 64, 14, 50, 205, 211, 223, 46, 66, 46, 16, 64, 14, 64, 64, 64, 64, 44, 18, 209, 64, 14, 64, 209, 22, 209, 14, 209, 209, 215, 50, 217, 52, 219, 221, 223, 209, 215, 217, 225, 52, 50, 217, 52, 219, 221, 52, 229, 217, 215, 22, 215, 215, 215, 221, 52, 221, 219, 52, 48, 219, 233, 223, 46, 223, 237, 223, 223, 241, 221, 233, 223, 46, 221, 223, 237, 221, 241, 223, 20, 223, 223, 221, 219, 56, 221, 245, 221, 52, 36, 52, 32, 20, 52, 30, 52, 34, 219, 30, 32, 34, 241, 36, 233, 219, 219, 217, 217, 54, 217, 217]
set_option maxRecDepth 100000 in
theorem own_words : (wordsOf own_P).map some = own_ix.map fun k => tables_1[k]? := rfl
theorem own_in : ∀ d ∈ wordsOf own_P, d ∈ tables_1 := fun d hd => by
  have h1 : some d ∈ (wordsOf own_P).map some := List.mem_map.mpr ⟨d, hd, rfl⟩
  rw [own_words] at h1
  obtain ⟨k, -, hk⟩ := List.mem_map.mp h1
  exact List.mem_of_getElem? hk
abbrev bk0 (s_pixels : List Int32) (s_out : List Int32) (s_in : List Int32) (s_decodedPix : List Int32) (s_rowOrder : List Int32) (s_streamBuf : List Int32) (s_data : List Int32) (s_firstChild : List Int32) (s_nextSibling : List Int32) (s_childPixel : List Int32) (s_prefix : List Int32) (s_suffix : List Int32) (s_firstPix : List Int32) (s_strLen : List Int32) (s_width : Int32) (s_height : Int32) (s_total : Int32) (s_palette : Int32) (s_minSize : Int32) (s_clearCode : Int32) (s_maxWidth : Int32) (s_codeLimit : Int32) (s_interlaced : Int32) (s_blockSize : Int32) (s_outLen : Int32) (s_inLen : Int32) (s_hasDecoded : Int32) (s_status : Int32) (s_bitPos : Int32) (s_encWidth : Int32) (s_encNext : Int32) (s_dataLen : Int32) (s_readPos : Int32) (s_decWidth : Int32) (s_decNext : Int32) (s_decPrev : Int32) (s_decCount : Int32) (po : List ACell) : List ACell := .inl (0, [.ref 2, .ref 3, .ref 4, .ref 5, .ref 6, .ref 7, .ref 8, .ref 9, .ref 10, .ref 11, .ref 12, .ref 13, .ref 14, .ref 15, .int s_width, .int s_height, .int s_total, .int s_palette, .int s_minSize, .int s_clearCode, .int s_maxWidth, .int s_codeLimit, .int s_interlaced, .int s_blockSize, .int s_outLen, .int s_inLen, .int s_hasDecoded, .int s_status, .int s_bitPos, .int s_encWidth, .int s_encNext, .int s_dataLen, .int s_readPos, .int s_decWidth, .int s_decNext, .int s_decPrev, .int s_decCount]) :: .inr (.inl (false, s_pixels)) :: .inr (.inl (false, s_out)) :: .inr (.inl (false, s_in)) :: .inr (.inl (false, s_decodedPix)) :: .inr (.inl (false, s_rowOrder)) :: .inr (.inl (false, s_streamBuf)) :: .inr (.inl (false, s_data)) :: .inr (.inl (false, s_firstChild)) :: .inr (.inl (false, s_nextSibling)) :: .inr (.inl (false, s_childPixel)) :: .inr (.inl (false, s_prefix)) :: .inr (.inl (false, s_suffix)) :: .inr (.inl (false, s_firstPix)) :: .inr (.inl (false, s_strLen)) :: po
def f_clamp (v1 v2 v3 : Int32) : Option (Int32) :=
  some (if v1 < v2 then v2 else (if v3 < v1 then v3 else v1))
def f_init_259 (zag zy zw zai zz zh zc zaa zab zae zo zm zu zt : List Int32) (zv zx zb zl zg za zd zf zah zaf zp zn zaj zak ze zr zs zac zad zj zi zq zk v6 : Int32) : Option (List Int32 × List Int32 × List Int32 × List Int32 × List Int32 × List Int32 × List Int32 × List Int32 × List Int32 × List Int32 × List Int32 × List Int32 × List Int32 × List Int32 × Int32 × Int32 × Int32 × Int32 × Int32 × Int32 × Int32 × Int32 × Int32 × Int32 × Int32 × Int32 × Int32 × Int32 × Int32 × Int32 × Int32 × Int32 × Int32 × Int32 × Int32 × Int32 × Int32) :=
  some (zag, zy, zw, zai, zz, zh, zc, zaa, zab, zae, zo, zm, zu, zt, zv, zx, zb, zl, zg, za, v6, ((1 : Int32) <<< (v6 &&& 31)), (0 : Int32), (255 : Int32), (0 : Int32), (0 : Int32), (0 : Int32), (1 : Int32), ze, zr, zs, zac, zad, zj, zi, zq, zk)
def f_init_219 (zag zy zw zai zz zh zc zaa zab zae zo zm zu zt : List Int32) (zv zx zb zl zg za zd zf zah zaf zp zn zaj zak ze zr zs zac zad zj zi zq zk v4 v5 : Int32) : Option (List Int32 × List Int32 × List Int32 × List Int32 × List Int32 × List Int32 × List Int32 × List Int32 × List Int32 × List Int32 × List Int32 × List Int32 × List Int32 × List Int32 × Int32 × Int32 × Int32 × Int32 × Int32 × Int32 × Int32 × Int32 × Int32 × Int32 × Int32 × Int32 × Int32 × Int32 × Int32 × Int32 × Int32 × Int32 × Int32 × Int32 × Int32 × Int32 × Int32) :=
  (f_clamp v4 (3 : Int32) (9 : Int32)).bind fun r4 =>
  f_init_259 zag zy zw zai zz zh zc zaa zab zae zo zm zu zt zv zx zb zl v5 ((1 : Int32) <<< (v5 &&& 31)) zd zf zah zaf zp zn zaj zak ze zr zs zac zad zj zi zq zk (if r4 < (v5 + (1 : Int32)) then (v5 + (1 : Int32)) else r4)
def f_init_185 (k219 : List Int32 → List Int32 → List Int32 → List Int32 → List Int32 → List Int32 → List Int32 → List Int32 → List Int32 → List Int32 → List Int32 → List Int32 → List Int32 → List Int32 → Int32 → Int32 → Int32 → Int32 → Int32 → Int32 → Int32 → Int32 → Int32 → Int32 → Int32 → Int32 → Int32 → Int32 → Int32 → Int32 → Int32 → Int32 → Int32 → Int32 → Int32 → Int32 → Int32 → Int32 → Int32 → Option (List Int32 × List Int32 × List Int32 × List Int32 × List Int32 × List Int32 × List Int32 × List Int32 × List Int32 × List Int32 × List Int32 × List Int32 × List Int32 × List Int32 × Int32 × Int32 × Int32 × Int32 × Int32 × Int32 × Int32 × Int32 × Int32 × Int32 × Int32 × Int32 × Int32 × Int32 × Int32 × Int32 × Int32 × Int32 × Int32 × Int32 × Int32 × Int32 × Int32)) : Nat → List Int32 → List Int32 → List Int32 → List Int32 → List Int32 → List Int32 → List Int32 → List Int32 → List Int32 → List Int32 → List Int32 → List Int32 → List Int32 → List Int32 → Int32 → Int32 → Int32 → Int32 → Int32 → Int32 → Int32 → Int32 → Int32 → Int32 → Int32 → Int32 → Int32 → Int32 → Int32 → Int32 → Int32 → Int32 → Int32 → Int32 → Int32 → Int32 → Int32 → Int32 → Int32 → Int32 → Option (List Int32 × List Int32 × List Int32 × List Int32 × List Int32 × List Int32 × List Int32 × List Int32 × List Int32 × List Int32 × List Int32 × List Int32 × List Int32 × List Int32 × Int32 × Int32 × Int32 × Int32 × Int32 × Int32 × Int32 × Int32 × Int32 × Int32 × Int32 × Int32 × Int32 × Int32 × Int32 × Int32 × Int32 × Int32 × Int32 × Int32 × Int32 × Int32 × Int32)
  | 0, _, _, _, _, _, _, _, _, _, _, _, _, _, _, _, _, _, _, _, _, _, _, _, _, _, _, _, _, _, _, _, _, _, _, _, _, _, _, _, _ => none
  | n + 1, zag, zy, zw, zai, zz, zh, zc, zaa, zab, zae, zo, zm, zu, zt, zv, zx, zb, zl, zg, za, zd, zf, zah, zaf, zp, zn, zaj, zak, ze, zr, zs, zac, zad, zj, zi, zq, zk, v4, v5, v6 =>
    if v6 < (8 : Int32) then
      if ((1 : Int32) <<< (v5 &&& 31)) < zl then
        if v5 < (8 : Int32) then
          f_init_185 k219 n zag zy zw zai zz zh zc zaa zab zae zo zm zu zt zv zx zb zl zg za zd zf zah zaf zp zn zaj zak ze zr zs zac zad zj zi zq zk v4 (v5 + (1 : Int32)) (v6 + (1 : Int32))
        else
          k219 zag zy zw zai zz zh zc zaa zab zae zo zm zu zt zv zx zb zl zg za zd zf zah zaf zp zn zaj zak ze zr zs zac zad zj zi zq zk v4 v5
      else
        k219 zag zy zw zai zz zh zc zaa zab zae zo zm zu zt zv zx zb zl zg za zd zf zah zaf zp zn zaj zak ze zr zs zac zad zj zi zq zk v4 v5
    else
      k219 zag zy zw zai zz zh zc zaa zab zae zo zm zu zt zv zx zb zl zg za zd zf zah zaf zp zn zaj zak ze zr zs zac zad zj zi zq zk v4 v5
def f_init (v1 v2 v3 v4 : Int32) : Option (List Int32 × List Int32 × List Int32 × List Int32 × List Int32 × List Int32 × List Int32 × List Int32 × List Int32 × List Int32 × List Int32 × List Int32 × List Int32 × List Int32 × Int32 × Int32 × Int32 × Int32 × Int32 × Int32 × Int32 × Int32 × Int32 × Int32 × Int32 × Int32 × Int32 × Int32 × Int32 × Int32 × Int32 × Int32 × Int32 × Int32 × Int32 × Int32 × Int32) :=
  (f_clamp v1 (1 : Int32) (16 : Int32)).bind fun r1 =>
  (f_clamp v2 (1 : Int32) (16 : Int32)).bind fun r2 =>
  (f_clamp v3 (2 : Int32) (256 : Int32)).bind fun r3 =>
  f_init_185 f_init_219 100000 (List.replicate 256 0) (List.replicate 400 0) (List.replicate 512 0) (List.replicate 256 0) (List.replicate 16 0) (List.replicate 256 0) (List.replicate 512 0) (List.replicate 512 0) (List.replicate 512 0) (List.replicate 512 0) (List.replicate 512 0) (List.replicate 512 0) (List.replicate 512 0) (List.replicate 512 0) r1 r2 (r1 * r2) r3 (0 : Int32) (0 : Int32) (0 : Int32) (0 : Int32) (0 : Int32) (0 : Int32) (0 : Int32) (0 : Int32) (0 : Int32) (0 : Int32) (0 : Int32) (0 : Int32) (0 : Int32) (0 : Int32) (0 : Int32) (0 : Int32) (0 : Int32) (0 : Int32) (0 : Int32) v4 (2 : Int32) (0 : Int32)
def f_setInterlaced (zah v1 : Int32) : Option (Int32) :=
  if v1 = 0 ∨ v1 = 1 then
    some v1
  else none
def f_setBlockSize (zaf v1 : Int32) : Option (Int32 × Int32) :=
  (f_clamp v1 (4 : Int32) (255 : Int32)).bind fun r5 =>
  some (r5, r5)
def f_setPixel (zb zl : Int32) (zag : List Int32) (v1 v2 : Int32) : Option (Int32 × List Int32) :=
  if v1 < (0 : Int32) then
    some ((0 : Int32), zag)
  else
    if v1 < zb then
      if v2 < (0 : Int32) then
        some ((0 : Int32), zag)
      else
        if v2 < zl then
          (wrA zag v1 v2).bind fun A6 =>
          some ((1 : Int32), A6)
        else
          some ((0 : Int32), zag)
    else
      some ((0 : Int32), zag)
def f_L_put (v0 v1 v2 : Int32) : Option (Int32) :=
  some ((v0 &&& (((3 : Int32) <<< (((2 : Int32) * v1) &&& 31)) ^^^ (-1 : Int32))) ||| (v2 <<< (((2 : Int32) * v1) &&& 31)))
def f_fill_46 (zb zl : Int32) : Nat → List Int32 → Int32 → Int32 → Int32 → Int32 → Option (Int32 × List Int32)
  | 0, _, _, _, _, _ => none
  | n + 1, zag, v1, v2, v3, v4 =>
    if v4 < (v1 + v2) then
      if v4 < (256 : Int32) then
        (wrA zag v4 v3).bind fun A7 =>
        f_fill_46 zb zl n A7 v1 v2 v3 (v4 + (1 : Int32))
      else
        some ((1 : Int32), zag)
    else
      some ((1 : Int32), zag)
def f_fill (zb zl : Int32) (zag : List Int32) (v1 v2 v3 : Int32) : Option (Int32 × List Int32) :=
  if v3 < (0 : Int32) then
    some ((0 : Int32), zag)
  else
    if v3 < zl then
      if v1 < (0 : Int32) then
        some ((0 : Int32), zag)
      else
        if v1 < zb then
          if v2 < (1 : Int32) then
            some ((0 : Int32), zag)
          else
            if (zb - v1) < v2 then
              some ((0 : Int32), zag)
            else
              f_fill_46 zb zl 100000 zag v1 v2 v3 v1
        else
          some ((0 : Int32), zag)
    else
      some ((0 : Int32), zag)
def f_addRows_36 (kb : List Int32 → Int32 → Int32 → Int32 → Option (Int32 × List Int32)) (zx : Int32) (zz : List Int32) (v3 v4 v5 : Int32) : Option (Int32 × List Int32) :=
  kb zz v3 (v4 + (1 : Int32)) (v5 + v3)
def f_addRows_6 (zx : Int32) : Nat → List Int32 → Int32 → Int32 → Int32 → Option (Int32 × List Int32)
  | 0, _, _, _, _ => none
  | n + 1, zz, v3, v4, v5 =>
    if v5 < zx then
      if v4 < (0 : Int32) then
        f_addRows_36 (f_addRows_6 zx n) zx zz v3 v4 v5
      else
        if v4 < (16 : Int32) then
          (wrA zz v4 v5).bind fun A8 =>
          f_addRows_36 (f_addRows_6 zx n) zx A8 v3 v4 v5
        else
          f_addRows_36 (f_addRows_6 zx n) zx zz v3 v4 v5
    else
      some (v4, zz)
def f_addRows (zx : Int32) (zz : List Int32) (v1 v2 v3 : Int32) : Option (Int32 × List Int32) :=
  f_addRows_6 zx 100000 zz v3 v1 v2
def f_buildRowOrder_9 (zx zah : Int32) : Nat → List Int32 → Int32 → Option (List Int32)
  | 0, _, _ => none
  | n + 1, zz, v1 =>
    if v1 < zx then
      if v1 < (16 : Int32) then
        (wrA zz v1 v1).bind fun A17 =>
        f_buildRowOrder_9 zx zah n A17 (v1 + (1 : Int32))
      else
        some zz
    else
      some zz
def f_buildRowOrder (zx zah : Int32) (zz : List Int32) : Option (List Int32) :=
  if zah = (0 : Int32) then
    f_buildRowOrder_9 zx zah 100000 zz (0 : Int32)
  else
    (f_addRows zx zz (0 : Int32) (0 : Int32) (8 : Int32)).bind fun (r9, s10) =>
    (f_addRows zx s10 r9 (4 : Int32) (8 : Int32)).bind fun (r11, s12) =>
    (f_addRows zx s12 r11 (2 : Int32) (4 : Int32)).bind fun (r13, s14) =>
    (f_addRows zx s14 r13 (1 : Int32) (2 : Int32)).bind fun (r15, s16) =>
    some s16
def f_rasterOf (zz : List Int32) (zv v1 : Int32) : Option (Int32) :=
  if zv = 0 then none else
  if zv = 0 then none else
  if (v1 / zv) < (0 : Int32) then
    some (0 : Int32)
  else
    if (v1 / zv) < (16 : Int32) then
      (rdA zz (v1 / zv)).bind fun x18 =>
      some ((x18 * zv) + (v1 % zv))
    else
      some (0 : Int32)
def f_resetEncoderTable_2 : Nat → List Int32 → Int32 → Int32 → Option (List Int32)
  | 0, _, _, _ => none
  | n + 1, zaa, v1, v2 =>
    if v2 < v1 then
      if v2 < (512 : Int32) then
        (wrA zaa v2 (-1 : Int32)).bind fun A19 =>
        f_resetEncoderTable_2 n A19 v1 (v2 + (1 : Int32))
      else
        some zaa
    else
      some zaa
def f_resetEncoderTable (zaa : List Int32) (v1 : Int32) : Option (List Int32) :=
  f_resetEncoderTable_2 100000 zaa v1 (0 : Int32)
def f_putCode_74 (kb : List Int32 → Int32 → Int32 → Int32 → Option (List Int32 × Int32)) (zr : Int32) (zc : List Int32) (ze v1 v2 : Int32) : Option (List Int32 × Int32) :=
  kb zc (ze + (1 : Int32)) v1 (v2 + (1 : Int32))
def f_putCode_49 (kb : List Int32 → Int32 → Int32 → Int32 → Option (List Int32 × Int32)) (zr : Int32) (zc : List Int32) (ze v1 v2 v3 v4 : Int32) : Option (List Int32 × Int32) :=
  if ((v1 >>> (v2 &&& 31)) &&& (1 : Int32)) = (0 : Int32) then
    f_putCode_74 kb zr zc ze v1 v2
  else
    (rdA zc v3).bind fun x21 =>
    (wrA zc v3 (x21 ||| ((1 : Int32) <<< (v4 &&& 31)))).bind fun A22 =>
    f_putCode_74 kb zr A22 ze v1 v2
def f_putCode_2 (zr : Int32) : Nat → List Int32 → Int32 → Int32 → Int32 → Option (List Int32 × Int32)
  | 0, _, _, _, _ => none
  | n + 1, zc, ze, v1, v2 =>
    if v2 < zr then
      if (ze >>> ((3 : Int32) &&& 31)) < (0 : Int32) then
        f_putCode_74 (f_putCode_2 zr n) zr zc ze v1 v2
      else
        if (ze >>> ((3 : Int32) &&& 31)) < (512 : Int32) then
          if (ze &&& (7 : Int32)) = (0 : Int32) then
            (wrA zc (ze >>> ((3 : Int32) &&& 31)) (0 : Int32)).bind fun A20 =>
            f_putCode_49 (f_putCode_2 zr n) zr A20 ze v1 v2 (ze >>> ((3 : Int32) &&& 31)) (ze &&& (7 : Int32))
          else
            f_putCode_49 (f_putCode_2 zr n) zr zc ze v1 v2 (ze >>> ((3 : Int32) &&& 31)) (ze &&& (7 : Int32))
        else
          f_putCode_74 (f_putCode_2 zr n) zr zc ze v1 v2
    else
      some (zc, ze)
def f_putCode (zr : Int32) (zc : List Int32) (ze v1 : Int32) : Option (List Int32 × Int32) :=
  f_putCode_2 zr 100000 zc ze v1 (0 : Int32)
def f_findChild_23 (zaa zab zae : List Int32) : Nat → Int32 → Int32 → Int32 → Option (Int32)
  | 0, _, _, _ => none
  | n + 1, v2, v3, v4 =>
    if v4 < (512 : Int32) then
      if v3 < (0 : Int32) then
        some (-1 : Int32)
      else
        if v3 < (512 : Int32) then
          (rdA zae v3).bind fun x24 =>
          if x24 = v2 then
            some v3
          else
            (rdA zab v3).bind fun x25 =>
            f_findChild_23 zaa zab zae n v2 x25 (v4 + (1 : Int32))
        else
          some (-1 : Int32)
    else
      some (-1 : Int32)
def f_findChild (zaa zab zae : List Int32) (v1 v2 : Int32) : Option (Int32) :=
  if v1 < (0 : Int32) then
    some (-1 : Int32)
  else
    if v1 < (512 : Int32) then
      (rdA zaa v1).bind fun x23 =>
      f_findChild_23 zaa zab zae 100000 v2 x23 (0 : Int32)
    else
      some (-1 : Int32)
def f_addEncoderCode_101 (zg za zd zf : Int32) (zc zaa zab zae : List Int32) (ze zr zs : Int32) : Option (List Int32 × List Int32 × List Int32 × List Int32 × Int32 × Int32 × Int32) :=
  if zs = zf then
    (f_putCode zr zc ze za).bind fun (s31, s32) =>
    (f_resetEncoderTable zaa zs).bind fun s33 =>
    some (s31, s33, zab, zae, s32, (zg + (1 : Int32)), (za + (2 : Int32)))
  else
    some (zc, zaa, zab, zae, ze, zr, zs)
def f_addEncoderCode_60 (zg za zd zf : Int32) (zc zaa zab zae : List Int32) (ze zr zs v3 : Int32) : Option (List Int32 × List Int32 × List Int32 × List Int32 × Int32 × Int32 × Int32) :=
  f_addEncoderCode_101 zg za zd zf zc zaa zab zae ze (if ((1 : Int32) <<< (zr &&& 31)) < (v3 + (1 : Int32)) then (if zr < zd then (zr + (1 : Int32)) else zr) else zr) (v3 + (1 : Int32))
def f_addEncoderCode (zg za zd zf : Int32) (zc zaa zab zae : List Int32) (ze zr zs v1 v2 : Int32) : Option (List Int32 × List Int32 × List Int32 × List Int32 × Int32 × Int32 × Int32) :=
  if zs < (0 : Int32) then
    f_addEncoderCode_60 zg za zd zf zc zaa zab zae ze zr zs zs
  else
    if zs < (512 : Int32) then
      if v1 < (0 : Int32) then
        f_addEncoderCode_60 zg za zd zf zc zaa zab zae ze zr zs zs
      else
        if v1 < (512 : Int32) then
          (wrA zae zs v2).bind fun A26 =>
          (rdA zaa v1).bind fun x27 =>
          (wrA zab zs x27).bind fun A28 =>
          (wrA zaa v1 zs).bind fun A29 =>
          (wrA A29 zs (-1 : Int32)).bind fun A30 =>
          f_addEncoderCode_60 zg za zd zf zc A30 A28 A26 ze zr zs zs
        else
          f_addEncoderCode_60 zg za zd zf zc zaa zab zae ze zr zs zs
    else
      f_addEncoderCode_60 zg za zd zf zc zaa zab zae ze zr zs zs
def f_compress_103 (zh : List Int32) (zb zg za zd zf : Int32) (zc zaa zab zae : List Int32) (ze zr zs v1 : Int32) : Option (List Int32 × List Int32 × List Int32 × List Int32 × Int32 × Int32 × Int32) :=
  (f_putCode zr zc ze v1).bind fun (s49, s50) =>
  (f_putCode zr s49 s50 (za + (1 : Int32))).bind fun (s51, s52) =>
  some (s51, zaa, zab, zae, s52, zr, zs)
def f_compress_50 (k103 : List Int32 → List Int32 → List Int32 → List Int32 → Int32 → Int32 → Int32 → Int32 → Option (List Int32 × List Int32 × List Int32 × List Int32 × Int32 × Int32 × Int32)) (zh : List Int32) (zb zg za zd zf : Int32) : Nat → List Int32 → List Int32 → List Int32 → List Int32 → Int32 → Int32 → Int32 → Int32 → Int32 → Option (List Int32 × List Int32 × List Int32 × List Int32 × Int32 × Int32 × Int32)
  | 0, _, _, _, _, _, _, _, _, _ => none
  | n + 1, zc, zaa, zab, zae, ze, zr, zs, v1, v2 =>
    if v2 < zb then
      (rdA zh v2).bind fun x38 =>
      (f_findChild zaa zab zae v1 x38).bind fun r39 =>
      if r39 < (0 : Int32) then
        (f_putCode zr zc ze v1).bind fun (s40, s41) =>
        (f_addEncoderCode zg za zd zf s40 zaa zab zae s41 zr zs v1 x38).bind fun (s42, s43, s44, s45, s46, s47, s48) =>
        f_compress_50 k103 zh zb zg za zd zf n s42 s43 s44 s45 s46 s47 s48 x38 (v2 + (1 : Int32))
      else
        f_compress_50 k103 zh zb zg za zd zf n zc zaa zab zae ze zr zs r39 (v2 + (1 : Int32))
    else
      k103 zc zaa zab zae ze zr zs v1
def f_compress (zh : List Int32) (zb zg za zd zf : Int32) (zc zaa zab zae : List Int32) (ze zr zs : Int32) : Option (List Int32 × List Int32 × List Int32 × List Int32 × Int32 × Int32 × Int32) :=
  (f_resetEncoderTable zaa zf).bind fun s34 =>
  (f_putCode (zg + (1 : Int32)) zc (0 : Int32) za).bind fun (s35, s36) =>
  (rdA zh (0 : Int32)).bind fun x37 =>
  f_compress_50 (f_compress_103 zh zb zg za zd zf) zh zb zg za zd zf 100000 s35 s34 zab zae s36 (zg + (1 : Int32)) (za + (2 : Int32)) x37 (1 : Int32)
def f_writeOut (zy : List Int32) (zp v1 : Int32) : Option (List Int32 × Int32) :=
  if zp < (0 : Int32) then
    some (zy, zp)
  else
    if zp < (400 : Int32) then
      (wrA zy zp (v1 &&& (255 : Int32))).bind fun A53 =>
      some (A53, (zp + (1 : Int32)))
    else
      some (zy, zp)
def f_packBlocks_111 (zc : List Int32) (zg zaf ze : Int32) (zy : List Int32) (zp : Int32) : Option (List Int32 × Int32) :=
  (f_writeOut zy zp (0 : Int32)).bind fun (s61, s62) =>
  some (s61, s62)
def f_packBlocks_79 (k38 : List Int32 → Int32 → Int32 → Int32 → Int32 → Option (List Int32 × Int32)) (zc : List Int32) (zg zaf ze : Int32) : Nat → List Int32 → Int32 → Int32 → Int32 → Int32 → Int32 → Int32 → Option (List Int32 × Int32)
  | 0, _, _, _, _, _, _, _ => none
  | n + 1, zy, zp, v1, v2, v3, v4, v5 =>
    if v5 < v4 then
      (rdA zc v2).bind fun x58 =>
      (f_writeOut zy zp x58).bind fun (s59, s60) =>
      f_packBlocks_79 k38 zc zg zaf ze n s59 s60 v1 (v2 + (1 : Int32)) v3 v4 (v5 + (1 : Int32))
    else
      k38 zy zp v1 v2 (v3 + (1 : Int32))
def f_packBlocks_70 (kb : List Int32 → Int32 → Int32 → Int32 → Int32 → Option (List Int32 × Int32)) (k111 : List Int32 → Int32 → Option (List Int32 × Int32)) (zc : List Int32) (zg zaf ze : Int32) (zy : List Int32) (zp v1 v2 v3 v4 : Int32) : Option (List Int32 × Int32) :=
  (f_writeOut zy zp v4).bind fun (s56, s57) =>
  f_packBlocks_79 kb zc zg zaf ze 100000 s56 s57 v1 v2 v3 v4 (0 : Int32)
def f_packBlocks_38 (k111 : List Int32 → Int32 → Option (List Int32 × Int32)) (zc : List Int32) (zg zaf ze : Int32) : Nat → List Int32 → Int32 → Int32 → Int32 → Int32 → Option (List Int32 × Int32)
  | 0, _, _, _, _, _ => none
  | n + 1, zy, zp, v1, v2, v3 =>
    if v3 < (512 : Int32) then
      if v2 < v1 then
        f_packBlocks_70 (f_packBlocks_38 k111 zc zg zaf ze n) k111 zc zg zaf ze zy zp v1 v2 v3 (if zaf < (v1 - v2) then zaf else (v1 - v2))
      else
        k111 zy zp
    else
      k111 zy zp
def f_packBlocks_21 (zc : List Int32) (zg zaf ze : Int32) (zy : List Int32) (zp v1 : Int32) : Option (List Int32 × Int32) :=
  (f_writeOut zy (0 : Int32) zg).bind fun (s54, s55) =>
  f_packBlocks_38 (f_packBlocks_111 zc zg zaf ze) zc zg zaf ze 100000 s54 s55 v1 (0 : Int32) (0 : Int32)
def f_packBlocks (zc : List Int32) (zg zaf ze : Int32) (zy : List Int32) (zp : Int32) : Option (List Int32 × Int32) :=
  f_packBlocks_21 zc zg zaf ze zy zp (if (512 : Int32) < ((ze + (7 : Int32)) >>> ((3 : Int32) &&& 31)) then (512 : Int32) else ((ze + (7 : Int32)) >>> ((3 : Int32) &&& 31)))
def f_encode_49 (zag : List Int32) (zv zx zb zg za zd zf zah zaf : Int32) (zy zz zh zc zaa zab zae : List Int32) (zp ze zr zs : Int32) : Option (Int32 × List Int32 × List Int32 × List Int32 × List Int32 × List Int32 × List Int32 × List Int32 × Int32 × Int32 × Int32 × Int32) :=
  (f_compress zh zb zg za zd zf zc zaa zab zae ze zr zs).bind fun (s67, s68, s69, s70, s71, s72, s73) =>
  (f_packBlocks s67 zg zaf s71 zy zp).bind fun (s74, s75) =>
  some (s75, s74, zz, zh, s67, s68, s69, s70, s75, s71, s72, s73)
def f_encode_6 (k49 : List Int32 → List Int32 → List Int32 → List Int32 → List Int32 → List Int32 → List Int32 → Int32 → Int32 → Int32 → Int32 → Option (Int32 × List Int32 × List Int32 × List Int32 × List Int32 × List Int32 × List Int32 × List Int32 × Int32 × Int32 × Int32 × Int32)) (zag : List Int32) (zv zx zb zg za zd zf zah zaf : Int32) : Nat → List Int32 → List Int32 → List Int32 → List Int32 → List Int32 → List Int32 → List Int32 → Int32 → Int32 → Int32 → Int32 → Int32 → Option (Int32 × List Int32 × List Int32 × List Int32 × List Int32 × List Int32 × List Int32 × List Int32 × Int32 × Int32 × Int32 × Int32)
  | 0, _, _, _, _, _, _, _, _, _, _, _, _ => none
  | n + 1, zy, zz, zh, zc, zaa, zab, zae, zp, ze, zr, zs, v1 =>
    if v1 < zb then
      (f_rasterOf zz zv v1).bind fun r64 =>
      if r64 < (0 : Int32) then
        f_encode_6 k49 zag zv zx zb zg za zd zf zah zaf n zy zz zh zc zaa zab zae zp ze zr zs (v1 + (1 : Int32))
      else
        if r64 < (256 : Int32) then
          (rdA zag r64).bind fun x65 =>
          (wrA zh v1 x65).bind fun A66 =>
          f_encode_6 k49 zag zv zx zb zg za zd zf zah zaf n zy zz A66 zc zaa zab zae zp ze zr zs (v1 + (1 : Int32))
        else
          f_encode_6 k49 zag zv zx zb zg za zd zf zah zaf n zy zz zh zc zaa zab zae zp ze zr zs (v1 + (1 : Int32))
    else
      k49 zy zz zh zc zaa zab zae zp ze zr zs
def f_encode (zag : List Int32) (zv zx zb zg za zd zf zah zaf : Int32) (zy zz zh zc zaa zab zae : List Int32) (zp ze zr zs : Int32) : Option (Int32 × List Int32 × List Int32 × List Int32 × List Int32 × List Int32 × List Int32 × List Int32 × Int32 × Int32 × Int32 × Int32) :=
  (f_buildRowOrder zx zah zz).bind fun s63 =>
  f_encode_6 (f_encode_49 zag zv zx zb zg za zd zf zah zaf) zag zv zx zb zg za zd zf zah zaf 100000 zy s63 zh zc zaa zab zae zp ze zr zs (0 : Int32)
def f_getOutByte (zy : List Int32) (zp v1 : Int32) : Option (Int32) :=
  if v1 < (0 : Int32) then
    some (-1 : Int32)
  else
    if v1 < zp then
      (rdA zy v1).bind fun x76 =>
      some x76
    else
      some (-1 : Int32)
def f_clearInput (zn : Int32) : Option (Int32) :=
  some (0 : Int32)
def f_putInByte (zw : List Int32) (zn v1 : Int32) : Option (Int32 × List Int32 × Int32) :=
  if v1 < (0 : Int32) then
    some ((0 : Int32), zw, zn)
  else
    if (255 : Int32) < v1 then
      some ((0 : Int32), zw, zn)
    else
      if zn < (512 : Int32) then
        (wrA zw zn v1).bind fun A77 =>
        some ((1 : Int32), A77, (zn + (1 : Int32)))
      else
        some ((0 : Int32), zw, zn)
def f_setInByte (zn : Int32) (zw : List Int32) (v1 v2 : Int32) : Option (Int32 × List Int32) :=
  if v1 < (0 : Int32) then
    some ((0 : Int32), zw)
  else
    if v1 < zn then
      if v2 < (0 : Int32) then
        some ((0 : Int32), zw)
      else
        if (255 : Int32) < v2 then
          some ((0 : Int32), zw)
        else
          (wrA zw v1 v2).bind fun A78 =>
          some ((1 : Int32), A78)
    else
      some ((0 : Int32), zw)
def f_loadInFromOut_40 (zy : List Int32) (zp : Int32) (zw : List Int32) (zn v1 : Int32) : Option (Int32 × List Int32 × Int32) :=
  some (v1, zw, v1)
def f_loadInFromOut_4 (k40 : List Int32 → Int32 → Int32 → Option (Int32 × List Int32 × Int32)) (zy : List Int32) (zp : Int32) : Nat → List Int32 → Int32 → Int32 → Int32 → Option (Int32 × List Int32 × Int32)
  | 0, _, _, _, _ => none
  | n + 1, zw, zn, v1, v2 =>
    if v2 < zp then
      if v2 < (512 : Int32) then
        (rdA zy v2).bind fun x79 =>
        (wrA zw v2 x79).bind fun A80 =>
        f_loadInFromOut_4 k40 zy zp n A80 zn (v1 + (1 : Int32)) (v2 + (1 : Int32))
      else
        k40 zw zn v1
    else
      k40 zw zn v1
def f_loadInFromOut (zy : List Int32) (zp : Int32) (zw : List Int32) (zn : Int32) : Option (Int32 × List Int32 × Int32) :=
  f_loadInFromOut_4 (f_loadInFromOut_40 zy zp) zy zp 100000 zw zn (0 : Int32) (0 : Int32)
def f_gatherBlocks_117 (kb : List Int32 → Int32 → Int32 → Int32 → Option (Int32 × List Int32 × Int32)) (zw : List Int32) (zn : Int32) (zc : List Int32) (zac v1 v2 v3 : Int32) : Option (Int32 × List Int32 × Int32) :=
  kb zc zac (v1 + v3) (v2 + (1 : Int32))
def f_gatherBlocks_57 (k117 : List Int32 → Int32 → Int32 → Int32 → Int32 → Option (Int32 × List Int32 × Int32)) (zw : List Int32) (zn : Int32) : Nat → List Int32 → Int32 → Int32 → Int32 → Int32 → Int32 → Option (Int32 × List Int32 × Int32)
  | 0, _, _, _, _, _, _ => none
  | n + 1, zc, zac, v1, v2, v3, v4 =>
    if v4 < v3 then
      if zac < (512 : Int32) then
        if (v1 + v4) < (512 : Int32) then
          (rdA zw (v1 + v4)).bind fun x82 =>
          (wrA zc zac x82).bind fun A83 =>
          f_gatherBlocks_57 k117 zw zn n A83 (zac + (1 : Int32)) v1 v2 v3 (v4 + (1 : Int32))
        else
          f_gatherBlocks_57 k117 zw zn n zc zac v1 v2 v3 (v4 + (1 : Int32))
      else
        f_gatherBlocks_57 k117 zw zn n zc zac v1 v2 v3 (v4 + (1 : Int32))
    else
      k117 zc zac v1 v2 v3
def f_gatherBlocks_9 (zw : List Int32) (zn : Int32) : Nat → List Int32 → Int32 → Int32 → Int32 → Option (Int32 × List Int32 × Int32)
  | 0, _, _, _, _ => none
  | n + 1, zc, zac, v1, v2 =>
    if (512 : Int32) < v2 then
      some ((0 : Int32), zc, zac)
    else
      if v1 < zn then
        (rdA zw v1).bind fun x81 =>
        if x81 = (0 : Int32) then
          some ((1 : Int32), zc, zac)
        else
          if (zn - (v1 + (1 : Int32))) < x81 then
            some ((0 : Int32), zc, zac)
          else
            f_gatherBlocks_57 (f_gatherBlocks_117 (f_gatherBlocks_9 zw zn n) zw zn) zw zn 100000 zc zac (v1 + (1 : Int32)) v2 x81 (0 : Int32)
      else
        some ((0 : Int32), zc, zac)
def f_gatherBlocks (zw : List Int32) (zn : Int32) (zc : List Int32) (zac : Int32) : Option (Int32 × List Int32 × Int32) :=
  f_gatherBlocks_9 zw zn 100000 zc (0 : Int32) (1 : Int32) (0 : Int32)
def f_readCode_51 (kb : Int32 → Int32 → Int32 → Option (Int32 × Int32)) (zc : List Int32) (zj zad v1 v2 v4 : Int32) : Option (Int32 × Int32) :=
  kb (zad + (1 : Int32)) (v1 ||| (v4 <<< (v2 &&& 31))) (v2 + (1 : Int32))
def f_readCode_4 (zc : List Int32) (zj : Int32) : Nat → Int32 → Int32 → Int32 → Option (Int32 × Int32)
  | 0, _, _, _ => none
  | n + 1, zad, v1, v2 =>
    if v2 < zj then
      if (zad >>> ((3 : Int32) &&& 31)) < (0 : Int32) then
        f_readCode_51 (f_readCode_4 zc zj n) zc zj zad v1 v2 (0 : Int32)
      else
        if (zad >>> ((3 : Int32) &&& 31)) < (512 : Int32) then
          (rdA zc (zad >>> ((3 : Int32) &&& 31))).bind fun x84 =>
          f_readCode_51 (f_readCode_4 zc zj n) zc zj zad v1 v2 ((x84 >>> ((zad &&& (7 : Int32)) &&& 31)) &&& (1 : Int32))
        else
          f_readCode_51 (f_readCode_4 zc zj n) zc zj zad v1 v2 (0 : Int32)
    else
      some (v1, zad)
def f_readCode (zc : List Int32) (zj zad : Int32) : Option (Int32 × Int32) :=
  f_readCode_4 zc zj 100000 zad (0 : Int32) (0 : Int32)
def f_lengthOf (zt : List Int32) (za v1 : Int32) : Option (Int32) :=
  if v1 < za then
    some (1 : Int32)
  else
    if v1 < (512 : Int32) then
      (rdA zt v1).bind fun x85 =>
      some x85
    else
      some (1 : Int32)
def f_writeString_86 (kb : List Int32 → Int32 → Int32 → Int32 → Int32 → Option (List Int32)) (zo zm : List Int32) (za : Int32) (zh : List Int32) (v3 v4 v5 v6 : Int32) : Option (List Int32) :=
  if v4 < za then
    kb zh v3 (-1 : Int32) (v5 + (-1 : Int32)) (v6 + (1 : Int32))
  else
    (rdA zo v4).bind fun x88 =>
    kb zh v3 x88 (v5 + (-1 : Int32)) (v6 + (1 : Int32))
def f_writeString_62 (kb : List Int32 → Int32 → Int32 → Int32 → Int32 → Option (List Int32)) (zo zm : List Int32) (za : Int32) (zh : List Int32) (v3 v4 v5 v6 t0 : Int32) : Option (List Int32) :=
  if v5 < (0 : Int32) then
    f_writeString_86 kb zo zm za zh v3 v4 v5 v6
  else
    if v5 < (256 : Int32) then
      (wrA zh v5 t0).bind fun A87 =>
      f_writeString_86 kb zo zm za A87 v3 v4 v5 v6
    else
      f_writeString_86 kb zo zm za zh v3 v4 v5 v6
def f_writeString_13 (zo zm : List Int32) (za : Int32) : Nat → List Int32 → Int32 → Int32 → Int32 → Int32 → Option (List Int32)
  | 0, _, _, _, _, _ => none
  | n + 1, zh, v3, v4, v5, v6 =>
    if v6 < v3 then
      if v6 < (512 : Int32) then
        if v4 < (0 : Int32) then
          some zh
        else
          if v4 < (512 : Int32) then
            if v4 < za then
              f_writeString_62 (f_writeString_13 zo zm za n) zo zm za zh v3 v4 v5 v6 v4
            else
              (rdA zm v4).bind fun x86 =>
              f_writeString_62 (f_writeString_13 zo zm za n) zo zm za zh v3 v4 v5 v6 x86
          else
            some zh
      else
        some zh
    else
      some zh
def f_writeString (zo zm : List Int32) (za : Int32) (zh : List Int32) (v1 v2 v3 : Int32) : Option (List Int32) :=
  f_writeString_13 zo zm za 100000 zh v3 v1 ((v2 + v3) - (1 : Int32)) (0 : Int32)
def f_firstOf (zu : List Int32) (za v1 : Int32) : Option (Int32) :=
  if v1 < za then
    some v1
  else
    if v1 < (512 : Int32) then
      (rdA zu v1).bind fun x89 =>
      some x89
    else
      some (0 : Int32)
def f_addDecoderCode_54 (za zd : Int32) (zo zm zu zt : List Int32) (zj zi v3 : Int32) : Option (List Int32 × List Int32 × List Int32 × List Int32 × Int32 × Int32) :=
  some (zo, zm, zu, zt, (if (v3 + (1 : Int32)) = ((1 : Int32) <<< (zj &&& 31)) then (if zj < zd then (zj + (1 : Int32)) else zj) else zj), (v3 + (1 : Int32)))
def f_addDecoderCode (za zd : Int32) (zo zm zu zt : List Int32) (zj zi v1 v2 : Int32) : Option (List Int32 × List Int32 × List Int32 × List Int32 × Int32 × Int32) :=
  if zi < (0 : Int32) then
    f_addDecoderCode_54 za zd zo zm zu zt zj zi zi
  else
    if zi < (512 : Int32) then
      (wrA zo zi v1).bind fun A90 =>
      (wrA zm zi v2).bind fun A91 =>
      (f_firstOf zu za v1).bind fun r92 =>
      (wrA zu zi r92).bind fun A93 =>
      (f_lengthOf zt za v1).bind fun r94 =>
      (wrA zt zi (r94 + (1 : Int32))).bind fun A95 =>
      f_addDecoderCode_54 za zd A90 A91 A93 A95 zj zi zi
    else
      f_addDecoderCode_54 za zd zo zm zu zt zj zi zi
def f_handleCode_233 (zb zl za zd zf : Int32) (zh zo zm zu zt : List Int32) (zj zi zq zk v1 : Int32) : Option (Int32 × List Int32 × List Int32 × List Int32 × List Int32 × List Int32 × Int32 × Int32 × Int32 × Int32) :=
  some ((0 : Int32), zh, zo, zm, zu, zt, zj, zi, v1, zk)
def f_handleCode_206 (zb zl za zd zf : Int32) (zh zo zm zu zt : List Int32) (zj zi zq zk v1 v2 : Int32) : Option (Int32 × List Int32 × List Int32 × List Int32 × List Int32 × List Int32 × Int32 × Int32 × Int32 × Int32) :=
  if zq < (0 : Int32) then
    f_handleCode_233 zb zl za zd zf zh zo zm zu zt zj zi zq zk v1
  else
    if zi < zf then
      (f_addDecoderCode za zd zo zm zu zt zj zi zq v2).bind fun (s103, s104, s105, s106, s107, s108) =>
      f_handleCode_233 zb zl za zd zf zh s103 s104 s105 s106 s107 s108 zq zk v1
    else
      f_handleCode_233 zb zl za zd zf zh zo zm zu zt zj zi zq zk v1
def f_handleCode_196 (zb zl za zd zf : Int32) (zh zo zm zu zt : List Int32) (zj zi zq zk v1 v2 v3 : Int32) : Option (Int32 × List Int32 × List Int32 × List Int32 × List Int32 × List Int32 × Int32 × Int32 × Int32 × Int32) :=
  f_handleCode_206 zb zl za zd zf zh zo zm zu zt zj zi zq (zk + v3) v1 v2
def f_handleCode_55 (zb zl za zd zf : Int32) (zh zo zm zu zt : List Int32) (zj zi zq zk v1 : Int32) : Option (Int32 × List Int32 × List Int32 × List Int32 × List Int32 × List Int32 × Int32 × Int32 × Int32 × Int32) :=
  if v1 < zi then
    (f_lengthOf zt za v1).bind fun r100 =>
    if zb < (zk + r100) then
      some ((-7 : Int32), zh, zo, zm, zu, zt, zj, zi, zq, zk)
    else
      (f_writeString zo zm za zh v1 zk r100).bind fun s101 =>
      (f_firstOf zu za v1).bind fun r102 =>
      f_handleCode_206 zb zl za zd zf s101 zo zm zu zt zj zi zq (zk + r100) v1 r102
  else
    (f_lengthOf zt za zq).bind fun r96 =>
    if zb < (zk + (r96 + (1 : Int32))) then
      some ((-7 : Int32), zh, zo, zm, zu, zt, zj, zi, zq, zk)
    else
      (f_writeString zo zm za zh zq zk ((r96 + (1 : Int32)) - (1 : Int32))).bind fun s97 =>
      (f_firstOf zu za zq).bind fun r98 =>
      if ((zk + (r96 + (1 : Int32))) - (1 : Int32)) < (0 : Int32) then
        f_handleCode_196 zb zl za zd zf s97 zo zm zu zt zj zi zq zk v1 r98 (r96 + (1 : Int32))
      else
        if ((zk + (r96 + (1 : Int32))) - (1 : Int32)) < (256 : Int32) then
          (wrA s97 ((zk + (r96 + (1 : Int32))) - (1 : Int32)) r98).bind fun A99 =>
          f_handleCode_196 zb zl za zd zf A99 zo zm zu zt zj zi zq zk v1 r98 (r96 + (1 : Int32))
        else
          f_handleCode_196 zb zl za zd zf s97 zo zm zu zt zj zi zq zk v1 r98 (r96 + (1 : Int32))
def f_handleCode_36 (zb zl za zd zf : Int32) (zh zo zm zu zt : List Int32) (zj zi zq zk v1 : Int32) : Option (Int32 × List Int32 × List Int32 × List Int32 × List Int32 × List Int32 × Int32 × Int32 × Int32 × Int32) :=
  if v1 < za then
    if v1 < zl then
      f_handleCode_55 zb zl za zd zf zh zo zm zu zt zj zi zq zk v1
    else
      some ((-6 : Int32), zh, zo, zm, zu, zt, zj, zi, zq, zk)
  else
    f_handleCode_55 zb zl za zd zf zh zo zm zu zt zj zi zq zk v1
def f_handleCode_18 (zb zl za zd zf : Int32) (zh zo zm zu zt : List Int32) (zj zi zq zk v1 : Int32) : Option (Int32 × List Int32 × List Int32 × List Int32 × List Int32 × List Int32 × Int32 × Int32 × Int32 × Int32) :=
  if zq < (0 : Int32) then
    f_handleCode_36 zb zl za zd zf zh zo zm zu zt zj zi zq zk v1
  else
    if zi < v1 then
      some ((-5 : Int32), zh, zo, zm, zu, zt, zj, zi, zq, zk)
    else
      f_handleCode_36 zb zl za zd zf zh zo zm zu zt zj zi zq zk v1
def f_handleCode (zb zl za zd zf : Int32) (zh zo zm zu zt : List Int32) (zj zi zq zk v1 : Int32) : Option (Int32 × List Int32 × List Int32 × List Int32 × List Int32 × List Int32 × Int32 × Int32 × Int32 × Int32) :=
  if zq < (0 : Int32) then
    if v1 < za then
      f_handleCode_18 zb zl za zd zf zh zo zm zu zt zj zi zq zk v1
    else
      some ((-5 : Int32), zh, zo, zm, zu, zt, zj, zi, zq, zk)
  else
    f_handleCode_18 zb zl za zd zf zh zo zm zu zt zj zi zq zk v1
def f_decompress_45 (zc : List Int32) (zb zl zg za zd zf zac : Int32) : Nat → List Int32 → List Int32 → List Int32 → List Int32 → List Int32 → Int32 → Int32 → Int32 → Int32 → Int32 → Int32 → Int32 → Option (Int32 × List Int32 × List Int32 × List Int32 × List Int32 × List Int32 × Int32 × Int32 × Int32 × Int32 × Int32)
  | 0, _, _, _, _, _, _, _, _, _, _, _, _ => none
  | n + 1, zh, zo, zm, zu, zt, zad, zj, zi, zq, zk, v1, v2 =>
    if v2 < (5000 : Int32) then
      if (v1 - zad) < zj then
        some ((-4 : Int32), zh, zo, zm, zu, zt, zad, zj, zi, zq, zk)
      else
        (f_readCode zc zj zad).bind fun (r109, s110) =>
        if r109 = za then
          f_decompress_45 zc zb zl zg za zd zf zac n zh zo zm zu zt s110 (zg + (1 : Int32)) (za + (2 : Int32)) (-1 : Int32) zk v1 (v2 + (1 : Int32))
        else
          if r109 = (za + (1 : Int32)) then
            some ((0 : Int32), zh, zo, zm, zu, zt, s110, zj, zi, zq, zk)
          else
            (f_handleCode zb zl za zd zf zh zo zm zu zt zj zi zq zk r109).bind fun (r111, s112, s113, s114, s115, s116, s117, s118, s119, s120) =>
            if r111 = (0 : Int32) then
              f_decompress_45 zc zb zl zg za zd zf zac n s112 s113 s114 s115 s116 s110 s117 s118 s119 s120 v1 (v2 + (1 : Int32))
            else
              some (r111, s112, s113, s114, s115, s116, s110, s117, s118, s119, s120)
    else
      some ((-4 : Int32), zh, zo, zm, zu, zt, zad, zj, zi, zq, zk)
def f_decompress (zc : List Int32) (zb zl zg za zd zf zac : Int32) (zh zo zm zu zt : List Int32) (zad zj zi zq zk : Int32) : Option (Int32 × List Int32 × List Int32 × List Int32 × List Int32 × List Int32 × Int32 × Int32 × Int32 × Int32 × Int32) :=
  f_decompress_45 zc zb zl zg za zd zf zac 100000 zh zo zm zu zt (0 : Int32) (zg + (1 : Int32)) (za + (2 : Int32)) (-1 : Int32) (0 : Int32) (zac * (8 : Int32)) (0 : Int32)
def f_decodeSteps (zw : List Int32) (zb zl zg za zd zf zn : Int32) (zh zc zo zm zu zt : List Int32) (zac zad zj zi zq zk : Int32) : Option (Int32 × List Int32 × List Int32 × List Int32 × List Int32 × List Int32 × List Int32 × Int32 × Int32 × Int32 × Int32 × Int32 × Int32) :=
  if zn = (0 : Int32) then
    some ((-1 : Int32), zh, zc, zo, zm, zu, zt, zac, zad, zj, zi, zq, zk)
  else
    (rdA zw (0 : Int32)).bind fun x121 =>
    if x121 = zg then
      (f_gatherBlocks zw zn zc zac).bind fun (r122, s123, s124) =>
      if r122 = (0 : Int32) then
        some ((-3 : Int32), zh, s123, zo, zm, zu, zt, s124, zad, zj, zi, zq, zk)
      else
        (f_decompress s123 zb zl zg za zd zf s124 zh zo zm zu zt zad zj zi zq zk).bind fun (r125, s126, s127, s128, s129, s130, s131, s132, s133, s134, s135) =>
        some ((if r125 = (0 : Int32) then (if s135 < zb then (-8 : Int32) else (0 : Int32)) else r125), s126, s123, s127, s128, s129, s130, s124, s131, s132, s133, s134, s135)
    else
      some ((-2 : Int32), zh, zc, zo, zm, zu, zt, zac, zad, zj, zi, zq, zk)
def f_decode_63 (zw : List Int32) (zv zx zb zl zg za zd zf zah zn : Int32) (zai zz zh zc zo zm zu zt : List Int32) (zaj zak zac zad zj zi zq zk v1 : Int32) : Option (Int32 × List Int32 × List Int32 × List Int32 × List Int32 × List Int32 × List Int32 × List Int32 × List Int32 × Int32 × Int32 × Int32 × Int32 × Int32 × Int32 × Int32 × Int32) :=
  some (v1, zai, zz, zh, zc, zo, zm, zu, zt, (1 : Int32), zak, zac, zad, zj, zi, zq, zk)
def f_decode_20 (k63 : List Int32 → List Int32 → List Int32 → List Int32 → List Int32 → List Int32 → List Int32 → List Int32 → Int32 → Int32 → Int32 → Int32 → Int32 → Int32 → Int32 → Int32 → Int32 → Option (Int32 × List Int32 × List Int32 × List Int32 × List Int32 × List Int32 × List Int32 × List Int32 × List Int32 × Int32 × Int32 × Int32 × Int32 × Int32 × Int32 × Int32 × Int32)) (zw : List Int32) (zv zx zb zl zg za zd zf zah zn : Int32) : Nat → List Int32 → List Int32 → List Int32 → List Int32 → List Int32 → List Int32 → List Int32 → List Int32 → Int32 → Int32 → Int32 → Int32 → Int32 → Int32 → Int32 → Int32 → Int32 → Int32 → Option (Int32 × List Int32 × List Int32 × List Int32 × List Int32 × List Int32 × List Int32 × List Int32 × List Int32 × Int32 × Int32 × Int32 × Int32 × Int32 × Int32 × Int32 × Int32)
  | 0, _, _, _, _, _, _, _, _, _, _, _, _, _, _, _, _, _, _ => none
  | n + 1, zai, zz, zh, zc, zo, zm, zu, zt, zaj, zak, zac, zad, zj, zi, zq, zk, v1, v2 =>
    if v2 < zb then
      (f_rasterOf zz zv v2).bind fun r150 =>
      if r150 < (0 : Int32) then
        f_decode_20 k63 zw zv zx zb zl zg za zd zf zah zn n zai zz zh zc zo zm zu zt zaj zak zac zad zj zi zq zk v1 (v2 + (1 : Int32))
      else
        if r150 < (256 : Int32) then
          (rdA zh v2).bind fun x151 =>
          (wrA zai r150 x151).bind fun A152 =>
          f_decode_20 k63 zw zv zx zb zl zg za zd zf zah zn n A152 zz zh zc zo zm zu zt zaj zak zac zad zj zi zq zk v1 (v2 + (1 : Int32))
        else
          f_decode_20 k63 zw zv zx zb zl zg za zd zf zah zn n zai zz zh zc zo zm zu zt zaj zak zac zad zj zi zq zk v1 (v2 + (1 : Int32))
    else
      k63 zai zz zh zc zo zm zu zt zaj zak zac zad zj zi zq zk v1
def f_decode (zw : List Int32) (zv zx zb zl zg za zd zf zah zn : Int32) (zai zz zh zc zo zm zu zt : List Int32) (zaj zak zac zad zj zi zq zk : Int32) : Option (Int32 × List Int32 × List Int32 × List Int32 × List Int32 × List Int32 × List Int32 × List Int32 × List Int32 × Int32 × Int32 × Int32 × Int32 × Int32 × Int32 × Int32 × Int32) :=
  (f_decodeSteps zw zb zl zg za zd zf zn zh zc zo zm zu zt zac zad zj zi zq zk).bind fun (r136, s137, s138, s139, s140, s141, s142, s143, s144, s145, s146, s147, s148) =>
  if r136 = (0 : Int32) then
    (f_buildRowOrder zx zah zz).bind fun s149 =>
    f_decode_20 (f_decode_63 zw zv zx zb zl zg za zd zf zah zn) zw zv zx zb zl zg za zd zf zah zn 100000 zai s149 s137 s138 s139 s140 s141 s142 zaj r136 s143 s144 s145 s146 s147 s148 r136 (0 : Int32)
  else
    some (r136, zai, zz, s137, s138, s139, s140, s141, s142, (0 : Int32), r136, s143, s144, s145, s146, s147, s148)
def f_getDecodedPixel (zai : List Int32) (zb zaj v1 : Int32) : Option (Int32) :=
  if zaj = (0 : Int32) then
    some (-1 : Int32)
  else
    if v1 < (0 : Int32) then
      some (-1 : Int32)
    else
      if v1 < zb then
        (rdA zai v1).bind fun x153 =>
        some x153
      else
        some (-1 : Int32)
def f_getInLength (zn : Int32) : Option (Int32) :=
  some zn
def f_getOutLength (zp : Int32) : Option (Int32) :=
  some zp
def f_getStatus (zak : Int32) : Option (Int32) :=
  some zak
def f_getPixel (zag : List Int32) (zb v1 : Int32) : Option (Int32) :=
  if v1 < (0 : Int32) then
    some (-1 : Int32)
  else
    if v1 < zb then
      (rdA zag v1).bind fun x154 =>
      some x154
    else
      some (-1 : Int32)
def f_L_law_767 (kb : List Int32 → List Int32 → List Int32 → List Int32 → List Int32 → List Int32 → List Int32 → List Int32 → List Int32 → List Int32 → List Int32 → List Int32 → List Int32 → List Int32 → Int32 → Int32 → Int32 → Int32 → Int32 → Int32 → Int32 → Int32 → Int32 → Int32 → Int32 → Int32 → Int32 → Int32 → Int32 → Int32 → Int32 → Int32 → Int32 → Int32 → Int32 → Int32 → Int32 → Int32 → Int32 → Int32 → Int32 → Int32 → Int32 → Option (Int32)) (scr zaw zbm zba zax zbt zbu zbv zbn zbo zbp zbb zbc zbd zbe : List Int32) (zan zao zal zam zap zaq zar zas zat zau zbl zav zay zaz zbq zbr zbs zbf zbg zbh zbi zbj zbk v2 v3 v4 v5 v6 v7 : Int32) : Option (Int32) :=
  (f_getPixel zaw zal (8 : Int32)).bind fun r250 =>
  if r250 = (-1 : Int32) then
    (f_getPixel zaw zal (-1 : Int32)).bind fun r251 =>
    if r251 = (-1 : Int32) then
      (f_getOutByte zbm zbl v4).bind fun r252 =>
      if r252 = (-1 : Int32) then
        kb zaw zbm zba zax zbt zbu zbv zbn zbo zbp zbb zbc zbd zbe zan zao zal zam zap zaq zar zas zat zau zbl zav zay zaz zbq zbr zbs zbf zbg zbh zbi zbj zbk v2 v3 v4 v5 v6 (v7 + (1 : Int32))
      else
        some (0 : Int32)
    else
      some (0 : Int32)
  else
    some (0 : Int32)
def f_L_law_735 (k767 : List Int32 → List Int32 → List Int32 → List Int32 → List Int32 → List Int32 → List Int32 → List Int32 → List Int32 → List Int32 → List Int32 → List Int32 → List Int32 → List Int32 → Int32 → Int32 → Int32 → Int32 → Int32 → Int32 → Int32 → Int32 → Int32 → Int32 → Int32 → Int32 → Int32 → Int32 → Int32 → Int32 → Int32 → Int32 → Int32 → Int32 → Int32 → Int32 → Int32 → Int32 → Int32 → Int32 → Int32 → Int32 → Int32 → Option (Int32)) (scr : List Int32) : Nat → List Int32 → List Int32 → List Int32 → List Int32 → List Int32 → List Int32 → List Int32 → List Int32 → List Int32 → List Int32 → List Int32 → List Int32 → List Int32 → List Int32 → Int32 → Int32 → Int32 → Int32 → Int32 → Int32 → Int32 → Int32 → Int32 → Int32 → Int32 → Int32 → Int32 → Int32 → Int32 → Int32 → Int32 → Int32 → Int32 → Int32 → Int32 → Int32 → Int32 → Int32 → Int32 → Int32 → Int32 → Int32 → Int32 → Int32 → Option (Int32)
  | 0, _, _, _, _, _, _, _, _, _, _, _, _, _, _, _, _, _, _, _, _, _, _, _, _, _, _, _, _, _, _, _, _, _, _, _, _, _, _, _, _, _, _, _, _ => none
  | n + 1, zaw, zbm, zba, zax, zbt, zbu, zbv, zbn, zbo, zbp, zbb, zbc, zbd, zbe, zan, zao, zal, zam, zap, zaq, zar, zas, zat, zau, zbl, zav, zay, zaz, zbq, zbr, zbs, zbf, zbg, zbh, zbi, zbj, zbk, v2, v3, v4, v5, v6, v7, v12 =>
    if v12 < (8 : Int32) then
      (f_getPixel zaw zal v12).bind fun r249 =>
      if r249 = ((XT.ushr v2 ((2 : Int32) * v12)) &&& (3 : Int32)) then
        f_L_law_735 k767 scr n zaw zbm zba zax zbt zbu zbv zbn zbo zbp zbb zbc zbd zbe zan zao zal zam zap zaq zar zas zat zau zbl zav zay zaz zbq zbr zbs zbf zbg zbh zbi zbj zbk v2 v3 v4 v5 v6 v7 (v12 + (1 : Int32))
      else
        some (0 : Int32)
    else
      k767 zaw zbm zba zax zbt zbu zbv zbn zbo zbp zbb zbc zbd zbe zan zao zal zam zap zaq zar zas zat zau zbl zav zay zaz zbq zbr zbs zbf zbg zbh zbi zbj zbk v2 v3 v4 v5 v6 v7
def f_L_law_702 (kb : List Int32 → List Int32 → List Int32 → List Int32 → List Int32 → List Int32 → List Int32 → List Int32 → List Int32 → List Int32 → List Int32 → List Int32 → List Int32 → List Int32 → Int32 → Int32 → Int32 → Int32 → Int32 → Int32 → Int32 → Int32 → Int32 → Int32 → Int32 → Int32 → Int32 → Int32 → Int32 → Int32 → Int32 → Int32 → Int32 → Int32 → Int32 → Int32 → Int32 → Int32 → Int32 → Int32 → Int32 → Int32 → Int32 → Option (Int32)) (scr zaw zbm zba zax zbt zbu zbv zbn zbo zbp zbb zbc zbd zbe : List Int32) (zan zao zal zam zap zaq zar zas zat zau zbl zav zay zaz zbq zbr zbs zbf zbg zbh zbi zbj zbk v2 v3 v4 v5 v6 v7 : Int32) : Option (Int32) :=
  (f_getInLength zav).bind fun r246 =>
  if r246 = v3 then
    (f_getOutLength zbl).bind fun r247 =>
    if r247 = v4 then
      (f_getStatus zaz).bind fun r248 =>
      if r248 = v5 then
        f_L_law_735 (f_L_law_767 kb scr) scr 100000 zaw zbm zba zax zbt zbu zbv zbn zbo zbp zbb zbc zbd zbe zan zao zal zam zap zaq zar zas zat zau zbl zav zay zaz zbq zbr zbs zbf zbg zbh zbi zbj zbk v2 v3 v4 v5 v6 v7 (0 : Int32)
      else
        some (0 : Int32)
    else
      some (0 : Int32)
  else
    some (0 : Int32)
def f_L_law_684 (kb : List Int32 → List Int32 → List Int32 → List Int32 → List Int32 → List Int32 → List Int32 → List Int32 → List Int32 → List Int32 → List Int32 → List Int32 → List Int32 → List Int32 → Int32 → Int32 → Int32 → Int32 → Int32 → Int32 → Int32 → Int32 → Int32 → Int32 → Int32 → Int32 → Int32 → Int32 → Int32 → Int32 → Int32 → Int32 → Int32 → Int32 → Int32 → Int32 → Int32 → Int32 → Int32 → Int32 → Int32 → Int32 → Int32 → Option (Int32)) (scr zaw zbm zba zax zbt zbu zbv zbn zbo zbp zbb zbc zbd zbe : List Int32) (zan zao zal zam zap zaq zar zas zat zau zbl zav zay zaz zbq zbr zbs zbf zbg zbh zbi zbj zbk v2 v3 v4 v5 v6 v7 v12 v13 : Int32) : Option (Int32) :=
  if v12 = (0 : Int32) then
    if v13 < (0 : Int32) then
      some (0 : Int32)
    else
      if (3 : Int32) < v13 then
        some (0 : Int32)
      else
        f_L_law_702 kb scr zaw zbm zba zax zbt zbu zbv zbn zbo zbp zbb zbc zbd zbe zan zao zal zam zap zaq zar zas zat zau zbl zav zay zaz zbq zbr zbs zbf zbg zbh zbi zbj zbk v2 v3 v4 v5 v6 v7
  else
    f_L_law_702 kb scr zaw zbm zba zax zbt zbu zbv zbn zbo zbp zbb zbc zbd zbe zan zao zal zam zap zaq zar zas zat zau zbl zav zay zaz zbq zbr zbs zbf zbg zbh zbi zbj zbk v2 v3 v4 v5 v6 v7
def f_L_law_664 (kb : List Int32 → List Int32 → List Int32 → List Int32 → List Int32 → List Int32 → List Int32 → List Int32 → List Int32 → List Int32 → List Int32 → List Int32 → List Int32 → List Int32 → Int32 → Int32 → Int32 → Int32 → Int32 → Int32 → Int32 → Int32 → Int32 → Int32 → Int32 → Int32 → Int32 → Int32 → Int32 → Int32 → Int32 → Int32 → Int32 → Int32 → Int32 → Int32 → Int32 → Int32 → Int32 → Int32 → Int32 → Int32 → Int32 → Option (Int32)) (scr zaw zbm zba zax zbt zbu zbv zbn zbo zbp zbb zbc zbd zbe : List Int32) (zan zao zal zam zap zaq zar zas zat zau zbl zav zay zaz zbq zbr zbs zbf zbg zbh zbi zbj zbk v2 v3 v4 v5 v6 v7 v12 : Int32) : Option (Int32) :=
  (f_getDecodedPixel zax zal zay (0 : Int32)).bind fun r253 =>
  if v12 = (0 : Int32) then
    f_L_law_684 kb scr zaw zbm zba zax zbt zbu zbv zbn zbo zbp zbb zbc zbd zbe zan zao zal zam zap zaq zar zas zat zau zbl zav zay zaz zbq zbr zbs zbf zbg zbh zbi zbj zbk v2 v3 v4 v5 v6 v7 v12 r253
  else
    if r253 = (-1 : Int32) then
      f_L_law_684 kb scr zaw zbm zba zax zbt zbu zbv zbn zbo zbp zbb zbc zbd zbe zan zao zal zam zap zaq zar zas zat zau zbl zav zay zaz zbq zbr zbs zbf zbg zbh zbi zbj zbk v2 v3 v4 v5 v6 v7 v12 r253
    else
      some (0 : Int32)
def f_L_law_576 (kb : List Int32 → List Int32 → List Int32 → List Int32 → List Int32 → List Int32 → List Int32 → List Int32 → List Int32 → List Int32 → List Int32 → List Int32 → List Int32 → List Int32 → Int32 → Int32 → Int32 → Int32 → Int32 → Int32 → Int32 → Int32 → Int32 → Int32 → Int32 → Int32 → Int32 → Int32 → Int32 → Int32 → Int32 → Int32 → Int32 → Int32 → Int32 → Int32 → Int32 → Int32 → Int32 → Int32 → Int32 → Int32 → Int32 → Option (Int32)) (scr zaw zbm zba zax zbt zbu zbv zbn zbo zbp zbb zbc zbd zbe : List Int32) (zan zao zal zam zap zaq zar zas zat zau zbl zav zay zaz zbq zbr zbs zbf zbg zbh zbi zbj zbk v2 v3 v4 v5 v6 v7 v12 v13 t0 : Int32) : Option (Int32) :=
  (f_setInByte zav zba v12 v13).bind fun (r244, s245) =>
  if r244 = t0 then
    f_L_law_702 kb scr zaw zbm s245 zax zbt zbu zbv zbn zbo zbp zbb zbc zbd zbe zan zao zal zam zap zaq zar zas zat zau zbl zav zay zaz zbq zbr zbs zbf zbg zbh zbi zbj zbk v2 v3 v4 v5 v6 v7
  else
    some (0 : Int32)
def f_L_law_504 (kb : List Int32 → List Int32 → List Int32 → List Int32 → List Int32 → List Int32 → List Int32 → List Int32 → List Int32 → List Int32 → List Int32 → List Int32 → List Int32 → List Int32 → Int32 → Int32 → Int32 → Int32 → Int32 → Int32 → Int32 → Int32 → Int32 → Int32 → Int32 → Int32 → Int32 → Int32 → Int32 → Int32 → Int32 → Int32 → Int32 → Int32 → Int32 → Int32 → Int32 → Int32 → Int32 → Int32 → Int32 → Int32 → Int32 → Option (Int32)) (scr zaw zbm zba zax zbt zbu zbv zbn zbo zbp zbb zbc zbd zbe : List Int32) (zan zao zal zam zap zaq zar zas zat zau zbl zav zay zaz zbq zbr zbs zbf zbg zbh zbi zbj zbk v2 v3 v4 v5 v6 v7 v12 t0 : Int32) : Option (Int32) :=
  (f_putInByte zba zav v12).bind fun (r241, s242, s243) =>
  if r241 = t0 then
    f_L_law_702 kb scr zaw zbm s242 zax zbt zbu zbv zbn zbo zbp zbb zbc zbd zbe zan zao zal zam zap zaq zar zas zat zau zbl s243 zay zaz zbq zbr zbs zbf zbg zbh zbi zbj zbk v2 (if t0 = (0 : Int32) then v3 else (v3 + (1 : Int32))) v4 v5 v6 v7
  else
    some (0 : Int32)
def f_L_law_349 (k702 : List Int32 → List Int32 → List Int32 → List Int32 → List Int32 → List Int32 → List Int32 → List Int32 → List Int32 → List Int32 → List Int32 → List Int32 → List Int32 → List Int32 → Int32 → Int32 → Int32 → Int32 → Int32 → Int32 → Int32 → Int32 → Int32 → Int32 → Int32 → Int32 → Int32 → Int32 → Int32 → Int32 → Int32 → Int32 → Int32 → Int32 → Int32 → Int32 → Int32 → Int32 → Int32 → Int32 → Int32 → Int32 → Int32 → Option (Int32)) (scr : List Int32) : Nat → List Int32 → List Int32 → List Int32 → List Int32 → List Int32 → List Int32 → List Int32 → List Int32 → List Int32 → List Int32 → List Int32 → List Int32 → List Int32 → List Int32 → Int32 → Int32 → Int32 → Int32 → Int32 → Int32 → Int32 → Int32 → Int32 → Int32 → Int32 → Int32 → Int32 → Int32 → Int32 → Int32 → Int32 → Int32 → Int32 → Int32 → Int32 → Int32 → Int32 → Int32 → Int32 → Int32 → Int32 → Int32 → Int32 → Int32 → Int32 → Int32 → Int32 → Option (Int32)
  | 0, _, _, _, _, _, _, _, _, _, _, _, _, _, _, _, _, _, _, _, _, _, _, _, _, _, _, _, _, _, _, _, _, _, _, _, _, _, _, _, _, _, _, _, _, _, _, _ => none
  | n + 1, zaw, zbm, zba, zax, zbt, zbu, zbv, zbn, zbo, zbp, zbb, zbc, zbd, zbe, zan, zao, zal, zam, zap, zaq, zar, zas, zat, zau, zbl, zav, zay, zaz, zbq, zbr, zbs, zbf, zbg, zbh, zbi, zbj, zbk, v2, v3, v4, v5, v6, v7, v12, v13, v14, v17 =>
    if v17 < (v12 + v13) then
      (f_L_put v2 v17 v14).bind fun r240 =>
      f_L_law_349 k702 scr n zaw zbm zba zax zbt zbu zbv zbn zbo zbp zbb zbc zbd zbe zan zao zal zam zap zaq zar zas zat zau zbl zav zay zaz zbq zbr zbs zbf zbg zbh zbi zbj zbk r240 v3 v4 v5 v6 v7 v12 v13 v14 (v17 + (1 : Int32))
    else
      k702 zaw zbm zba zax zbt zbu zbv zbn zbo zbp zbb zbc zbd zbe zan zao zal zam zap zaq zar zas zat zau zbl zav zay zaz zbq zbr zbs zbf zbg zbh zbi zbj zbk v2 v3 v4 v5 v6 v7
def f_L_law_317 (kb : List Int32 → List Int32 → List Int32 → List Int32 → List Int32 → List Int32 → List Int32 → List Int32 → List Int32 → List Int32 → List Int32 → List Int32 → List Int32 → List Int32 → Int32 → Int32 → Int32 → Int32 → Int32 → Int32 → Int32 → Int32 → Int32 → Int32 → Int32 → Int32 → Int32 → Int32 → Int32 → Int32 → Int32 → Int32 → Int32 → Int32 → Int32 → Int32 → Int32 → Int32 → Int32 → Int32 → Int32 → Int32 → Int32 → Option (Int32)) (scr zaw zbm zba zax zbt zbu zbv zbn zbo zbp zbb zbc zbd zbe : List Int32) (zan zao zal zam zap zaq zar zas zat zau zbl zav zay zaz zbq zbr zbs zbf zbg zbh zbi zbj zbk v2 v3 v4 v5 v6 v7 v12 v13 v14 t0 : Int32) : Option (Int32) :=
  (f_fill zal zam zaw v12 v13 v14).bind fun (r238, s239) =>
  if r238 = t0 then
    if t0 = (0 : Int32) then
      f_L_law_702 kb scr s239 zbm zba zax zbt zbu zbv zbn zbo zbp zbb zbc zbd zbe zan zao zal zam zap zaq zar zas zat zau zbl zav zay zaz zbq zbr zbs zbf zbg zbh zbi zbj zbk v2 v3 v4 v5 v6 v7
    else
      f_L_law_349 (f_L_law_702 kb scr) scr 100000 s239 zbm zba zax zbt zbu zbv zbn zbo zbp zbb zbc zbd zbe zan zao zal zam zap zaq zar zas zat zau zbl zav zay zaz zbq zbr zbs zbf zbg zbh zbi zbj zbk v2 v3 v4 v5 v6 v7 v12 v13 v14 v12
  else
    some (0 : Int32)
def f_L_law_219 (kb : List Int32 → List Int32 → List Int32 → List Int32 → List Int32 → List Int32 → List Int32 → List Int32 → List Int32 → List Int32 → List Int32 → List Int32 → List Int32 → List Int32 → Int32 → Int32 → Int32 → Int32 → Int32 → Int32 → Int32 → Int32 → Int32 → Int32 → Int32 → Int32 → Int32 → Int32 → Int32 → Int32 → Int32 → Int32 → Int32 → Int32 → Int32 → Int32 → Int32 → Int32 → Int32 → Int32 → Int32 → Int32 → Int32 → Option (Int32)) (scr zaw zbm zba zax zbt zbu zbv zbn zbo zbp zbb zbc zbd zbe : List Int32) (zan zao zal zam zap zaq zar zas zat zau zbl zav zay zaz zbq zbr zbs zbf zbg zbh zbi zbj zbk v2 v3 v4 v5 v6 v7 v12 v13 t0 : Int32) : Option (Int32) :=
  (f_setPixel zal zam zaw v12 v13).bind fun (r235, s236) =>
  if r235 = t0 then
    if t0 = (0 : Int32) then
      f_L_law_702 kb scr s236 zbm zba zax zbt zbu zbv zbn zbo zbp zbb zbc zbd zbe zan zao zal zam zap zaq zar zas zat zau zbl zav zay zaz zbq zbr zbs zbf zbg zbh zbi zbj zbk v2 v3 v4 v5 v6 v7
    else
      (f_L_put v2 v12 v13).bind fun r237 =>
      f_L_law_702 kb scr s236 zbm zba zax zbt zbu zbv zbn zbo zbp zbb zbc zbd zbe zan zao zal zam zap zaq zar zas zat zau zbl zav zay zaz zbq zbr zbs zbf zbg zbh zbi zbj zbk r237 v3 v4 v5 v6 v7
  else
    some (0 : Int32)
def f_L_law_160 (kb : List Int32 → List Int32 → List Int32 → List Int32 → List Int32 → List Int32 → List Int32 → List Int32 → List Int32 → List Int32 → List Int32 → List Int32 → List Int32 → List Int32 → Int32 → Int32 → Int32 → Int32 → Int32 → Int32 → Int32 → Int32 → Int32 → Int32 → Int32 → Int32 → Int32 → Int32 → Int32 → Int32 → Int32 → Int32 → Int32 → Int32 → Int32 → Int32 → Int32 → Int32 → Int32 → Int32 → Int32 → Int32 → Int32 → Option (Int32)) (scr zaw zbm zba zax zbt zbu zbv zbn zbo zbp zbb zbc zbd zbe : List Int32) (zan zao zal zam zap zaq zar zas zat zau zbl zav zay zaz zbq zbr zbs zbf zbg zbh zbi zbj zbk v2 v3 v4 v5 v6 v7 v12 t0 : Int32) : Option (Int32) :=
  (f_setBlockSize zau v12).bind fun (r233, s234) =>
  if r233 = t0 then
    f_L_law_702 kb scr zaw zbm zba zax zbt zbu zbv zbn zbo zbp zbb zbc zbd zbe zan zao zal zam zap zaq zar zas zat s234 zbl zav zay zaz zbq zbr zbs zbf zbg zbh zbi zbj zbk v2 v3 v4 v5 v6 v7
  else
    some (0 : Int32)
def f_L_law_111 (kb : List Int32 → List Int32 → List Int32 → List Int32 → List Int32 → List Int32 → List Int32 → List Int32 → List Int32 → List Int32 → List Int32 → List Int32 → List Int32 → List Int32 → Int32 → Int32 → Int32 → Int32 → Int32 → Int32 → Int32 → Int32 → Int32 → Int32 → Int32 → Int32 → Int32 → Int32 → Int32 → Int32 → Int32 → Int32 → Int32 → Int32 → Int32 → Int32 → Int32 → Int32 → Int32 → Int32 → Int32 → Int32 → Int32 → Option (Int32)) (scr zaw zbm zba zax zbt zbu zbv zbn zbo zbp zbb zbc zbd zbe : List Int32) (zan zao zal zam zap zaq zar zas zat zau zbl zav zay zaz zbq zbr zbs zbf zbg zbh zbi zbj zbk v2 v3 v4 v5 v6 v7 t0 : Int32) : Option (Int32) :=
  (f_setInterlaced zat t0).bind fun s232 =>
  f_L_law_702 kb scr zaw zbm zba zax zbt zbu zbv zbn zbo zbp zbb zbc zbd zbe zan zao zal zam zap zaq zar zas s232 zau zbl zav zay zaz zbq zbr zbs zbf zbg zbh zbi zbj zbk v2 v3 v4 v5 v6 v7
def f_L_law_32 (scr : List Int32) : Nat → List Int32 → List Int32 → List Int32 → List Int32 → List Int32 → List Int32 → List Int32 → List Int32 → List Int32 → List Int32 → List Int32 → List Int32 → List Int32 → List Int32 → Int32 → Int32 → Int32 → Int32 → Int32 → Int32 → Int32 → Int32 → Int32 → Int32 → Int32 → Int32 → Int32 → Int32 → Int32 → Int32 → Int32 → Int32 → Int32 → Int32 → Int32 → Int32 → Int32 → Int32 → Int32 → Int32 → Int32 → Int32 → Int32 → Option (Int32)
  | 0, _, _, _, _, _, _, _, _, _, _, _, _, _, _, _, _, _, _, _, _, _, _, _, _, _, _, _, _, _, _, _, _, _, _, _, _, _, _, _, _, _, _, _ => none
  | n + 1, zaw, zbm, zba, zax, zbt, zbu, zbv, zbn, zbo, zbp, zbb, zbc, zbd, zbe, zan, zao, zal, zam, zap, zaq, zar, zas, zat, zau, zbl, zav, zay, zaz, zbq, zbr, zbs, zbf, zbg, zbh, zbi, zbj, zbk, v2, v3, v4, v5, v6, v7 =>
    if v7 < v6 then
      (rdA scr ((4 : Int32) * v7)).bind fun x192 =>
      (rdA scr (((4 : Int32) * v7) + (1 : Int32))).bind fun x193 =>
      (rdA scr (((4 : Int32) * v7) + (2 : Int32))).bind fun x194 =>
      (rdA scr (((4 : Int32) * v7) + (3 : Int32))).bind fun x195 =>
      if ((x192 &&& (2147483647 : Int32)) % (10 : Int32)) = (0 : Int32) then
        f_L_law_111 (f_L_law_32 scr n) scr zaw zbm zba zax zbt zbu zbv zbn zbo zbp zbb zbc zbd zbe zan zao zal zam zap zaq zar zas zat zau zbl zav zay zaz zbq zbr zbs zbf zbg zbh zbi zbj zbk v2 v3 v4 v5 v6 v7 (if ((x193 &&& (2147483647 : Int32)) &&& (1 : Int32)) = (1 : Int32) then (1 : Int32) else (0 : Int32))
      else
        if ((x192 &&& (2147483647 : Int32)) % (10 : Int32)) = (1 : Int32) then
          f_L_law_160 (f_L_law_32 scr n) scr zaw zbm zba zax zbt zbu zbv zbn zbo zbp zbb zbc zbd zbe zan zao zal zam zap zaq zar zas zat zau zbl zav zay zaz zbq zbr zbs zbf zbg zbh zbi zbj zbk v2 v3 v4 v5 v6 v7 (((x193 &&& (2147483647 : Int32)) % (300 : Int32)) - (20 : Int32)) (if (((x193 &&& (2147483647 : Int32)) % (300 : Int32)) - (20 : Int32)) < (4 : Int32) then (4 : Int32) else (if (255 : Int32) < (((x193 &&& (2147483647 : Int32)) % (300 : Int32)) - (20 : Int32)) then (255 : Int32) else (((x193 &&& (2147483647 : Int32)) % (300 : Int32)) - (20 : Int32))))
        else
          if ((x192 &&& (2147483647 : Int32)) % (10 : Int32)) = (2 : Int32) then
            f_L_law_219 (f_L_law_32 scr n) scr zaw zbm zba zax zbt zbu zbv zbn zbo zbp zbb zbc zbd zbe zan zao zal zam zap zaq zar zas zat zau zbl zav zay zaz zbq zbr zbs zbf zbg zbh zbi zbj zbk v2 v3 v4 v5 v6 v7 ((x193 &&& (2147483647 : Int32)) % (9 : Int32)) ((x194 &&& (2147483647 : Int32)) % (5 : Int32)) (if ((x193 &&& (2147483647 : Int32)) % (9 : Int32)) < (8 : Int32) then (if ((x194 &&& (2147483647 : Int32)) % (5 : Int32)) < (4 : Int32) then (1 : Int32) else (0 : Int32)) else (0 : Int32))
          else
            if ((x192 &&& (2147483647 : Int32)) % (10 : Int32)) = (3 : Int32) then
              f_L_law_317 (f_L_law_32 scr n) scr zaw zbm zba zax zbt zbu zbv zbn zbo zbp zbb zbc zbd zbe zan zao zal zam zap zaq zar zas zat zau zbl zav zay zaz zbq zbr zbs zbf zbg zbh zbi zbj zbk v2 v3 v4 v5 v6 v7 ((x193 &&& (2147483647 : Int32)) % (9 : Int32)) ((x194 &&& (2147483647 : Int32)) % (9 : Int32)) ((x195 &&& (2147483647 : Int32)) % (5 : Int32)) (if ((x195 &&& (2147483647 : Int32)) % (5 : Int32)) < (4 : Int32) then (if ((x193 &&& (2147483647 : Int32)) % (9 : Int32)) < (8 : Int32) then (if ((x194 &&& (2147483647 : Int32)) % (9 : Int32)) < (1 : Int32) then (0 : Int32) else (if ((8 : Int32) - ((x193 &&& (2147483647 : Int32)) % (9 : Int32))) < ((x194 &&& (2147483647 : Int32)) % (9 : Int32)) then (0 : Int32) else (1 : Int32))) else (0 : Int32)) else (0 : Int32))
            else
              if ((x192 &&& (2147483647 : Int32)) % (10 : Int32)) = (4 : Int32) then
                (f_encode zaw zan zao zal zap zaq zar zas zat zau zbm zbt zbu zbv zbn zbo zbp zbl zbq zbr zbs).bind fun (r217, s218, s219, s220, s221, s222, s223, s224, s225, s226, s227, s228) =>
                if r217 < (5 : Int32) then
                  some (0 : Int32)
                else
                  if (9 : Int32) < r217 then
                    some (0 : Int32)
                  else
                    (f_getOutByte s218 s225 (0 : Int32)).bind fun r229 =>
                    if r229 = (2 : Int32) then
                      (f_getOutByte s218 s225 (r217 - (1 : Int32))).bind fun r230 =>
                      if r230 = (0 : Int32) then
                        (f_getOutByte s218 s225 (1 : Int32)).bind fun r231 =>
                        if r231 < (2 : Int32) then
                          some (0 : Int32)
                        else
                          if (5 : Int32) < r231 then
                            some (0 : Int32)
                          else
                            f_L_law_702 (f_L_law_32 scr n) scr zaw s218 zba zax s219 s220 s221 s222 s223 s224 zbb zbc zbd zbe zan zao zal zam zap zaq zar zas zat zau s225 zav zay zaz s226 s227 s228 zbf zbg zbh zbi zbj zbk v2 v3 r217 v5 v6 v7
                      else
                        some (0 : Int32)
                    else
                      some (0 : Int32)
              else
                if ((x192 &&& (2147483647 : Int32)) % (10 : Int32)) = (5 : Int32) then
                  (f_clearInput zav).bind fun s216 =>
                  f_L_law_702 (f_L_law_32 scr n) scr zaw zbm zba zax zbt zbu zbv zbn zbo zbp zbb zbc zbd zbe zan zao zal zam zap zaq zar zas zat zau zbl s216 zay zaz zbq zbr zbs zbf zbg zbh zbi zbj zbk v2 (0 : Int32) v4 v5 v6 v7
                else
                  if ((x192 &&& (2147483647 : Int32)) % (10 : Int32)) = (6 : Int32) then
                    f_L_law_504 (f_L_law_32 scr n) scr zaw zbm zba zax zbt zbu zbv zbn zbo zbp zbb zbc zbd zbe zan zao zal zam zap zaq zar zas zat zau zbl zav zay zaz zbq zbr zbs zbf zbg zbh zbi zbj zbk v2 v3 v4 v5 v6 v7 ((x193 &&& (2147483647 : Int32)) % (300 : Int32)) (if (255 : Int32) < ((x193 &&& (2147483647 : Int32)) % (300 : Int32)) then (0 : Int32) else (if v3 < (512 : Int32) then (1 : Int32) else (0 : Int32)))
                  else
                    if ((x192 &&& (2147483647 : Int32)) % (10 : Int32)) = (7 : Int32) then
                      if (v3 + (2 : Int32)) = 0 then none else
                      f_L_law_576 (f_L_law_32 scr n) scr zaw zbm zba zax zbt zbu zbv zbn zbo zbp zbb zbc zbd zbe zan zao zal zam zap zaq zar zas zat zau zbl zav zay zaz zbq zbr zbs zbf zbg zbh zbi zbj zbk v2 v3 v4 v5 v6 v7 ((x193 &&& (2147483647 : Int32)) % (v3 + (2 : Int32))) ((x194 &&& (2147483647 : Int32)) % (300 : Int32)) (if ((x193 &&& (2147483647 : Int32)) % (v3 + (2 : Int32))) < v3 then (if (255 : Int32) < ((x194 &&& (2147483647 : Int32)) % (300 : Int32)) then (0 : Int32) else (1 : Int32)) else (0 : Int32))
                    else
                      if ((x192 &&& (2147483647 : Int32)) % (10 : Int32)) = (8 : Int32) then
                        (f_loadInFromOut zbm zbl zba zav).bind fun (r213, s214, s215) =>
                        if r213 = v4 then
                          f_L_law_702 (f_L_law_32 scr n) scr zaw zbm s214 zax zbt zbu zbv zbn zbo zbp zbb zbc zbd zbe zan zao zal zam zap zaq zar zas zat zau zbl s215 zay zaz zbq zbr zbs zbf zbg zbh zbi zbj zbk v2 v4 v4 v5 v6 v7
                        else
                          some (0 : Int32)
                      else
                        (f_decode zba zan zao zal zam zap zaq zar zas zat zav zax zbt zbu zbv zbb zbc zbd zbe zay zaz zbf zbg zbh zbi zbj zbk).bind fun (r196, s197, s198, s199, s200, s201, s202, s203, s204, s205, s206, s207, s208, s209, s210, s211, s212) =>
                        if (0 : Int32) < r196 then
                          some (0 : Int32)
                        else
                          if r196 < (-8 : Int32) then
                            some (0 : Int32)
                          else
                            if v3 = (0 : Int32) then
                              if r196 = (-1 : Int32) then
                                f_L_law_664 (f_L_law_32 scr n) scr zaw zbm zba s197 s198 s199 s200 zbn zbo zbp s201 s202 s203 s204 zan zao zal zam zap zaq zar zas zat zau zbl zav s205 s206 zbq zbr zbs s207 s208 s209 s210 s211 s212 v2 v3 v4 r196 v6 v7 r196
                              else
                                some (0 : Int32)
                            else
                              f_L_law_664 (f_L_law_32 scr n) scr zaw zbm zba s197 s198 s199 s200 zbn zbo zbp s201 s202 s203 s204 zan zao zal zam zap zaq zar zas zat zau zbl zav s205 s206 zbq zbr zbs s207 s208 s209 s210 s211 s212 v2 v3 v4 r196 v6 v7 r196
    else
      some (1 : Int32)
def f_L_law (scr : List Int32) : Option (Int32) :=
  (f_init (4 : Int32) (2 : Int32) (4 : Int32) (9 : Int32)).bind fun (s155, s156, s157, s158, s159, s160, s161, s162, s163, s164, s165, s166, s167, s168, s169, s170, s171, s172, s173, s174, s175, s176, s177, s178, s179, s180, s181, s182, s183, s184, s185, s186, s187, s188, s189, s190, s191) =>
  f_L_law_32 scr 100000 s155 s156 s157 s158 s159 s160 s161 s162 s163 s164 s165 s166 s167 s168 s169 s170 s171 s172 s173 s174 s175 s176 s177 s178 s179 s180 s181 s182 s183 s184 s185 s186 s187 s188 s189 s190 s191 (0 : Int32) (0 : Int32) (0 : Int32) (1 : Int32) (scr.length.toInt32 / (4 : Int32)) (0 : Int32)
set_option maxHeartbeats 4000000
set_option maxRecDepth 10000
abbrev qi (x : Int32) : Slot := .val (.int x)
abbrev ql (x : Int64) : Slot := .val (.long x)
abbrev qr (x : Nat) : Slot := .val (.ref x)
abbrev qu : Slot := .unset
abbrev qw : Slot := .second
abbrev qa (l : List Int32) : ACell := .inr (.inl (false, l))
theorem ok_clamp {zag zy zw zai zz zh zc zaa zab zae zo zm zu zt : List Int32} {zv zx zb zl zg za zd zf zah zaf zp zn zaj zak ze zr zs zac zad zj zi zq zk : Int32} {c0 : ACell} {po : List ACell} {v1 v2 v3 res : Int32} (h : f_clamp v1 v2 v3 = some res) : OEnds own_P 2 0 [qr 1, qi v1, qi v2, qi v3] [] (c0 :: bk0 zag zy zw zai zz zh zc zaa zab zae zo zm zu zt zv zx zb zl zg za zd zf zah zaf zp zn zaj zak ze zr zs zac zad zj zi zq zk po) (some (.int res), (c0 :: bk0 zag zy zw zai zz zh zc zaa zab zae zo zm zu zt zv zx zb zl zg za zd zf zah zaf zp zn zaj zak ze zr zs zac zad zj zi zq zk po), 0, 0) := by
  unfold f_clamp at h
  refine OEnds.adv hm_2 2 (pc' := 2) (L' := [qr 1, qi v1, qi v2, qi v3]) (S' := [.int v2, .int v1]) (H' := (c0 :: bk0 zag zy zw zai zz zh zc zaa zab zae zo zm zu zt zv zx zb zl zg za zd zf zah zaf zp zn zaj zak ze zr zs zac zad zj zi zq zk po)) rfl ?_
  by_cases hc1 : v1 < v2
  · simp only [if_pos hc1] at h
    refine OEnds.icmpF hm_2 rfl ((tlt hc1).2.1) ?_
    refine OEnds.adv hm_2 1 (pc' := 6) (L' := [qr 1, qi v1, qi v2, qi v3]) (S' := [.int v2]) (H' := (c0 :: bk0 zag zy zw zai zz zh zc zaa zab zae zo zm zu zt zv zx zb zl zg za zd zf zah zaf zp zn zaj zak ze zr zs zac zad zj zi zq zk po)) rfl ?_
    cases h
    exact OEnds.iret hm_2 rfl rfl
  · simp only [if_neg hc1] at h
    refine OEnds.icmpT hm_2 rfl (q := 7) rfl ((flt hc1).2.1) ?_
    refine OEnds.adv hm_2 2 (pc' := 9) (L' := [qr 1, qi v1, qi v2, qi v3]) (S' := [.int v3, .int v1]) (H' := (c0 :: bk0 zag zy zw zai zz zh zc zaa zab zae zo zm zu zt zv zx zb zl zg za zd zf zah zaf zp zn zaj zak ze zr zs zac zad zj zi zq zk po)) rfl ?_
    by_cases hc2 : v3 < v1
    · simp only [if_pos hc2] at h
      refine OEnds.icmpF hm_2 rfl ((tlt hc2).2.2.2) ?_
      refine OEnds.adv hm_2 1 (pc' := 13) (L' := [qr 1, qi v1, qi v2, qi v3]) (S' := [.int v3]) (H' := (c0 :: bk0 zag zy zw zai zz zh zc zaa zab zae zo zm zu zt zv zx zb zl zg za zd zf zah zaf zp zn zaj zak ze zr zs zac zad zj zi zq zk po)) rfl ?_
      cases h
      exact OEnds.iret hm_2 rfl rfl
    · simp only [if_neg hc2] at h
      refine OEnds.icmpT hm_2 rfl (q := 14) rfl ((flt hc2).2.2.2) ?_
      refine OEnds.adv hm_2 1 (pc' := 15) (L' := [qr 1, qi v1, qi v2, qi v3]) (S' := [.int v1]) (H' := (c0 :: bk0 zag zy zw zai zz zh zc zaa zab zae zo zm zu zt zv zx zb zl zg za zd zf zah zaf zp zn zaj zak ze zr zs zac zad zj zi zq zk po)) rfl ?_
      cases h
      exact OEnds.iret hm_2 rfl rfl
theorem ok_init_259 {c0 : ACell} : ∀ {zag zy zw zai zz zh zc zaa zab zae zo zm zu zt : List Int32} {zv zx zb zl zg za zd zf zah zaf zp zn zaj zak ze zr zs zac zad zj zi zq zk v6 : Int32} {d1 d2 d3 d4 d5 : Slot} {w_o_pixels w_o_out w_o_in w_o_decodedPix w_o_rowOrder w_o_streamBuf w_o_data w_o_firstChild w_o_nextSibling w_o_childPixel w_o_prefix w_o_suffix w_o_firstPix w_o_strLen : List Int32} {w_o_width w_o_height w_o_total w_o_palette w_o_minSize w_o_clearCode w_o_maxWidth w_o_codeLimit w_o_interlaced w_o_blockSize w_o_outLen w_o_inLen w_o_hasDecoded w_o_status w_o_bitPos w_o_encWidth w_o_encNext w_o_dataLen w_o_readPos w_o_decWidth w_o_decNext w_o_decPrev : Int32} {w_o_decCount : Int32}, f_init_259 zag zy zw zai zz zh zc zaa zab zae zo zm zu zt zv zx zb zl zg za zd zf zah zaf zp zn zaj zak ze zr zs zac zad zj zi zq zk v6 = some (w_o_pixels, w_o_out, w_o_in, w_o_decodedPix, w_o_rowOrder, w_o_streamBuf, w_o_data, w_o_firstChild, w_o_nextSibling, w_o_childPixel, w_o_prefix, w_o_suffix, w_o_firstPix, w_o_strLen, w_o_width, w_o_height, w_o_total, w_o_palette, w_o_minSize, w_o_clearCode, w_o_maxWidth, w_o_codeLimit, w_o_interlaced, w_o_blockSize, w_o_outLen, w_o_inLen, w_o_hasDecoded, w_o_status, w_o_bitPos, w_o_encWidth, w_o_encNext, w_o_dataLen, w_o_readPos, w_o_decWidth, w_o_decNext, w_o_decPrev, w_o_decCount) → OEnds own_P 1 259 [qr 1, d1, d2, d3, d4, d5, qi v6] [] (c0 :: bk0 zag zy zw zai zz zh zc zaa zab zae zo zm zu zt zv zx zb zl zg za zd zf zah zaf zp zn zaj zak ze zr zs zac zad zj zi zq zk []) (none, (c0 :: bk0 w_o_pixels w_o_out w_o_in w_o_decodedPix w_o_rowOrder w_o_streamBuf w_o_data w_o_firstChild w_o_nextSibling w_o_childPixel w_o_prefix w_o_suffix w_o_firstPix w_o_strLen w_o_width w_o_height w_o_total w_o_palette w_o_minSize w_o_clearCode w_o_maxWidth w_o_codeLimit w_o_interlaced w_o_blockSize w_o_outLen w_o_inLen w_o_hasDecoded w_o_status w_o_bitPos w_o_encWidth w_o_encNext w_o_dataLen w_o_readPos w_o_decWidth w_o_decNext w_o_decPrev w_o_decCount []), 0, 0) := by
  intro zag zy zw zai zz zh zc zaa zab zae zo zm zu zt zv zx zb zl zg za zd zf zah zaf zp zn zaj zak ze zr zs zac zad zj zi zq zk v6 d1 d2 d3 d4 d5 w_o_pixels w_o_out w_o_in w_o_decodedPix w_o_rowOrder w_o_streamBuf w_o_data w_o_firstChild w_o_nextSibling w_o_childPixel w_o_prefix w_o_suffix w_o_firstPix w_o_strLen w_o_width w_o_height w_o_total w_o_palette w_o_minSize w_o_clearCode w_o_maxWidth w_o_codeLimit w_o_interlaced w_o_blockSize w_o_outLen w_o_inLen w_o_hasDecoded w_o_status w_o_bitPos w_o_encWidth w_o_encNext w_o_dataLen w_o_readPos w_o_decWidth w_o_decNext w_o_decPrev w_o_decCount h
  unfold f_init_259 at h
  refine OEnds.adv hm_1 26 (pc' := 305) (L' := [qr 1, qu, qu, qu, qu, qu, qi v6]) (S' := []) (H' := (c0 :: bk0 zag zy zw zai zz zh zc zaa zab zae zo zm zu zt zv zx zb zl zg za v6 ((1 : Int32) <<< (v6 &&& 31)) 0 255 0 0 0 1 ze zr zs zac zad zj zi zq zk [])) rfl ?_
  cases h
  exact OEnds.vret hm_1 rfl rfl
theorem ok_init_219 {c0 : ACell} : ∀ {zag zy zw zai zz zh zc zaa zab zae zo zm zu zt : List Int32} {zv zx zb zl zg za zd zf zah zaf zp zn zaj zak ze zr zs zac zad zj zi zq zk v4 v5 : Int32} {d1 d2 d3 d6 : Slot} {w_o_pixels w_o_out w_o_in w_o_decodedPix w_o_rowOrder w_o_streamBuf w_o_data w_o_firstChild w_o_nextSibling w_o_childPixel w_o_prefix w_o_suffix w_o_firstPix w_o_strLen : List Int32} {w_o_width w_o_height w_o_total w_o_palette w_o_minSize w_o_clearCode w_o_maxWidth w_o_codeLimit w_o_interlaced w_o_blockSize w_o_outLen w_o_inLen w_o_hasDecoded w_o_status w_o_bitPos w_o_encWidth w_o_encNext w_o_dataLen w_o_readPos w_o_decWidth w_o_decNext w_o_decPrev : Int32} {w_o_decCount : Int32}, f_init_219 zag zy zw zai zz zh zc zaa zab zae zo zm zu zt zv zx zb zl zg za zd zf zah zaf zp zn zaj zak ze zr zs zac zad zj zi zq zk v4 v5 = some (w_o_pixels, w_o_out, w_o_in, w_o_decodedPix, w_o_rowOrder, w_o_streamBuf, w_o_data, w_o_firstChild, w_o_nextSibling, w_o_childPixel, w_o_prefix, w_o_suffix, w_o_firstPix, w_o_strLen, w_o_width, w_o_height, w_o_total, w_o_palette, w_o_minSize, w_o_clearCode, w_o_maxWidth, w_o_codeLimit, w_o_interlaced, w_o_blockSize, w_o_outLen, w_o_inLen, w_o_hasDecoded, w_o_status, w_o_bitPos, w_o_encWidth, w_o_encNext, w_o_dataLen, w_o_readPos, w_o_decWidth, w_o_decNext, w_o_decPrev, w_o_decCount) → OEnds own_P 1 219 [qr 1, d1, d2, d3, qi v4, qi v5, d6] [] (c0 :: bk0 zag zy zw zai zz zh zc zaa zab zae zo zm zu zt zv zx zb zl zg za zd zf zah zaf zp zn zaj zak ze zr zs zac zad zj zi zq zk []) (none, (c0 :: bk0 w_o_pixels w_o_out w_o_in w_o_decodedPix w_o_rowOrder w_o_streamBuf w_o_data w_o_firstChild w_o_nextSibling w_o_childPixel w_o_prefix w_o_suffix w_o_firstPix w_o_strLen w_o_width w_o_height w_o_total w_o_palette w_o_minSize w_o_clearCode w_o_maxWidth w_o_codeLimit w_o_interlaced w_o_blockSize w_o_outLen w_o_inLen w_o_hasDecoded w_o_status w_o_bitPos w_o_encWidth w_o_encNext w_o_dataLen w_o_readPos w_o_decWidth w_o_decNext w_o_decPrev w_o_decCount []), 0, 0) := by
  intro zag zy zw zai zz zh zc zaa zab zae zo zm zu zt zv zx zb zl zg za zd zf zah zaf zp zn zaj zak ze zr zs zac zad zj zi zq zk v4 v5 d1 d2 d3 d6 w_o_pixels w_o_out w_o_in w_o_decodedPix w_o_rowOrder w_o_streamBuf w_o_data w_o_firstChild w_o_nextSibling w_o_childPixel w_o_prefix w_o_suffix w_o_firstPix w_o_strLen w_o_width w_o_height w_o_total w_o_palette w_o_minSize w_o_clearCode w_o_maxWidth w_o_codeLimit w_o_interlaced w_o_blockSize w_o_outLen w_o_inLen w_o_hasDecoded w_o_status w_o_bitPos w_o_encWidth w_o_encNext w_o_dataLen w_o_readPos w_o_decWidth w_o_decNext w_o_decPrev w_o_decCount h
  unfold f_init_219 at h
  refine OEnds.adv hm_1 12 (pc' := 239) (L' := [qr 1, qu, qu, qu, qi v4, qi v5, qu]) (S' := [.int 9, .int 3, .int v4, .ref 1]) (H' := (c0 :: bk0 zag zy zw zai zz zh zc zaa zab zae zo zm zu zt zv zx zb zl v5 ((1 : Int32) <<< (v5 &&& 31)) zd zf zah zaf zp zn zaj zak ze zr zs zac zad zj zi zq zk [])) rfl ?_
  obtain ⟨r4, hq3, h⟩ := bnd h
  refine OEnds.call0 hm_1 rfl rfl (by decide) rfl (as := [.ref 1, .int v4, .int 3, .int 9]) (rest := []) rfl rfl (ok_clamp hq3) ?_
  refine OEnds.adv hm_1 5 (pc' := 250) (L' := [qr 1, qu, qu, qu, qi v4, qi v5, qi r4]) (S' := [.int (v5 + (1 : Int32)), .int r4]) (H' := (c0 :: bk0 zag zy zw zai zz zh zc zaa zab zae zo zm zu zt zv zx zb zl v5 ((1 : Int32) <<< (v5 &&& 31)) zd zf zah zaf zp zn zaj zak ze zr zs zac zad zj zi zq zk [])) rfl ?_
  by_cases hc4 : r4 < (v5 + (1 : Int32))
  · simp only [if_pos hc4] at h
    refine OEnds.icmpF hm_1 rfl ((tlt hc4).2.1) ?_
    refine OEnds.adv hm_1 4 (pc' := 259) (L' := [qr 1, qu, qu, qu, qi v4, qi v5, qi (v5 + (1 : Int32))]) (S' := []) (H' := (c0 :: bk0 zag zy zw zai zz zh zc zaa zab zae zo zm zu zt zv zx zb zl v5 ((1 : Int32) <<< (v5 &&& 31)) zd zf zah zaf zp zn zaj zak ze zr zs zac zad zj zi zq zk [])) rfl ?_
    exact ok_init_259 h
  · simp only [if_neg hc4] at h
    refine OEnds.icmpT hm_1 rfl (q := 259) rfl ((flt hc4).2.1) ?_
    show OEnds own_P 1 259 [qr 1, qu, qu, qu, qi v4, qi v5, qi r4] [] (c0 :: bk0 zag zy zw zai zz zh zc zaa zab zae zo zm zu zt zv zx zb zl v5 ((1 : Int32) <<< (v5 &&& 31)) zd zf zah zaf zp zn zaj zak ze zr zs zac zad zj zi zq zk []) _
    exact ok_init_259 h
theorem ok_init_185 {c0 : ACell} {k219 : List Int32 → List Int32 → List Int32 → List Int32 → List Int32 → List Int32 → List Int32 → List Int32 → List Int32 → List Int32 → List Int32 → List Int32 → List Int32 → List Int32 → Int32 → Int32 → Int32 → Int32 → Int32 → Int32 → Int32 → Int32 → Int32 → Int32 → Int32 → Int32 → Int32 → Int32 → Int32 → Int32 → Int32 → Int32 → Int32 → Int32 → Int32 → Int32 → Int32 → Int32 → Int32 → Option (List Int32 × List Int32 × List Int32 × List Int32 × List Int32 × List Int32 × List Int32 × List Int32 × List Int32 × List Int32 × List Int32 × List Int32 × List Int32 × List Int32 × Int32 × Int32 × Int32 × Int32 × Int32 × Int32 × Int32 × Int32 × Int32 × Int32 × Int32 × Int32 × Int32 × Int32 × Int32 × Int32 × Int32 × Int32 × Int32 × Int32 × Int32 × Int32 × Int32)} (hk219 : ∀ {zag zy zw zai zz zh zc zaa zab zae zo zm zu zt : List Int32} {zv zx zb zl zg za zd zf zah zaf zp zn zaj zak ze zr zs zac zad zj zi zq zk v4 v5 : Int32} {d1 d2 d3 d6 : Slot} {w_o_pixels w_o_out w_o_in w_o_decodedPix w_o_rowOrder w_o_streamBuf w_o_data w_o_firstChild w_o_nextSibling w_o_childPixel w_o_prefix w_o_suffix w_o_firstPix w_o_strLen : List Int32} {w_o_width w_o_height w_o_total w_o_palette w_o_minSize w_o_clearCode w_o_maxWidth w_o_codeLimit w_o_interlaced w_o_blockSize w_o_outLen w_o_inLen w_o_hasDecoded w_o_status w_o_bitPos w_o_encWidth w_o_encNext w_o_dataLen w_o_readPos w_o_decWidth w_o_decNext w_o_decPrev : Int32} {w_o_decCount : Int32}, k219 zag zy zw zai zz zh zc zaa zab zae zo zm zu zt zv zx zb zl zg za zd zf zah zaf zp zn zaj zak ze zr zs zac zad zj zi zq zk v4 v5 = some (w_o_pixels, w_o_out, w_o_in, w_o_decodedPix, w_o_rowOrder, w_o_streamBuf, w_o_data, w_o_firstChild, w_o_nextSibling, w_o_childPixel, w_o_prefix, w_o_suffix, w_o_firstPix, w_o_strLen, w_o_width, w_o_height, w_o_total, w_o_palette, w_o_minSize, w_o_clearCode, w_o_maxWidth, w_o_codeLimit, w_o_interlaced, w_o_blockSize, w_o_outLen, w_o_inLen, w_o_hasDecoded, w_o_status, w_o_bitPos, w_o_encWidth, w_o_encNext, w_o_dataLen, w_o_readPos, w_o_decWidth, w_o_decNext, w_o_decPrev, w_o_decCount) → OEnds own_P 1 219 [qr 1, d1, d2, d3, qi v4, qi v5, d6] [] (c0 :: bk0 zag zy zw zai zz zh zc zaa zab zae zo zm zu zt zv zx zb zl zg za zd zf zah zaf zp zn zaj zak ze zr zs zac zad zj zi zq zk []) (none, (c0 :: bk0 w_o_pixels w_o_out w_o_in w_o_decodedPix w_o_rowOrder w_o_streamBuf w_o_data w_o_firstChild w_o_nextSibling w_o_childPixel w_o_prefix w_o_suffix w_o_firstPix w_o_strLen w_o_width w_o_height w_o_total w_o_palette w_o_minSize w_o_clearCode w_o_maxWidth w_o_codeLimit w_o_interlaced w_o_blockSize w_o_outLen w_o_inLen w_o_hasDecoded w_o_status w_o_bitPos w_o_encWidth w_o_encNext w_o_dataLen w_o_readPos w_o_decWidth w_o_decNext w_o_decPrev w_o_decCount []), 0, 0)) : ∀ (n : Nat), ∀ {zag zy zw zai zz zh zc zaa zab zae zo zm zu zt : List Int32} {zv zx zb zl zg za zd zf zah zaf zp zn zaj zak ze zr zs zac zad zj zi zq zk v4 v5 v6 : Int32} {d1 d2 d3 : Slot} {w_o_pixels w_o_out w_o_in w_o_decodedPix w_o_rowOrder w_o_streamBuf w_o_data w_o_firstChild w_o_nextSibling w_o_childPixel w_o_prefix w_o_suffix w_o_firstPix w_o_strLen : List Int32} {w_o_width w_o_height w_o_total w_o_palette w_o_minSize w_o_clearCode w_o_maxWidth w_o_codeLimit w_o_interlaced w_o_blockSize w_o_outLen w_o_inLen w_o_hasDecoded w_o_status w_o_bitPos w_o_encWidth w_o_encNext w_o_dataLen w_o_readPos w_o_decWidth w_o_decNext w_o_decPrev : Int32} {w_o_decCount : Int32}, f_init_185 k219 n zag zy zw zai zz zh zc zaa zab zae zo zm zu zt zv zx zb zl zg za zd zf zah zaf zp zn zaj zak ze zr zs zac zad zj zi zq zk v4 v5 v6 = some (w_o_pixels, w_o_out, w_o_in, w_o_decodedPix, w_o_rowOrder, w_o_streamBuf, w_o_data, w_o_firstChild, w_o_nextSibling, w_o_childPixel, w_o_prefix, w_o_suffix, w_o_firstPix, w_o_strLen, w_o_width, w_o_height, w_o_total, w_o_palette, w_o_minSize, w_o_clearCode, w_o_maxWidth, w_o_codeLimit, w_o_interlaced, w_o_blockSize, w_o_outLen, w_o_inLen, w_o_hasDecoded, w_o_status, w_o_bitPos, w_o_encWidth, w_o_encNext, w_o_dataLen, w_o_readPos, w_o_decWidth, w_o_decNext, w_o_decPrev, w_o_decCount) → OEnds own_P 1 185 [qr 1, d1, d2, d3, qi v4, qi v5, qi v6] [] (c0 :: bk0 zag zy zw zai zz zh zc zaa zab zae zo zm zu zt zv zx zb zl zg za zd zf zah zaf zp zn zaj zak ze zr zs zac zad zj zi zq zk []) (none, (c0 :: bk0 w_o_pixels w_o_out w_o_in w_o_decodedPix w_o_rowOrder w_o_streamBuf w_o_data w_o_firstChild w_o_nextSibling w_o_childPixel w_o_prefix w_o_suffix w_o_firstPix w_o_strLen w_o_width w_o_height w_o_total w_o_palette w_o_minSize w_o_clearCode w_o_maxWidth w_o_codeLimit w_o_interlaced w_o_blockSize w_o_outLen w_o_inLen w_o_hasDecoded w_o_status w_o_bitPos w_o_encWidth w_o_encNext w_o_dataLen w_o_readPos w_o_decWidth w_o_decNext w_o_decPrev w_o_decCount []), 0, 0) := by
  intro n
  induction n with
  | zero => intro zag zy zw zai zz zh zc zaa zab zae zo zm zu zt zv zx zb zl zg za zd zf zah zaf zp zn zaj zak ze zr zs zac zad zj zi zq zk v4 v5 v6 d1 d2 d3 w_o_pixels w_o_out w_o_in w_o_decodedPix w_o_rowOrder w_o_streamBuf w_o_data w_o_firstChild w_o_nextSibling w_o_childPixel w_o_prefix w_o_suffix w_o_firstPix w_o_strLen w_o_width w_o_height w_o_total w_o_palette w_o_minSize w_o_clearCode w_o_maxWidth w_o_codeLimit w_o_interlaced w_o_blockSize w_o_outLen w_o_inLen w_o_hasDecoded w_o_status w_o_bitPos w_o_encWidth w_o_encNext w_o_dataLen w_o_readPos w_o_decWidth w_o_decNext w_o_decPrev w_o_decCount h; cases h
  | succ n ih =>
    intro zag zy zw zai zz zh zc zaa zab zae zo zm zu zt zv zx zb zl zg za zd zf zah zaf zp zn zaj zak ze zr zs zac zad zj zi zq zk v4 v5 v6 d1 d2 d3 w_o_pixels w_o_out w_o_in w_o_decodedPix w_o_rowOrder w_o_streamBuf w_o_data w_o_firstChild w_o_nextSibling w_o_childPixel w_o_prefix w_o_suffix w_o_firstPix w_o_strLen w_o_width w_o_height w_o_total w_o_palette w_o_minSize w_o_clearCode w_o_maxWidth w_o_codeLimit w_o_interlaced w_o_blockSize w_o_outLen w_o_inLen w_o_hasDecoded w_o_status w_o_bitPos w_o_encWidth w_o_encNext w_o_dataLen w_o_readPos w_o_decWidth w_o_decNext w_o_decPrev w_o_decCount h
    unfold f_init_185 at h
    refine OEnds.adv hm_1 2 (pc' := 189) (L' := [qr 1, qu, qu, qu, qi v4, qi v5, qi v6]) (S' := [.int 8, .int v6]) (H' := (c0 :: bk0 zag zy zw zai zz zh zc zaa zab zae zo zm zu zt zv zx zb zl zg za zd zf zah zaf zp zn zaj zak ze zr zs zac zad zj zi zq zk [])) rfl ?_
    by_cases hc5 : v6 < (8 : Int32)
    · simp only [if_pos hc5] at h
      refine OEnds.icmpF hm_1 rfl ((tlt hc5).2.1) ?_
      refine OEnds.adv hm_1 5 (pc' := 200) (L' := [qr 1, qu, qu, qu, qi v4, qi v5, qi v6]) (S' := [.int zl, .int ((1 : Int32) <<< (v5 &&& 31))]) (H' := (c0 :: bk0 zag zy zw zai zz zh zc zaa zab zae zo zm zu zt zv zx zb zl zg za zd zf zah zaf zp zn zaj zak ze zr zs zac zad zj zi zq zk [])) rfl ?_
      by_cases hc6 : ((1 : Int32) <<< (v5 &&& 31)) < zl
      · simp only [if_pos hc6] at h
        refine OEnds.icmpF hm_1 rfl ((tlt hc6).2.1) ?_
        refine OEnds.adv hm_1 2 (pc' := 207) (L' := [qr 1, qu, qu, qu, qi v4, qi v5, qi v6]) (S' := [.int 8, .int v5]) (H' := (c0 :: bk0 zag zy zw zai zz zh zc zaa zab zae zo zm zu zt zv zx zb zl zg za zd zf zah zaf zp zn zaj zak ze zr zs zac zad zj zi zq zk [])) rfl ?_
        by_cases hc7 : v5 < (8 : Int32)
        · simp only [if_pos hc7] at h
          refine OEnds.icmpF hm_1 rfl ((tlt hc7).2.1) ?_
          refine OEnds.adv hm_1 3 (pc' := 185) (L' := [qr 1, qu, qu, qu, qi v4, qi (v5 + (1 : Int32)), qi (v6 + (1 : Int32))]) (S' := []) (H' := (c0 :: bk0 zag zy zw zai zz zh zc zaa zab zae zo zm zu zt zv zx zb zl zg za zd zf zah zaf zp zn zaj zak ze zr zs zac zad zj zi zq zk [])) rfl ?_
          exact ih h
        · simp only [if_neg hc7] at h
          refine OEnds.icmpT hm_1 rfl (q := 219) rfl ((flt hc7).2.1) ?_
          show OEnds own_P 1 219 [qr 1, qu, qu, qu, qi v4, qi v5, qi v6] [] (c0 :: bk0 zag zy zw zai zz zh zc zaa zab zae zo zm zu zt zv zx zb zl zg za zd zf zah zaf zp zn zaj zak ze zr zs zac zad zj zi zq zk []) _
          exact hk219 h
      · simp only [if_neg hc6] at h
        refine OEnds.icmpT hm_1 rfl (q := 219) rfl ((flt hc6).2.1) ?_
        show OEnds own_P 1 219 [qr 1, qu, qu, qu, qi v4, qi v5, qi v6] [] (c0 :: bk0 zag zy zw zai zz zh zc zaa zab zae zo zm zu zt zv zx zb zl zg za zd zf zah zaf zp zn zaj zak ze zr zs zac zad zj zi zq zk []) _
        exact hk219 h
    · simp only [if_neg hc5] at h
      refine OEnds.icmpT hm_1 rfl (q := 219) rfl ((flt hc5).2.1) ?_
      show OEnds own_P 1 219 [qr 1, qu, qu, qu, qi v4, qi v5, qi v6] [] (c0 :: bk0 zag zy zw zai zz zh zc zaa zab zae zo zm zu zt zv zx zb zl zg za zd zf zah zaf zp zn zaj zak ze zr zs zac zad zj zi zq zk []) _
      exact hk219 h
theorem ok_init {c0 : ACell} {v1 v2 v3 v4 : Int32} {w_o_pixels w_o_out w_o_in w_o_decodedPix w_o_rowOrder w_o_streamBuf w_o_data w_o_firstChild w_o_nextSibling w_o_childPixel w_o_prefix w_o_suffix w_o_firstPix w_o_strLen : List Int32} {w_o_width w_o_height w_o_total w_o_palette w_o_minSize w_o_clearCode w_o_maxWidth w_o_codeLimit w_o_interlaced w_o_blockSize w_o_outLen w_o_inLen w_o_hasDecoded w_o_status w_o_bitPos w_o_encWidth w_o_encNext w_o_dataLen w_o_readPos w_o_decWidth w_o_decNext w_o_decPrev w_o_decCount : Int32} (h : f_init v1 v2 v3 v4 = some (w_o_pixels, w_o_out, w_o_in, w_o_decodedPix, w_o_rowOrder, w_o_streamBuf, w_o_data, w_o_firstChild, w_o_nextSibling, w_o_childPixel, w_o_prefix, w_o_suffix, w_o_firstPix, w_o_strLen, w_o_width, w_o_height, w_o_total, w_o_palette, w_o_minSize, w_o_clearCode, w_o_maxWidth, w_o_codeLimit, w_o_interlaced, w_o_blockSize, w_o_outLen, w_o_inLen, w_o_hasDecoded, w_o_status, w_o_bitPos, w_o_encWidth, w_o_encNext, w_o_dataLen, w_o_readPos, w_o_decWidth, w_o_decNext, w_o_decPrev, w_o_decCount)) : OEnds own_P 1 0 [qr 1, qi v1, qi v2, qi v3, qi v4, qu, qu] [] (c0 :: (.inl (0, [.null, .null, .null, .null, .null, .null, .null, .null, .null, .null, .null, .null, .null, .null, .int 0, .int 0, .int 0, .int 0, .int 0, .int 0, .int 0, .int 0, .int 0, .int 0, .int 0, .int 0, .int 0, .int 0, .int 0, .int 0, .int 0, .int 0, .int 0, .int 0, .int 0, .int 0, .int 0]) : ACell) :: []) (none, (c0 :: bk0 w_o_pixels w_o_out w_o_in w_o_decodedPix w_o_rowOrder w_o_streamBuf w_o_data w_o_firstChild w_o_nextSibling w_o_childPixel w_o_prefix w_o_suffix w_o_firstPix w_o_strLen w_o_width w_o_height w_o_total w_o_palette w_o_minSize w_o_clearCode w_o_maxWidth w_o_codeLimit w_o_interlaced w_o_blockSize w_o_outLen w_o_inLen w_o_hasDecoded w_o_status w_o_bitPos w_o_encWidth w_o_encNext w_o_dataLen w_o_readPos w_o_decWidth w_o_decNext w_o_decPrev w_o_decCount []), 14, 5792) := by
  unfold f_init at h
  refine OEnds.adv hm_1 1 (pc' := 1) (L' := [qr 1, qi v1, qi v2, qi v3, qi v4, qu, qu]) (S' := [.ref 1]) (H' := (c0 :: (.inl (0, [.null, .null, .null, .null, .null, .null, .null, .null, .null, .null, .null, .null, .null, .null, .int 0, .int 0, .int 0, .int 0, .int 0, .int 0, .int 0, .int 0, .int 0, .int 0, .int 0, .int 0, .int 0, .int 0, .int 0, .int 0, .int 0, .int 0, .int 0, .int 0, .int 0, .int 0, .int 0]) : ACell) :: [])) rfl ?_
  refine OEnds.oinit hm_1 rfl ⟨Nat.le_of_ble_eq_true rfl, Nat.le_of_ble_eq_true rfl⟩ ?_
  refine OEnds.adv hm_1 2 (pc' := 8) (L' := [qr 1, qi v1, qi v2, qi v3, qi v4, qu, qu]) (S' := [.int 256, .ref 1]) (H' := (c0 :: (.inl (0, [.null, .null, .null, .null, .null, .null, .null, .null, .null, .null, .null, .null, .null, .null, .int 0, .int 0, .int 0, .int 0, .int 0, .int 0, .int 0, .int 0, .int 0, .int 0, .int 0, .int 0, .int 0, .int 0, .int 0, .int 0, .int 0, .int 0, .int 0, .int 0, .int 0, .int 0, .int 0]) : ACell) :: [])) rfl ?_
  refine OEnds.made1 hm_1 rfl rfl (ks := 256) rfl rfl ?_
  refine OEnds.adv hm_1 3 (pc' := 17) (L' := [qr 1, qi v1, qi v2, qi v3, qi v4, qu, qu]) (S' := [.int 400, .ref 1]) (H' := (c0 :: (.inl (0, [.ref 2, .null, .null, .null, .null, .null, .null, .null, .null, .null, .null, .null, .null, .null, .int 0, .int 0, .int 0, .int 0, .int 0, .int 0, .int 0, .int 0, .int 0, .int 0, .int 0, .int 0, .int 0, .int 0, .int 0, .int 0, .int 0, .int 0, .int 0, .int 0, .int 0, .int 0, .int 0]) : ACell) :: .inr (.inl (false, (List.replicate 256 0))) :: [])) rfl ?_
  refine OEnds.made1 hm_1 rfl rfl (ks := 400) rfl rfl ?_
  refine OEnds.adv hm_1 3 (pc' := 26) (L' := [qr 1, qi v1, qi v2, qi v3, qi v4, qu, qu]) (S' := [.int 512, .ref 1]) (H' := (c0 :: (.inl (0, [.ref 2, .ref 3, .null, .null, .null, .null, .null, .null, .null, .null, .null, .null, .null, .null, .int 0, .int 0, .int 0, .int 0, .int 0, .int 0, .int 0, .int 0, .int 0, .int 0, .int 0, .int 0, .int 0, .int 0, .int 0, .int 0, .int 0, .int 0, .int 0, .int 0, .int 0, .int 0, .int 0]) : ACell) :: .inr (.inl (false, (List.replicate 256 0))) :: .inr (.inl (false, (List.replicate 400 0))) :: [])) rfl ?_
  refine OEnds.made1 hm_1 rfl rfl (ks := 512) rfl rfl ?_
  refine OEnds.adv hm_1 3 (pc' := 35) (L' := [qr 1, qi v1, qi v2, qi v3, qi v4, qu, qu]) (S' := [.int 256, .ref 1]) (H' := (c0 :: (.inl (0, [.ref 2, .ref 3, .ref 4, .null, .null, .null, .null, .null, .null, .null, .null, .null, .null, .null, .int 0, .int 0, .int 0, .int 0, .int 0, .int 0, .int 0, .int 0, .int 0, .int 0, .int 0, .int 0, .int 0, .int 0, .int 0, .int 0, .int 0, .int 0, .int 0, .int 0, .int 0, .int 0, .int 0]) : ACell) :: .inr (.inl (false, (List.replicate 256 0))) :: .inr (.inl (false, (List.replicate 400 0))) :: .inr (.inl (false, (List.replicate 512 0))) :: [])) rfl ?_
  refine OEnds.made1 hm_1 rfl rfl (ks := 256) rfl rfl ?_
  refine OEnds.adv hm_1 3 (pc' := 43) (L' := [qr 1, qi v1, qi v2, qi v3, qi v4, qu, qu]) (S' := [.int 16, .ref 1]) (H' := (c0 :: (.inl (0, [.ref 2, .ref 3, .ref 4, .ref 5, .null, .null, .null, .null, .null, .null, .null, .null, .null, .null, .int 0, .int 0, .int 0, .int 0, .int 0, .int 0, .int 0, .int 0, .int 0, .int 0, .int 0, .int 0, .int 0, .int 0, .int 0, .int 0, .int 0, .int 0, .int 0, .int 0, .int 0, .int 0, .int 0]) : ACell) :: .inr (.inl (false, (List.replicate 256 0))) :: .inr (.inl (false, (List.replicate 400 0))) :: .inr (.inl (false, (List.replicate 512 0))) :: .inr (.inl (false, (List.replicate 256 0))) :: [])) rfl ?_
  refine OEnds.made1 hm_1 rfl rfl (ks := 16) rfl rfl ?_
  refine OEnds.adv hm_1 3 (pc' := 52) (L' := [qr 1, qi v1, qi v2, qi v3, qi v4, qu, qu]) (S' := [.int 256, .ref 1]) (H' := (c0 :: (.inl (0, [.ref 2, .ref 3, .ref 4, .ref 5, .ref 6, .null, .null, .null, .null, .null, .null, .null, .null, .null, .int 0, .int 0, .int 0, .int 0, .int 0, .int 0, .int 0, .int 0, .int 0, .int 0, .int 0, .int 0, .int 0, .int 0, .int 0, .int 0, .int 0, .int 0, .int 0, .int 0, .int 0, .int 0, .int 0]) : ACell) :: .inr (.inl (false, (List.replicate 256 0))) :: .inr (.inl (false, (List.replicate 400 0))) :: .inr (.inl (false, (List.replicate 512 0))) :: .inr (.inl (false, (List.replicate 256 0))) :: .inr (.inl (false, (List.replicate 16 0))) :: [])) rfl ?_
  refine OEnds.made1 hm_1 rfl rfl (ks := 256) rfl rfl ?_
  refine OEnds.adv hm_1 3 (pc' := 61) (L' := [qr 1, qi v1, qi v2, qi v3, qi v4, qu, qu]) (S' := [.int 512, .ref 1]) (H' := (c0 :: (.inl (0, [.ref 2, .ref 3, .ref 4, .ref 5, .ref 6, .ref 7, .null, .null, .null, .null, .null, .null, .null, .null, .int 0, .int 0, .int 0, .int 0, .int 0, .int 0, .int 0, .int 0, .int 0, .int 0, .int 0, .int 0, .int 0, .int 0, .int 0, .int 0, .int 0, .int 0, .int 0, .int 0, .int 0, .int 0, .int 0]) : ACell) :: .inr (.inl (false, (List.replicate 256 0))) :: .inr (.inl (false, (List.replicate 400 0))) :: .inr (.inl (false, (List.replicate 512 0))) :: .inr (.inl (false, (List.replicate 256 0))) :: .inr (.inl (false, (List.replicate 16 0))) :: .inr (.inl (false, (List.replicate 256 0))) :: [])) rfl ?_
  refine OEnds.made1 hm_1 rfl rfl (ks := 512) rfl rfl ?_
  refine OEnds.adv hm_1 3 (pc' := 70) (L' := [qr 1, qi v1, qi v2, qi v3, qi v4, qu, qu]) (S' := [.int 512, .ref 1]) (H' := (c0 :: (.inl (0, [.ref 2, .ref 3, .ref 4, .ref 5, .ref 6, .ref 7, .ref 8, .null, .null, .null, .null, .null, .null, .null, .int 0, .int 0, .int 0, .int 0, .int 0, .int 0, .int 0, .int 0, .int 0, .int 0, .int 0, .int 0, .int 0, .int 0, .int 0, .int 0, .int 0, .int 0, .int 0, .int 0, .int 0, .int 0, .int 0]) : ACell) :: .inr (.inl (false, (List.replicate 256 0))) :: .inr (.inl (false, (List.replicate 400 0))) :: .inr (.inl (false, (List.replicate 512 0))) :: .inr (.inl (false, (List.replicate 256 0))) :: .inr (.inl (false, (List.replicate 16 0))) :: .inr (.inl (false, (List.replicate 256 0))) :: .inr (.inl (false, (List.replicate 512 0))) :: [])) rfl ?_
  refine OEnds.made1 hm_1 rfl rfl (ks := 512) rfl rfl ?_
  refine OEnds.adv hm_1 3 (pc' := 79) (L' := [qr 1, qi v1, qi v2, qi v3, qi v4, qu, qu]) (S' := [.int 512, .ref 1]) (H' := (c0 :: (.inl (0, [.ref 2, .ref 3, .ref 4, .ref 5, .ref 6, .ref 7, .ref 8, .ref 9, .null, .null, .null, .null, .null, .null, .int 0, .int 0, .int 0, .int 0, .int 0, .int 0, .int 0, .int 0, .int 0, .int 0, .int 0, .int 0, .int 0, .int 0, .int 0, .int 0, .int 0, .int 0, .int 0, .int 0, .int 0, .int 0, .int 0]) : ACell) :: .inr (.inl (false, (List.replicate 256 0))) :: .inr (.inl (false, (List.replicate 400 0))) :: .inr (.inl (false, (List.replicate 512 0))) :: .inr (.inl (false, (List.replicate 256 0))) :: .inr (.inl (false, (List.replicate 16 0))) :: .inr (.inl (false, (List.replicate 256 0))) :: .inr (.inl (false, (List.replicate 512 0))) :: .inr (.inl (false, (List.replicate 512 0))) :: [])) rfl ?_
  refine OEnds.made1 hm_1 rfl rfl (ks := 512) rfl rfl ?_
  refine OEnds.adv hm_1 3 (pc' := 88) (L' := [qr 1, qi v1, qi v2, qi v3, qi v4, qu, qu]) (S' := [.int 512, .ref 1]) (H' := (c0 :: (.inl (0, [.ref 2, .ref 3, .ref 4, .ref 5, .ref 6, .ref 7, .ref 8, .ref 9, .ref 10, .null, .null, .null, .null, .null, .int 0, .int 0, .int 0, .int 0, .int 0, .int 0, .int 0, .int 0, .int 0, .int 0, .int 0, .int 0, .int 0, .int 0, .int 0, .int 0, .int 0, .int 0, .int 0, .int 0, .int 0, .int 0, .int 0]) : ACell) :: .inr (.inl (false, (List.replicate 256 0))) :: .inr (.inl (false, (List.replicate 400 0))) :: .inr (.inl (false, (List.replicate 512 0))) :: .inr (.inl (false, (List.replicate 256 0))) :: .inr (.inl (false, (List.replicate 16 0))) :: .inr (.inl (false, (List.replicate 256 0))) :: .inr (.inl (false, (List.replicate 512 0))) :: .inr (.inl (false, (List.replicate 512 0))) :: .inr (.inl (false, (List.replicate 512 0))) :: [])) rfl ?_
  refine OEnds.made1 hm_1 rfl rfl (ks := 512) rfl rfl ?_
  refine OEnds.adv hm_1 3 (pc' := 97) (L' := [qr 1, qi v1, qi v2, qi v3, qi v4, qu, qu]) (S' := [.int 512, .ref 1]) (H' := (c0 :: (.inl (0, [.ref 2, .ref 3, .ref 4, .ref 5, .ref 6, .ref 7, .ref 8, .ref 9, .ref 10, .ref 11, .null, .null, .null, .null, .int 0, .int 0, .int 0, .int 0, .int 0, .int 0, .int 0, .int 0, .int 0, .int 0, .int 0, .int 0, .int 0, .int 0, .int 0, .int 0, .int 0, .int 0, .int 0, .int 0, .int 0, .int 0, .int 0]) : ACell) :: .inr (.inl (false, (List.replicate 256 0))) :: .inr (.inl (false, (List.replicate 400 0))) :: .inr (.inl (false, (List.replicate 512 0))) :: .inr (.inl (false, (List.replicate 256 0))) :: .inr (.inl (false, (List.replicate 16 0))) :: .inr (.inl (false, (List.replicate 256 0))) :: .inr (.inl (false, (List.replicate 512 0))) :: .inr (.inl (false, (List.replicate 512 0))) :: .inr (.inl (false, (List.replicate 512 0))) :: .inr (.inl (false, (List.replicate 512 0))) :: [])) rfl ?_
  refine OEnds.made1 hm_1 rfl rfl (ks := 512) rfl rfl ?_
  refine OEnds.adv hm_1 3 (pc' := 106) (L' := [qr 1, qi v1, qi v2, qi v3, qi v4, qu, qu]) (S' := [.int 512, .ref 1]) (H' := (c0 :: (.inl (0, [.ref 2, .ref 3, .ref 4, .ref 5, .ref 6, .ref 7, .ref 8, .ref 9, .ref 10, .ref 11, .ref 12, .null, .null, .null, .int 0, .int 0, .int 0, .int 0, .int 0, .int 0, .int 0, .int 0, .int 0, .int 0, .int 0, .int 0, .int 0, .int 0, .int 0, .int 0, .int 0, .int 0, .int 0, .int 0, .int 0, .int 0, .int 0]) : ACell) :: .inr (.inl (false, (List.replicate 256 0))) :: .inr (.inl (false, (List.replicate 400 0))) :: .inr (.inl (false, (List.replicate 512 0))) :: .inr (.inl (false, (List.replicate 256 0))) :: .inr (.inl (false, (List.replicate 16 0))) :: .inr (.inl (false, (List.replicate 256 0))) :: .inr (.inl (false, (List.replicate 512 0))) :: .inr (.inl (false, (List.replicate 512 0))) :: .inr (.inl (false, (List.replicate 512 0))) :: .inr (.inl (false, (List.replicate 512 0))) :: .inr (.inl (false, (List.replicate 512 0))) :: [])) rfl ?_
  refine OEnds.made1 hm_1 rfl rfl (ks := 512) rfl rfl ?_
  refine OEnds.adv hm_1 3 (pc' := 115) (L' := [qr 1, qi v1, qi v2, qi v3, qi v4, qu, qu]) (S' := [.int 512, .ref 1]) (H' := (c0 :: (.inl (0, [.ref 2, .ref 3, .ref 4, .ref 5, .ref 6, .ref 7, .ref 8, .ref 9, .ref 10, .ref 11, .ref 12, .ref 13, .null, .null, .int 0, .int 0, .int 0, .int 0, .int 0, .int 0, .int 0, .int 0, .int 0, .int 0, .int 0, .int 0, .int 0, .int 0, .int 0, .int 0, .int 0, .int 0, .int 0, .int 0, .int 0, .int 0, .int 0]) : ACell) :: .inr (.inl (false, (List.replicate 256 0))) :: .inr (.inl (false, (List.replicate 400 0))) :: .inr (.inl (false, (List.replicate 512 0))) :: .inr (.inl (false, (List.replicate 256 0))) :: .inr (.inl (false, (List.replicate 16 0))) :: .inr (.inl (false, (List.replicate 256 0))) :: .inr (.inl (false, (List.replicate 512 0))) :: .inr (.inl (false, (List.replicate 512 0))) :: .inr (.inl (false, (List.replicate 512 0))) :: .inr (.inl (false, (List.replicate 512 0))) :: .inr (.inl (false, (List.replicate 512 0))) :: .inr (.inl (false, (List.replicate 512 0))) :: [])) rfl ?_
  refine OEnds.made1 hm_1 rfl rfl (ks := 512) rfl rfl ?_
  refine OEnds.adv hm_1 3 (pc' := 124) (L' := [qr 1, qi v1, qi v2, qi v3, qi v4, qu, qu]) (S' := [.int 512, .ref 1]) (H' := (c0 :: (.inl (0, [.ref 2, .ref 3, .ref 4, .ref 5, .ref 6, .ref 7, .ref 8, .ref 9, .ref 10, .ref 11, .ref 12, .ref 13, .ref 14, .null, .int 0, .int 0, .int 0, .int 0, .int 0, .int 0, .int 0, .int 0, .int 0, .int 0, .int 0, .int 0, .int 0, .int 0, .int 0, .int 0, .int 0, .int 0, .int 0, .int 0, .int 0, .int 0, .int 0]) : ACell) :: .inr (.inl (false, (List.replicate 256 0))) :: .inr (.inl (false, (List.replicate 400 0))) :: .inr (.inl (false, (List.replicate 512 0))) :: .inr (.inl (false, (List.replicate 256 0))) :: .inr (.inl (false, (List.replicate 16 0))) :: .inr (.inl (false, (List.replicate 256 0))) :: .inr (.inl (false, (List.replicate 512 0))) :: .inr (.inl (false, (List.replicate 512 0))) :: .inr (.inl (false, (List.replicate 512 0))) :: .inr (.inl (false, (List.replicate 512 0))) :: .inr (.inl (false, (List.replicate 512 0))) :: .inr (.inl (false, (List.replicate 512 0))) :: .inr (.inl (false, (List.replicate 512 0))) :: [])) rfl ?_
  refine OEnds.made1 hm_1 rfl rfl (ks := 512) rfl rfl ?_
  refine OEnds.adv hm_1 6 (pc' := 135) (L' := [qr 1, qi v1, qi v2, qi v3, qi v4, qu, qu]) (S' := [.int 16, .int 1, .int v1, .ref 1, .ref 1]) (H' := (c0 :: bk0 (List.replicate 256 0) (List.replicate 400 0) (List.replicate 512 0) (List.replicate 256 0) (List.replicate 16 0) (List.replicate 256 0) (List.replicate 512 0) (List.replicate 512 0) (List.replicate 512 0) (List.replicate 512 0) (List.replicate 512 0) (List.replicate 512 0) (List.replicate 512 0) (List.replicate 512 0) 0 0 0 0 0 0 0 0 0 0 0 0 0 0 0 0 0 0 0 0 0 0 0 [])) rfl ?_
  obtain ⟨r1, hq8, h⟩ := bnd h
  refine OEnds.call0 hm_1 rfl rfl (by decide) rfl (as := [.ref 1, .int v1, .int 1, .int 16]) (rest := [.ref 1]) rfl rfl (ok_clamp hq8) ?_
  refine OEnds.adv hm_1 6 (pc' := 147) (L' := [qr 1, qi v1, qi v2, qi v3, qi v4, qu, qu]) (S' := [.int 16, .int 1, .int v2, .ref 1, .ref 1]) (H' := (c0 :: bk0 (List.replicate 256 0) (List.replicate 400 0) (List.replicate 512 0) (List.replicate 256 0) (List.replicate 16 0) (List.replicate 256 0) (List.replicate 512 0) (List.replicate 512 0) (List.replicate 512 0) (List.replicate 512 0) (List.replicate 512 0) (List.replicate 512 0) (List.replicate 512 0) (List.replicate 512 0) r1 0 0 0 0 0 0 0 0 0 0 0 0 0 0 0 0 0 0 0 0 0 0 [])) rfl ?_
  obtain ⟨r2, hq9, h⟩ := bnd h
  refine OEnds.call0 hm_1 rfl rfl (by decide) rfl (as := [.ref 1, .int v2, .int 1, .int 16]) (rest := [.ref 1]) rfl rfl (ok_clamp hq9) ?_
  refine OEnds.adv hm_1 13 (pc' := 173) (L' := [qr 1, qi v1, qi v2, qi v3, qi v4, qu, qu]) (S' := [.int 256, .int 2, .int v3, .ref 1, .ref 1]) (H' := (c0 :: bk0 (List.replicate 256 0) (List.replicate 400 0) (List.replicate 512 0) (List.replicate 256 0) (List.replicate 16 0) (List.replicate 256 0) (List.replicate 512 0) (List.replicate 512 0) (List.replicate 512 0) (List.replicate 512 0) (List.replicate 512 0) (List.replicate 512 0) (List.replicate 512 0) (List.replicate 512 0) r1 r2 (r1 * r2) 0 0 0 0 0 0 0 0 0 0 0 0 0 0 0 0 0 0 0 0 [])) rfl ?_
  obtain ⟨r3, hq10, h⟩ := bnd h
  refine OEnds.call0 hm_1 rfl rfl (by decide) rfl (as := [.ref 1, .int v3, .int 2, .int 256]) (rest := [.ref 1]) rfl rfl (ok_clamp hq10) ?_
  refine OEnds.adv hm_1 5 (pc' := 185) (L' := [qr 1, qi v1, qi v2, qi v3, qi v4, qi 2, qi 0]) (S' := []) (H' := (c0 :: bk0 (List.replicate 256 0) (List.replicate 400 0) (List.replicate 512 0) (List.replicate 256 0) (List.replicate 16 0) (List.replicate 256 0) (List.replicate 512 0) (List.replicate 512 0) (List.replicate 512 0) (List.replicate 512 0) (List.replicate 512 0) (List.replicate 512 0) (List.replicate 512 0) (List.replicate 512 0) r1 r2 (r1 * r2) r3 0 0 0 0 0 0 0 0 0 0 0 0 0 0 0 0 0 0 0 [])) rfl ?_
  exact ok_init_185 (k219 := f_init_219) ok_init_219 100000 h
theorem ok_addRows_36 {zag zy zw zai zh zc zaa zab zae zo zm zu zt : List Int32} {zv zx zb zl zg za zd zf zah zaf zp zn zaj zak ze zr zs zac zad zj zi zq zk : Int32} {c0 : ACell} {po : List ACell} {kb : List Int32 → Int32 → Int32 → Int32 → Option (Int32 × List Int32)} (hkb : ∀ {zz : List Int32} {v3 v4 v5 : Int32} {d1 d2 : Slot} {res : Int32} {w_o_rowOrder : List Int32}, kb zz v3 v4 v5 = some (res, w_o_rowOrder) → OEnds own_P 30 6 [qr 1, d1, d2, qi v3, qi v4, qi v5] [] (c0 :: bk0 zag zy zw zai zz zh zc zaa zab zae zo zm zu zt zv zx zb zl zg za zd zf zah zaf zp zn zaj zak ze zr zs zac zad zj zi zq zk po) (some (.int res), (c0 :: bk0 zag zy zw zai w_o_rowOrder zh zc zaa zab zae zo zm zu zt zv zx zb zl zg za zd zf zah zaf zp zn zaj zak ze zr zs zac zad zj zi zq zk po), 0, 0)) : ∀ {zz : List Int32} {v3 v4 v5 : Int32} {d1 d2 : Slot} {res : Int32} {w_o_rowOrder : List Int32}, f_addRows_36 kb zx zz v3 v4 v5 = some (res, w_o_rowOrder) → OEnds own_P 30 36 [qr 1, d1, d2, qi v3, qi v4, qi v5] [] (c0 :: bk0 zag zy zw zai zz zh zc zaa zab zae zo zm zu zt zv zx zb zl zg za zd zf zah zaf zp zn zaj zak ze zr zs zac zad zj zi zq zk po) (some (.int res), (c0 :: bk0 zag zy zw zai w_o_rowOrder zh zc zaa zab zae zo zm zu zt zv zx zb zl zg za zd zf zah zaf zp zn zaj zak ze zr zs zac zad zj zi zq zk po), 0, 0) := by
  intro zz v3 v4 v5 d1 d2 res w_o_rowOrder h
  unfold f_addRows_36 at h
  refine OEnds.adv hm_30 6 (pc' := 6) (L' := [qr 1, qu, qu, qi v3, qi (v4 + (1 : Int32)), qi (v5 + v3)]) (S' := []) (H' := (c0 :: bk0 zag zy zw zai zz zh zc zaa zab zae zo zm zu zt zv zx zb zl zg za zd zf zah zaf zp zn zaj zak ze zr zs zac zad zj zi zq zk po)) rfl ?_
  exact hkb h
theorem ok_addRows_6 {zag zy zw zai zh zc zaa zab zae zo zm zu zt : List Int32} {zv zx zb zl zg za zd zf zah zaf zp zn zaj zak ze zr zs zac zad zj zi zq zk : Int32} {c0 : ACell} {po : List ACell} : ∀ (n : Nat), ∀ {zz : List Int32} {v3 v4 v5 : Int32} {d1 d2 : Slot} {res : Int32} {w_o_rowOrder : List Int32}, f_addRows_6 zx n zz v3 v4 v5 = some (res, w_o_rowOrder) → OEnds own_P 30 6 [qr 1, d1, d2, qi v3, qi v4, qi v5] [] (c0 :: bk0 zag zy zw zai zz zh zc zaa zab zae zo zm zu zt zv zx zb zl zg za zd zf zah zaf zp zn zaj zak ze zr zs zac zad zj zi zq zk po) (some (.int res), (c0 :: bk0 zag zy zw zai w_o_rowOrder zh zc zaa zab zae zo zm zu zt zv zx zb zl zg za zd zf zah zaf zp zn zaj zak ze zr zs zac zad zj zi zq zk po), 0, 0) := by
  intro n
  induction n with
  | zero => intro zz v3 v4 v5 d1 d2 res w_o_rowOrder h; cases h
  | succ n ih =>
    intro zz v3 v4 v5 d1 d2 res w_o_rowOrder h
    unfold f_addRows_6 at h
    refine OEnds.adv hm_30 3 (pc' := 12) (L' := [qr 1, qu, qu, qi v3, qi v4, qi v5]) (S' := [.int zx, .int v5]) (H' := (c0 :: bk0 zag zy zw zai zz zh zc zaa zab zae zo zm zu zt zv zx zb zl zg za zd zf zah zaf zp zn zaj zak ze zr zs zac zad zj zi zq zk po)) rfl ?_
    by_cases hc11 : v5 < zx
    · simp only [if_pos hc11] at h
      refine OEnds.icmpF hm_30 rfl ((tlt hc11).2.1) ?_
      refine OEnds.adv hm_30 1 (pc' := 17) (L' := [qr 1, qu, qu, qi v3, qi v4, qi v5]) (S' := [.int v4]) (H' := (c0 :: bk0 zag zy zw zai zz zh zc zaa zab zae zo zm zu zt zv zx zb zl zg za zd zf zah zaf zp zn zaj zak ze zr zs zac zad zj zi zq zk po)) rfl ?_
      by_cases hc12 : v4 < (0 : Int32)
      · simp only [if_pos hc12] at h
        refine OEnds.ifT hm_30 rfl (q := 36) rfl ((tlt hc12).1) ?_
        show OEnds own_P 30 36 [qr 1, qu, qu, qi v3, qi v4, qi v5] [] (c0 :: bk0 zag zy zw zai zz zh zc zaa zab zae zo zm zu zt zv zx zb zl zg za zd zf zah zaf zp zn zaj zak ze zr zs zac zad zj zi zq zk po) _
        exact ok_addRows_36 ih h
      · simp only [if_neg hc12] at h
        refine OEnds.ifF hm_30 rfl ((flt hc12).1) ?_
        refine OEnds.adv hm_30 2 (pc' := 24) (L' := [qr 1, qu, qu, qi v3, qi v4, qi v5]) (S' := [.int 16, .int v4]) (H' := (c0 :: bk0 zag zy zw zai zz zh zc zaa zab zae zo zm zu zt zv zx zb zl zg za zd zf zah zaf zp zn zaj zak ze zr zs zac zad zj zi zq zk po)) rfl ?_
        by_cases hc13 : v4 < (16 : Int32)
        · simp only [if_pos hc13] at h
          refine OEnds.icmpF hm_30 rfl ((tlt hc13).2.1) ?_
          refine OEnds.adv hm_30 4 (pc' := 35) (L' := [qr 1, qu, qu, qi v3, qi v4, qi v5]) (S' := [.int v5, .int v4, .ref 6]) (H' := (c0 :: bk0 zag zy zw zai zz zh zc zaa zab zae zo zm zu zt zv zx zb zl zg za zd zf zah zaf zp zn zaj zak ze zr zs zac zad zj zi zq zk po)) rfl ?_
          obtain ⟨A8, hA8, h⟩ := bnd h
          refine OEnds.plain hm_30 rfl rfl (x_iastore rfl (Nat.le_of_ble_eq_true rfl) hA8) ?_
          show OEnds own_P 30 36 [qr 1, qu, qu, qi v3, qi v4, qi v5] [] (c0 :: bk0 zag zy zw zai A8 zh zc zaa zab zae zo zm zu zt zv zx zb zl zg za zd zf zah zaf zp zn zaj zak ze zr zs zac zad zj zi zq zk po) _
          exact ok_addRows_36 ih h
        · simp only [if_neg hc13] at h
          refine OEnds.icmpT hm_30 rfl (q := 36) rfl ((flt hc13).2.1) ?_
          show OEnds own_P 30 36 [qr 1, qu, qu, qi v3, qi v4, qi v5] [] (c0 :: bk0 zag zy zw zai zz zh zc zaa zab zae zo zm zu zt zv zx zb zl zg za zd zf zah zaf zp zn zaj zak ze zr zs zac zad zj zi zq zk po) _
          exact ok_addRows_36 ih h
    · simp only [if_neg hc11] at h
      refine OEnds.icmpT hm_30 rfl (q := 48) rfl ((flt hc11).2.1) ?_
      refine OEnds.adv hm_30 1 (pc' := 50) (L' := [qr 1, qu, qu, qi v3, qi v4, qi v5]) (S' := [.int v4]) (H' := (c0 :: bk0 zag zy zw zai zz zh zc zaa zab zae zo zm zu zt zv zx zb zl zg za zd zf zah zaf zp zn zaj zak ze zr zs zac zad zj zi zq zk po)) rfl ?_
      cases h
      exact OEnds.iret hm_30 rfl rfl
theorem ok_addRows {zag zy zw zai zh zc zaa zab zae zo zm zu zt : List Int32} {zv zx zb zl zg za zd zf zah zaf zp zn zaj zak ze zr zs zac zad zj zi zq zk : Int32} {c0 : ACell} {po : List ACell} {zz : List Int32} {v1 v2 v3 res : Int32} {w_o_rowOrder : List Int32} (h : f_addRows zx zz v1 v2 v3 = some (res, w_o_rowOrder)) : OEnds own_P 30 0 [qr 1, qi v1, qi v2, qi v3, qu, qu] [] (c0 :: bk0 zag zy zw zai zz zh zc zaa zab zae zo zm zu zt zv zx zb zl zg za zd zf zah zaf zp zn zaj zak ze zr zs zac zad zj zi zq zk po) (some (.int res), (c0 :: bk0 zag zy zw zai w_o_rowOrder zh zc zaa zab zae zo zm zu zt zv zx zb zl zg za zd zf zah zaf zp zn zaj zak ze zr zs zac zad zj zi zq zk po), 0, 0) := by
  unfold f_addRows at h
  refine OEnds.adv hm_30 4 (pc' := 6) (L' := [qr 1, qi v1, qi v2, qi v3, qi v1, qi v2]) (S' := []) (H' := (c0 :: bk0 zag zy zw zai zz zh zc zaa zab zae zo zm zu zt zv zx zb zl zg za zd zf zah zaf zp zn zaj zak ze zr zs zac zad zj zi zq zk po)) rfl ?_
  exact ok_addRows_6 100000 h
theorem ok_buildRowOrder_9 {zag zy zw zai zh zc zaa zab zae zo zm zu zt : List Int32} {zv zx zb zl zg za zd zf zah zaf zp zn zaj zak ze zr zs zac zad zj zi zq zk : Int32} {c0 : ACell} {po : List ACell} : ∀ (n : Nat), ∀ {zz : List Int32} {v1 : Int32} {w_o_rowOrder : List Int32}, f_buildRowOrder_9 zx zah n zz v1 = some w_o_rowOrder → OEnds own_P 15 9 [qr 1, qi v1] [] (c0 :: bk0 zag zy zw zai zz zh zc zaa zab zae zo zm zu zt zv zx zb zl zg za zd zf zah zaf zp zn zaj zak ze zr zs zac zad zj zi zq zk po) (none, (c0 :: bk0 zag zy zw zai w_o_rowOrder zh zc zaa zab zae zo zm zu zt zv zx zb zl zg za zd zf zah zaf zp zn zaj zak ze zr zs zac zad zj zi zq zk po), 0, 0) := by
  intro n
  induction n with
  | zero => intro zz v1 w_o_rowOrder h; cases h
  | succ n ih =>
    intro zz v1 w_o_rowOrder h
    unfold f_buildRowOrder_9 at h
    refine OEnds.adv hm_15 3 (pc' := 14) (L' := [qr 1, qi v1]) (S' := [.int zx, .int v1]) (H' := (c0 :: bk0 zag zy zw zai zz zh zc zaa zab zae zo zm zu zt zv zx zb zl zg za zd zf zah zaf zp zn zaj zak ze zr zs zac zad zj zi zq zk po)) rfl ?_
    by_cases hc14 : v1 < zx
    · simp only [if_pos hc14] at h
      refine OEnds.icmpF hm_15 rfl ((tlt hc14).2.1) ?_
      refine OEnds.adv hm_15 2 (pc' := 20) (L' := [qr 1, qi v1]) (S' := [.int 16, .int v1]) (H' := (c0 :: bk0 zag zy zw zai zz zh zc zaa zab zae zo zm zu zt zv zx zb zl zg za zd zf zah zaf zp zn zaj zak ze zr zs zac zad zj zi zq zk po)) rfl ?_
      by_cases hc15 : v1 < (16 : Int32)
      · simp only [if_pos hc15] at h
        refine OEnds.icmpF hm_15 rfl ((tlt hc15).2.1) ?_
        refine OEnds.adv hm_15 4 (pc' := 29) (L' := [qr 1, qi v1]) (S' := [.int v1, .int v1, .ref 6]) (H' := (c0 :: bk0 zag zy zw zai zz zh zc zaa zab zae zo zm zu zt zv zx zb zl zg za zd zf zah zaf zp zn zaj zak ze zr zs zac zad zj zi zq zk po)) rfl ?_
        obtain ⟨A17, hA17, h⟩ := bnd h
        refine OEnds.plain hm_15 rfl rfl (x_iastore rfl (Nat.le_of_ble_eq_true rfl) hA17) ?_
        refine OEnds.adv hm_15 2 (pc' := 9) (L' := [qr 1, qi (v1 + (1 : Int32))]) (S' := []) (H' := (c0 :: bk0 zag zy zw zai A17 zh zc zaa zab zae zo zm zu zt zv zx zb zl zg za zd zf zah zaf zp zn zaj zak ze zr zs zac zad zj zi zq zk po)) rfl ?_
        exact ih h
      · simp only [if_neg hc15] at h
        refine OEnds.icmpT hm_15 rfl (q := 36) rfl ((flt hc15).2.1) ?_
        show OEnds own_P 15 36 [qr 1, qi v1] [] (c0 :: bk0 zag zy zw zai zz zh zc zaa zab zae zo zm zu zt zv zx zb zl zg za zd zf zah zaf zp zn zaj zak ze zr zs zac zad zj zi zq zk po) _
        cases h
        exact OEnds.vret hm_15 rfl rfl
    · simp only [if_neg hc14] at h
      refine OEnds.icmpT hm_15 rfl (q := 36) rfl ((flt hc14).2.1) ?_
      show OEnds own_P 15 36 [qr 1, qi v1] [] (c0 :: bk0 zag zy zw zai zz zh zc zaa zab zae zo zm zu zt zv zx zb zl zg za zd zf zah zaf zp zn zaj zak ze zr zs zac zad zj zi zq zk po) _
      cases h
      exact OEnds.vret hm_15 rfl rfl
theorem ok_buildRowOrder {zag zy zw zai zh zc zaa zab zae zo zm zu zt : List Int32} {zv zx zb zl zg za zd zf zah zaf zp zn zaj zak ze zr zs zac zad zj zi zq zk : Int32} {c0 : ACell} {po : List ACell} {zz w_o_rowOrder : List Int32} (h : f_buildRowOrder zx zah zz = some w_o_rowOrder) : OEnds own_P 15 0 [qr 1, qu] [] (c0 :: bk0 zag zy zw zai zz zh zc zaa zab zae zo zm zu zt zv zx zb zl zg za zd zf zah zaf zp zn zaj zak ze zr zs zac zad zj zi zq zk po) (none, (c0 :: bk0 zag zy zw zai w_o_rowOrder zh zc zaa zab zae zo zm zu zt zv zx zb zl zg za zd zf zah zaf zp zn zaj zak ze zr zs zac zad zj zi zq zk po), 0, 0) := by
  unfold f_buildRowOrder at h
  refine OEnds.adv hm_15 2 (pc' := 4) (L' := [qr 1, qu]) (S' := [.int zah]) (H' := (c0 :: bk0 zag zy zw zai zz zh zc zaa zab zae zo zm zu zt zv zx zb zl zg za zd zf zah zaf zp zn zaj zak ze zr zs zac zad zj zi zq zk po)) rfl ?_
  by_cases hc16 : zah = (0 : Int32)
  · simp only [if_pos hc16] at h
    refine OEnds.ifF hm_15 rfl ((teq hc16).2) ?_
    refine OEnds.adv hm_15 2 (pc' := 9) (L' := [qr 1, qi 0]) (S' := []) (H' := (c0 :: bk0 zag zy zw zai zz zh zc zaa zab zae zo zm zu zt zv zx zb zl zg za zd zf zah zaf zp zn zaj zak ze zr zs zac zad zj zi zq zk po)) rfl ?_
    exact ok_buildRowOrder_9 100000 h
  · simp only [if_neg hc16] at h
    refine OEnds.ifT hm_15 rfl (q := 37) rfl ((feq hc16).2) ?_
    refine OEnds.adv hm_15 4 (pc' := 42) (L' := [qr 1, qu]) (S' := [.int 8, .int 0, .int 0, .ref 1]) (H' := (c0 :: bk0 zag zy zw zai zz zh zc zaa zab zae zo zm zu zt zv zx zb zl zg za zd zf zah zaf zp zn zaj zak ze zr zs zac zad zj zi zq zk po)) rfl ?_
    obtain ⟨⟨r9, s10⟩, hq17, h⟩ := bnd h
    refine OEnds.call0 hm_15 rfl rfl (by decide) rfl (as := [.ref 1, .int 0, .int 0, .int 8]) (rest := []) rfl rfl (ok_addRows hq17) ?_
    refine OEnds.adv hm_15 5 (pc' := 51) (L' := [qr 1, qi r9]) (S' := [.int 8, .int 4, .int r9, .ref 1]) (H' := (c0 :: bk0 zag zy zw zai s10 zh zc zaa zab zae zo zm zu zt zv zx zb zl zg za zd zf zah zaf zp zn zaj zak ze zr zs zac zad zj zi zq zk po)) rfl ?_
    obtain ⟨⟨r11, s12⟩, hq18, h⟩ := bnd h
    refine OEnds.call0 hm_15 rfl rfl (by decide) rfl (as := [.ref 1, .int r9, .int 4, .int 8]) (rest := []) rfl rfl (ok_addRows hq18) ?_
    refine OEnds.adv hm_15 5 (pc' := 59) (L' := [qr 1, qi r11]) (S' := [.int 4, .int 2, .int r11, .ref 1]) (H' := (c0 :: bk0 zag zy zw zai s12 zh zc zaa zab zae zo zm zu zt zv zx zb zl zg za zd zf zah zaf zp zn zaj zak ze zr zs zac zad zj zi zq zk po)) rfl ?_
    obtain ⟨⟨r13, s14⟩, hq19, h⟩ := bnd h
    refine OEnds.call0 hm_15 rfl rfl (by decide) rfl (as := [.ref 1, .int r11, .int 2, .int 4]) (rest := []) rfl rfl (ok_addRows hq19) ?_
    refine OEnds.adv hm_15 5 (pc' := 67) (L' := [qr 1, qi r13]) (S' := [.int 2, .int 1, .int r13, .ref 1]) (H' := (c0 :: bk0 zag zy zw zai s14 zh zc zaa zab zae zo zm zu zt zv zx zb zl zg za zd zf zah zaf zp zn zaj zak ze zr zs zac zad zj zi zq zk po)) rfl ?_
    obtain ⟨⟨r15, s16⟩, hq20, h⟩ := bnd h
    refine OEnds.call0 hm_15 rfl rfl (by decide) rfl (as := [.ref 1, .int r13, .int 1, .int 2]) (rest := []) rfl rfl (ok_addRows hq20) ?_
    refine OEnds.adv hm_15 1 (pc' := 71) (L' := [qr 1, qi r13]) (S' := []) (H' := (c0 :: bk0 zag zy zw zai s16 zh zc zaa zab zae zo zm zu zt zv zx zb zl zg za zd zf zah zaf zp zn zaj zak ze zr zs zac zad zj zi zq zk po)) rfl ?_
    cases h
    exact OEnds.vret hm_15 rfl rfl
theorem ok_rasterOf {zag zy zw zai zz zh zc zaa zab zae zo zm zu zt : List Int32} {zv zx zb zl zg za zd zf zah zaf zp zn zaj zak ze zr zs zac zad zj zi zq zk : Int32} {c0 : ACell} {po : List ACell} {v1 res : Int32} (h : f_rasterOf zz zv v1 = some res) : OEnds own_P 16 0 [qr 1, qi v1, qu, qu] [] (c0 :: bk0 zag zy zw zai zz zh zc zaa zab zae zo zm zu zt zv zx zb zl zg za zd zf zah zaf zp zn zaj zak ze zr zs zac zad zj zi zq zk po) (some (.int res), (c0 :: bk0 zag zy zw zai zz zh zc zaa zab zae zo zm zu zt zv zx zb zl zg za zd zf zah zaf zp zn zaj zak ze zr zs zac zad zj zi zq zk po), 0, 0) := by
  unfold f_rasterOf at h
  refine OEnds.adv hm_16 3 (pc' := 5) (L' := [qr 1, qi v1, qu, qu]) (S' := [.int zv, .int v1]) (H' := (c0 :: bk0 zag zy zw zai zz zh zc zaa zab zae zo zm zu zt zv zx zb zl zg za zd zf zah zaf zp zn zaj zak ze zr zs zac zad zj zi zq zk po)) rfl ?_
  by_cases hz21 : zv = 0
  · simp only [if_pos hz21] at h
    cases h
  simp only [if_neg hz21] at h
  refine OEnds.plain hm_16 rfl rfl (x_idiv hz21) ?_
  refine OEnds.adv hm_16 4 (pc' := 12) (L' := [qr 1, qi v1, qi (v1 / zv), qu]) (S' := [.int zv, .int v1]) (H' := (c0 :: bk0 zag zy zw zai zz zh zc zaa zab zae zo zm zu zt zv zx zb zl zg za zd zf zah zaf zp zn zaj zak ze zr zs zac zad zj zi zq zk po)) rfl ?_
  refine OEnds.plain hm_16 rfl rfl (x_irem hz21) ?_
  refine OEnds.adv hm_16 2 (pc' := 15) (L' := [qr 1, qi v1, qi (v1 / zv), qi (v1 % zv)]) (S' := [.int (v1 / zv)]) (H' := (c0 :: bk0 zag zy zw zai zz zh zc zaa zab zae zo zm zu zt zv zx zb zl zg za zd zf zah zaf zp zn zaj zak ze zr zs zac zad zj zi zq zk po)) rfl ?_
  by_cases hc22 : (v1 / zv) < (0 : Int32)
  · simp only [if_pos hc22] at h
    refine OEnds.ifT hm_16 rfl (q := 24) rfl ((tlt hc22).1) ?_
    refine OEnds.adv hm_16 1 (pc' := 25) (L' := [qr 1, qi v1, qi (v1 / zv), qi (v1 % zv)]) (S' := [.int 0]) (H' := (c0 :: bk0 zag zy zw zai zz zh zc zaa zab zae zo zm zu zt zv zx zb zl zg za zd zf zah zaf zp zn zaj zak ze zr zs zac zad zj zi zq zk po)) rfl ?_
    cases h
    exact OEnds.iret hm_16 rfl rfl
  · simp only [if_neg hc22] at h
    refine OEnds.ifF hm_16 rfl ((flt hc22).1) ?_
    refine OEnds.adv hm_16 2 (pc' := 21) (L' := [qr 1, qi v1, qi (v1 / zv), qi (v1 % zv)]) (S' := [.int 16, .int (v1 / zv)]) (H' := (c0 :: bk0 zag zy zw zai zz zh zc zaa zab zae zo zm zu zt zv zx zb zl zg za zd zf zah zaf zp zn zaj zak ze zr zs zac zad zj zi zq zk po)) rfl ?_
    by_cases hc23 : (v1 / zv) < (16 : Int32)
    · simp only [if_pos hc23] at h
      refine OEnds.icmpT hm_16 rfl (q := 26) rfl ((tlt hc23).1) ?_
      refine OEnds.adv hm_16 3 (pc' := 31) (L' := [qr 1, qi v1, qi (v1 / zv), qi (v1 % zv)]) (S' := [.int (v1 / zv), .ref 6]) (H' := (c0 :: bk0 zag zy zw zai zz zh zc zaa zab zae zo zm zu zt zv zx zb zl zg za zd zf zah zaf zp zn zaj zak ze zr zs zac zad zj zi zq zk po)) rfl ?_
      obtain ⟨x18, hx18, h⟩ := bnd h
      refine OEnds.plain hm_16 rfl rfl (x_iaload rfl hx18) ?_
      refine OEnds.adv hm_16 5 (pc' := 39) (L' := [qr 1, qi v1, qi (v1 / zv), qi (v1 % zv)]) (S' := [.int ((x18 * zv) + (v1 % zv))]) (H' := (c0 :: bk0 zag zy zw zai zz zh zc zaa zab zae zo zm zu zt zv zx zb zl zg za zd zf zah zaf zp zn zaj zak ze zr zs zac zad zj zi zq zk po)) rfl ?_
      cases h
      exact OEnds.iret hm_16 rfl rfl
    · simp only [if_neg hc23] at h
      refine OEnds.icmpF hm_16 rfl ((flt hc23).1) ?_
      refine OEnds.adv hm_16 1 (pc' := 25) (L' := [qr 1, qi v1, qi (v1 / zv), qi (v1 % zv)]) (S' := [.int 0]) (H' := (c0 :: bk0 zag zy zw zai zz zh zc zaa zab zae zo zm zu zt zv zx zb zl zg za zd zf zah zaf zp zn zaj zak ze zr zs zac zad zj zi zq zk po)) rfl ?_
      cases h
      exact OEnds.iret hm_16 rfl rfl
theorem ok_resetEncoderTable_2 {zag zy zw zai zz zh zc zab zae zo zm zu zt : List Int32} {zv zx zb zl zg za zd zf zah zaf zp zn zaj zak ze zr zs zac zad zj zi zq zk : Int32} {c0 : ACell} {po : List ACell} : ∀ (n : Nat), ∀ {zaa : List Int32} {v1 v2 : Int32} {w_o_firstChild : List Int32}, f_resetEncoderTable_2 n zaa v1 v2 = some w_o_firstChild → OEnds own_P 18 2 [qr 1, qi v1, qi v2] [] (c0 :: bk0 zag zy zw zai zz zh zc zaa zab zae zo zm zu zt zv zx zb zl zg za zd zf zah zaf zp zn zaj zak ze zr zs zac zad zj zi zq zk po) (none, (c0 :: bk0 zag zy zw zai zz zh zc w_o_firstChild zab zae zo zm zu zt zv zx zb zl zg za zd zf zah zaf zp zn zaj zak ze zr zs zac zad zj zi zq zk po), 0, 0) := by
  intro n
  induction n with
  | zero => intro zaa v1 v2 w_o_firstChild h; cases h
  | succ n ih =>
    intro zaa v1 v2 w_o_firstChild h
    unfold f_resetEncoderTable_2 at h
    refine OEnds.adv hm_18 2 (pc' := 4) (L' := [qr 1, qi v1, qi v2]) (S' := [.int v1, .int v2]) (H' := (c0 :: bk0 zag zy zw zai zz zh zc zaa zab zae zo zm zu zt zv zx zb zl zg za zd zf zah zaf zp zn zaj zak ze zr zs zac zad zj zi zq zk po)) rfl ?_
    by_cases hc24 : v2 < v1
    · simp only [if_pos hc24] at h
      refine OEnds.icmpF hm_18 rfl ((tlt hc24).2.1) ?_
      refine OEnds.adv hm_18 2 (pc' := 11) (L' := [qr 1, qi v1, qi v2]) (S' := [.int 512, .int v2]) (H' := (c0 :: bk0 zag zy zw zai zz zh zc zaa zab zae zo zm zu zt zv zx zb zl zg za zd zf zah zaf zp zn zaj zak ze zr zs zac zad zj zi zq zk po)) rfl ?_
      by_cases hc25 : v2 < (512 : Int32)
      · simp only [if_pos hc25] at h
        refine OEnds.icmpF hm_18 rfl ((tlt hc25).2.1) ?_
        refine OEnds.adv hm_18 4 (pc' := 20) (L' := [qr 1, qi v1, qi v2]) (S' := [.int (-1), .int v2, .ref 9]) (H' := (c0 :: bk0 zag zy zw zai zz zh zc zaa zab zae zo zm zu zt zv zx zb zl zg za zd zf zah zaf zp zn zaj zak ze zr zs zac zad zj zi zq zk po)) rfl ?_
        obtain ⟨A19, hA19, h⟩ := bnd h
        refine OEnds.plain hm_18 rfl rfl (x_iastore rfl (Nat.le_of_ble_eq_true rfl) hA19) ?_
        refine OEnds.adv hm_18 2 (pc' := 2) (L' := [qr 1, qi v1, qi (v2 + (1 : Int32))]) (S' := []) (H' := (c0 :: bk0 zag zy zw zai zz zh zc A19 zab zae zo zm zu zt zv zx zb zl zg za zd zf zah zaf zp zn zaj zak ze zr zs zac zad zj zi zq zk po)) rfl ?_
        exact ih h
      · simp only [if_neg hc25] at h
        refine OEnds.icmpT hm_18 rfl (q := 27) rfl ((flt hc25).2.1) ?_
        show OEnds own_P 18 27 [qr 1, qi v1, qi v2] [] (c0 :: bk0 zag zy zw zai zz zh zc zaa zab zae zo zm zu zt zv zx zb zl zg za zd zf zah zaf zp zn zaj zak ze zr zs zac zad zj zi zq zk po) _
        cases h
        exact OEnds.vret hm_18 rfl rfl
    · simp only [if_neg hc24] at h
      refine OEnds.icmpT hm_18 rfl (q := 27) rfl ((flt hc24).2.1) ?_
      show OEnds own_P 18 27 [qr 1, qi v1, qi v2] [] (c0 :: bk0 zag zy zw zai zz zh zc zaa zab zae zo zm zu zt zv zx zb zl zg za zd zf zah zaf zp zn zaj zak ze zr zs zac zad zj zi zq zk po) _
      cases h
      exact OEnds.vret hm_18 rfl rfl
theorem ok_resetEncoderTable {zag zy zw zai zz zh zc zab zae zo zm zu zt : List Int32} {zv zx zb zl zg za zd zf zah zaf zp zn zaj zak ze zr zs zac zad zj zi zq zk : Int32} {c0 : ACell} {po : List ACell} {zaa : List Int32} {v1 : Int32} {w_o_firstChild : List Int32} (h : f_resetEncoderTable zaa v1 = some w_o_firstChild) : OEnds own_P 18 0 [qr 1, qi v1, qu] [] (c0 :: bk0 zag zy zw zai zz zh zc zaa zab zae zo zm zu zt zv zx zb zl zg za zd zf zah zaf zp zn zaj zak ze zr zs zac zad zj zi zq zk po) (none, (c0 :: bk0 zag zy zw zai zz zh zc w_o_firstChild zab zae zo zm zu zt zv zx zb zl zg za zd zf zah zaf zp zn zaj zak ze zr zs zac zad zj zi zq zk po), 0, 0) := by
  unfold f_resetEncoderTable at h
  refine OEnds.adv hm_18 2 (pc' := 2) (L' := [qr 1, qi v1, qi 0]) (S' := []) (H' := (c0 :: bk0 zag zy zw zai zz zh zc zaa zab zae zo zm zu zt zv zx zb zl zg za zd zf zah zaf zp zn zaj zak ze zr zs zac zad zj zi zq zk po)) rfl ?_
  exact ok_resetEncoderTable_2 100000 h
theorem ok_putCode_74 {zag zy zw zai zz zh zaa zab zae zo zm zu zt : List Int32} {zv zx zb zl zg za zd zf zah zaf zp zn zaj zak zr zs zac zad zj zi zq zk : Int32} {c0 : ACell} {po : List ACell} {kb : List Int32 → Int32 → Int32 → Int32 → Option (List Int32 × Int32)} (hkb : ∀ {zc : List Int32} {ze v1 v2 : Int32} {d3 d4 : Slot} {w_o_data : List Int32} {w_o_bitPos : Int32}, kb zc ze v1 v2 = some (w_o_data, w_o_bitPos) → OEnds own_P 19 2 [qr 1, qi v1, qi v2, d3, d4] [] (c0 :: bk0 zag zy zw zai zz zh zc zaa zab zae zo zm zu zt zv zx zb zl zg za zd zf zah zaf zp zn zaj zak ze zr zs zac zad zj zi zq zk po) (none, (c0 :: bk0 zag zy zw zai zz zh w_o_data zaa zab zae zo zm zu zt zv zx zb zl zg za zd zf zah zaf zp zn zaj zak w_o_bitPos zr zs zac zad zj zi zq zk po), 0, 0)) : ∀ {zc : List Int32} {ze v1 v2 : Int32} {d3 d4 : Slot} {w_o_data : List Int32} {w_o_bitPos : Int32}, f_putCode_74 kb zr zc ze v1 v2 = some (w_o_data, w_o_bitPos) → OEnds own_P 19 74 [qr 1, qi v1, qi v2, d3, d4] [] (c0 :: bk0 zag zy zw zai zz zh zc zaa zab zae zo zm zu zt zv zx zb zl zg za zd zf zah zaf zp zn zaj zak ze zr zs zac zad zj zi zq zk po) (none, (c0 :: bk0 zag zy zw zai zz zh w_o_data zaa zab zae zo zm zu zt zv zx zb zl zg za zd zf zah zaf zp zn zaj zak w_o_bitPos zr zs zac zad zj zi zq zk po), 0, 0) := by
  intro zc ze v1 v2 d3 d4 w_o_data w_o_bitPos h
  unfold f_putCode_74 at h
  refine OEnds.adv hm_19 8 (pc' := 2) (L' := [qr 1, qi v1, qi (v2 + (1 : Int32)), qu, qu]) (S' := []) (H' := (c0 :: bk0 zag zy zw zai zz zh zc zaa zab zae zo zm zu zt zv zx zb zl zg za zd zf zah zaf zp zn zaj zak (ze + (1 : Int32)) zr zs zac zad zj zi zq zk po)) rfl ?_
  exact hkb h
theorem ok_putCode_49 {zag zy zw zai zz zh zaa zab zae zo zm zu zt : List Int32} {zv zx zb zl zg za zd zf zah zaf zp zn zaj zak zr zs zac zad zj zi zq zk : Int32} {c0 : ACell} {po : List ACell} {kb : List Int32 → Int32 → Int32 → Int32 → Option (List Int32 × Int32)} (hkb : ∀ {zc : List Int32} {ze v1 v2 : Int32} {d3 d4 : Slot} {w_o_data : List Int32} {w_o_bitPos : Int32}, kb zc ze v1 v2 = some (w_o_data, w_o_bitPos) → OEnds own_P 19 2 [qr 1, qi v1, qi v2, d3, d4] [] (c0 :: bk0 zag zy zw zai zz zh zc zaa zab zae zo zm zu zt zv zx zb zl zg za zd zf zah zaf zp zn zaj zak ze zr zs zac zad zj zi zq zk po) (none, (c0 :: bk0 zag zy zw zai zz zh w_o_data zaa zab zae zo zm zu zt zv zx zb zl zg za zd zf zah zaf zp zn zaj zak w_o_bitPos zr zs zac zad zj zi zq zk po), 0, 0)) : ∀ {zc : List Int32} {ze v1 v2 v3 v4 : Int32} {w_o_data : List Int32} {w_o_bitPos : Int32}, f_putCode_49 kb zr zc ze v1 v2 v3 v4 = some (w_o_data, w_o_bitPos) → OEnds own_P 19 49 [qr 1, qi v1, qi v2, qi v3, qi v4] [] (c0 :: bk0 zag zy zw zai zz zh zc zaa zab zae zo zm zu zt zv zx zb zl zg za zd zf zah zaf zp zn zaj zak ze zr zs zac zad zj zi zq zk po) (none, (c0 :: bk0 zag zy zw zai zz zh w_o_data zaa zab zae zo zm zu zt zv zx zb zl zg za zd zf zah zaf zp zn zaj zak w_o_bitPos zr zs zac zad zj zi zq zk po), 0, 0) := by
  intro zc ze v1 v2 v3 v4 w_o_data w_o_bitPos h
  unfold f_putCode_49 at h
  refine OEnds.adv hm_19 5 (pc' := 54) (L' := [qr 1, qi v1, qi v2, qi v3, qi v4]) (S' := [.int ((v1 >>> (v2 &&& 31)) &&& (1 : Int32))]) (H' := (c0 :: bk0 zag zy zw zai zz zh zc zaa zab zae zo zm zu zt zv zx zb zl zg za zd zf zah zaf zp zn zaj zak ze zr zs zac zad zj zi zq zk po)) rfl ?_
  by_cases hc26 : ((v1 >>> (v2 &&& 31)) &&& (1 : Int32)) = (0 : Int32)
  · simp only [if_pos hc26] at h
    refine OEnds.ifT hm_19 rfl (q := 74) rfl ((teq hc26).1) ?_
    show OEnds own_P 19 74 [qr 1, qi v1, qi v2, qi v3, qi v4] [] (c0 :: bk0 zag zy zw zai zz zh zc zaa zab zae zo zm zu zt zv zx zb zl zg za zd zf zah zaf zp zn zaj zak ze zr zs zac zad zj zi zq zk po) _
    exact ok_putCode_74 hkb h
  · simp only [if_neg hc26] at h
    refine OEnds.ifF hm_19 rfl ((feq hc26).1) ?_
    refine OEnds.adv hm_19 6 (pc' := 67) (L' := [qr 1, qi v1, qi v2, qi v3, qi v4]) (S' := [.int v3, .ref 8, .int v3, .ref 8]) (H' := (c0 :: bk0 zag zy zw zai zz zh zc zaa zab zae zo zm zu zt zv zx zb zl zg za zd zf zah zaf zp zn zaj zak ze zr zs zac zad zj zi zq zk po)) rfl ?_
    obtain ⟨x21, hx21, h⟩ := bnd h
    refine OEnds.plain hm_19 rfl rfl (x_iaload rfl hx21) ?_
    refine OEnds.adv hm_19 4 (pc' := 73) (L' := [qr 1, qi v1, qi v2, qi v3, qi v4]) (S' := [.int (x21 ||| ((1 : Int32) <<< (v4 &&& 31))), .int v3, .ref 8]) (H' := (c0 :: bk0 zag zy zw zai zz zh zc zaa zab zae zo zm zu zt zv zx zb zl zg za zd zf zah zaf zp zn zaj zak ze zr zs zac zad zj zi zq zk po)) rfl ?_
    obtain ⟨A22, hA22, h⟩ := bnd h
    refine OEnds.plain hm_19 rfl rfl (x_iastore rfl (Nat.le_of_ble_eq_true rfl) hA22) ?_
    show OEnds own_P 19 74 [qr 1, qi v1, qi v2, qi v3, qi v4] [] (c0 :: bk0 zag zy zw zai zz zh A22 zaa zab zae zo zm zu zt zv zx zb zl zg za zd zf zah zaf zp zn zaj zak ze zr zs zac zad zj zi zq zk po) _
    exact ok_putCode_74 hkb h
theorem ok_putCode_2 {zag zy zw zai zz zh zaa zab zae zo zm zu zt : List Int32} {zv zx zb zl zg za zd zf zah zaf zp zn zaj zak zr zs zac zad zj zi zq zk : Int32} {c0 : ACell} {po : List ACell} : ∀ (n : Nat), ∀ {zc : List Int32} {ze v1 v2 : Int32} {d3 d4 : Slot} {w_o_data : List Int32} {w_o_bitPos : Int32}, f_putCode_2 zr n zc ze v1 v2 = some (w_o_data, w_o_bitPos) → OEnds own_P 19 2 [qr 1, qi v1, qi v2, d3, d4] [] (c0 :: bk0 zag zy zw zai zz zh zc zaa zab zae zo zm zu zt zv zx zb zl zg za zd zf zah zaf zp zn zaj zak ze zr zs zac zad zj zi zq zk po) (none, (c0 :: bk0 zag zy zw zai zz zh w_o_data zaa zab zae zo zm zu zt zv zx zb zl zg za zd zf zah zaf zp zn zaj zak w_o_bitPos zr zs zac zad zj zi zq zk po), 0, 0) := by
  intro n
  induction n with
  | zero => intro zc ze v1 v2 d3 d4 w_o_data w_o_bitPos h; cases h
  | succ n ih =>
    intro zc ze v1 v2 d3 d4 w_o_data w_o_bitPos h
    unfold f_putCode_2 at h
    refine OEnds.adv hm_19 3 (pc' := 7) (L' := [qr 1, qi v1, qi v2, qu, qu]) (S' := [.int zr, .int v2]) (H' := (c0 :: bk0 zag zy zw zai zz zh zc zaa zab zae zo zm zu zt zv zx zb zl zg za zd zf zah zaf zp zn zaj zak ze zr zs zac zad zj zi zq zk po)) rfl ?_
    by_cases hc27 : v2 < zr
    · simp only [if_pos hc27] at h
      refine OEnds.icmpF hm_19 rfl ((tlt hc27).2.1) ?_
      refine OEnds.adv hm_19 11 (pc' := 27) (L' := [qr 1, qi v1, qi v2, qi (ze >>> ((3 : Int32) &&& 31)), qi (ze &&& (7 : Int32))]) (S' := [.int (ze >>> ((3 : Int32) &&& 31))]) (H' := (c0 :: bk0 zag zy zw zai zz zh zc zaa zab zae zo zm zu zt zv zx zb zl zg za zd zf zah zaf zp zn zaj zak ze zr zs zac zad zj zi zq zk po)) rfl ?_
      by_cases hc28 : (ze >>> ((3 : Int32) &&& 31)) < (0 : Int32)
      · simp only [if_pos hc28] at h
        refine OEnds.ifT hm_19 rfl (q := 74) rfl ((tlt hc28).1) ?_
        show OEnds own_P 19 74 [qr 1, qi v1, qi v2, qi (ze >>> ((3 : Int32) &&& 31)), qi (ze &&& (7 : Int32))] [] (c0 :: bk0 zag zy zw zai zz zh zc zaa zab zae zo zm zu zt zv zx zb zl zg za zd zf zah zaf zp zn zaj zak ze zr zs zac zad zj zi zq zk po) _
        exact ok_putCode_74 ih h
      · simp only [if_neg hc28] at h
        refine OEnds.ifF hm_19 rfl ((flt hc28).1) ?_
        refine OEnds.adv hm_19 2 (pc' := 34) (L' := [qr 1, qi v1, qi v2, qi (ze >>> ((3 : Int32) &&& 31)), qi (ze &&& (7 : Int32))]) (S' := [.int 512, .int (ze >>> ((3 : Int32) &&& 31))]) (H' := (c0 :: bk0 zag zy zw zai zz zh zc zaa zab zae zo zm zu zt zv zx zb zl zg za zd zf zah zaf zp zn zaj zak ze zr zs zac zad zj zi zq zk po)) rfl ?_
        by_cases hc29 : (ze >>> ((3 : Int32) &&& 31)) < (512 : Int32)
        · simp only [if_pos hc29] at h
          refine OEnds.icmpF hm_19 rfl ((tlt hc29).2.1) ?_
          refine OEnds.adv hm_19 1 (pc' := 39) (L' := [qr 1, qi v1, qi v2, qi (ze >>> ((3 : Int32) &&& 31)), qi (ze &&& (7 : Int32))]) (S' := [.int (ze &&& (7 : Int32))]) (H' := (c0 :: bk0 zag zy zw zai zz zh zc zaa zab zae zo zm zu zt zv zx zb zl zg za zd zf zah zaf zp zn zaj zak ze zr zs zac zad zj zi zq zk po)) rfl ?_
          by_cases hc30 : (ze &&& (7 : Int32)) = (0 : Int32)
          · simp only [if_pos hc30] at h
            refine OEnds.ifF hm_19 rfl ((teq hc30).2) ?_
            refine OEnds.adv hm_19 4 (pc' := 48) (L' := [qr 1, qi v1, qi v2, qi (ze >>> ((3 : Int32) &&& 31)), qi (ze &&& (7 : Int32))]) (S' := [.int 0, .int (ze >>> ((3 : Int32) &&& 31)), .ref 8]) (H' := (c0 :: bk0 zag zy zw zai zz zh zc zaa zab zae zo zm zu zt zv zx zb zl zg za zd zf zah zaf zp zn zaj zak ze zr zs zac zad zj zi zq zk po)) rfl ?_
            obtain ⟨A20, hA20, h⟩ := bnd h
            refine OEnds.plain hm_19 rfl rfl (x_iastore rfl (Nat.le_of_ble_eq_true rfl) hA20) ?_
            show OEnds own_P 19 49 [qr 1, qi v1, qi v2, qi (ze >>> ((3 : Int32) &&& 31)), qi (ze &&& (7 : Int32))] [] (c0 :: bk0 zag zy zw zai zz zh A20 zaa zab zae zo zm zu zt zv zx zb zl zg za zd zf zah zaf zp zn zaj zak ze zr zs zac zad zj zi zq zk po) _
            exact ok_putCode_49 ih h
          · simp only [if_neg hc30] at h
            refine OEnds.ifT hm_19 rfl (q := 49) rfl ((feq hc30).2) ?_
            show OEnds own_P 19 49 [qr 1, qi v1, qi v2, qi (ze >>> ((3 : Int32) &&& 31)), qi (ze &&& (7 : Int32))] [] (c0 :: bk0 zag zy zw zai zz zh zc zaa zab zae zo zm zu zt zv zx zb zl zg za zd zf zah zaf zp zn zaj zak ze zr zs zac zad zj zi zq zk po) _
            exact ok_putCode_49 ih h
        · simp only [if_neg hc29] at h
          refine OEnds.icmpT hm_19 rfl (q := 74) rfl ((flt hc29).2.1) ?_
          show OEnds own_P 19 74 [qr 1, qi v1, qi v2, qi (ze >>> ((3 : Int32) &&& 31)), qi (ze &&& (7 : Int32))] [] (c0 :: bk0 zag zy zw zai zz zh zc zaa zab zae zo zm zu zt zv zx zb zl zg za zd zf zah zaf zp zn zaj zak ze zr zs zac zad zj zi zq zk po) _
          exact ok_putCode_74 ih h
    · simp only [if_neg hc27] at h
      refine OEnds.icmpT hm_19 rfl (q := 90) rfl ((flt hc27).2.1) ?_
      show OEnds own_P 19 90 [qr 1, qi v1, qi v2, qu, qu] [] (c0 :: bk0 zag zy zw zai zz zh zc zaa zab zae zo zm zu zt zv zx zb zl zg za zd zf zah zaf zp zn zaj zak ze zr zs zac zad zj zi zq zk po) _
      cases h
      exact OEnds.vret hm_19 rfl rfl
theorem ok_putCode {zag zy zw zai zz zh zaa zab zae zo zm zu zt : List Int32} {zv zx zb zl zg za zd zf zah zaf zp zn zaj zak zr zs zac zad zj zi zq zk : Int32} {c0 : ACell} {po : List ACell} {zc : List Int32} {ze v1 : Int32} {w_o_data : List Int32} {w_o_bitPos : Int32} (h : f_putCode zr zc ze v1 = some (w_o_data, w_o_bitPos)) : OEnds own_P 19 0 [qr 1, qi v1, qu, qu, qu] [] (c0 :: bk0 zag zy zw zai zz zh zc zaa zab zae zo zm zu zt zv zx zb zl zg za zd zf zah zaf zp zn zaj zak ze zr zs zac zad zj zi zq zk po) (none, (c0 :: bk0 zag zy zw zai zz zh w_o_data zaa zab zae zo zm zu zt zv zx zb zl zg za zd zf zah zaf zp zn zaj zak w_o_bitPos zr zs zac zad zj zi zq zk po), 0, 0) := by
  unfold f_putCode at h
  refine OEnds.adv hm_19 2 (pc' := 2) (L' := [qr 1, qi v1, qi 0, qu, qu]) (S' := []) (H' := (c0 :: bk0 zag zy zw zai zz zh zc zaa zab zae zo zm zu zt zv zx zb zl zg za zd zf zah zaf zp zn zaj zak ze zr zs zac zad zj zi zq zk po)) rfl ?_
  exact ok_putCode_2 100000 h
theorem ok_findChild_23 {zag zy zw zai zz zh zc zaa zab zae zo zm zu zt : List Int32} {zv zx zb zl zg za zd zf zah zaf zp zn zaj zak ze zr zs zac zad zj zi zq zk : Int32} {c0 : ACell} {po : List ACell} : ∀ (n : Nat), ∀ {v2 v3 v4 : Int32} {d1 : Slot} {res : Int32}, f_findChild_23 zaa zab zae n v2 v3 v4 = some res → OEnds own_P 20 23 [qr 1, d1, qi v2, qi v3, qi v4] [] (c0 :: bk0 zag zy zw zai zz zh zc zaa zab zae zo zm zu zt zv zx zb zl zg za zd zf zah zaf zp zn zaj zak ze zr zs zac zad zj zi zq zk po) (some (.int res), (c0 :: bk0 zag zy zw zai zz zh zc zaa zab zae zo zm zu zt zv zx zb zl zg za zd zf zah zaf zp zn zaj zak ze zr zs zac zad zj zi zq zk po), 0, 0) := by
  intro n
  induction n with
  | zero => intro v2 v3 v4 d1 res h; cases h
  | succ n ih =>
    intro v2 v3 v4 d1 res h
    unfold f_findChild_23 at h
    refine OEnds.adv hm_20 2 (pc' := 28) (L' := [qr 1, qu, qi v2, qi v3, qi v4]) (S' := [.int 512, .int v4]) (H' := (c0 :: bk0 zag zy zw zai zz zh zc zaa zab zae zo zm zu zt zv zx zb zl zg za zd zf zah zaf zp zn zaj zak ze zr zs zac zad zj zi zq zk po)) rfl ?_
    by_cases hc31 : v4 < (512 : Int32)
    · simp only [if_pos hc31] at h
      refine OEnds.icmpF hm_20 rfl ((tlt hc31).2.1) ?_
      refine OEnds.adv hm_20 1 (pc' := 32) (L' := [qr 1, qu, qi v2, qi v3, qi v4]) (S' := [.int v3]) (H' := (c0 :: bk0 zag zy zw zai zz zh zc zaa zab zae zo zm zu zt zv zx zb zl zg za zd zf zah zaf zp zn zaj zak ze zr zs zac zad zj zi zq zk po)) rfl ?_
      by_cases hc32 : v3 < (0 : Int32)
      · simp only [if_pos hc32] at h
        refine OEnds.ifT hm_20 rfl (q := 67) rfl ((tlt hc32).1) ?_
        refine OEnds.adv hm_20 1 (pc' := 68) (L' := [qr 1, qu, qi v2, qi v3, qi v4]) (S' := [.int (-1)]) (H' := (c0 :: bk0 zag zy zw zai zz zh zc zaa zab zae zo zm zu zt zv zx zb zl zg za zd zf zah zaf zp zn zaj zak ze zr zs zac zad zj zi zq zk po)) rfl ?_
        cases h
        exact OEnds.iret hm_20 rfl rfl
      · simp only [if_neg hc32] at h
        refine OEnds.ifF hm_20 rfl ((flt hc32).1) ?_
        refine OEnds.adv hm_20 2 (pc' := 39) (L' := [qr 1, qu, qi v2, qi v3, qi v4]) (S' := [.int 512, .int v3]) (H' := (c0 :: bk0 zag zy zw zai zz zh zc zaa zab zae zo zm zu zt zv zx zb zl zg za zd zf zah zaf zp zn zaj zak ze zr zs zac zad zj zi zq zk po)) rfl ?_
        by_cases hc33 : v3 < (512 : Int32)
        · simp only [if_pos hc33] at h
          refine OEnds.icmpF hm_20 rfl ((tlt hc33).2.1) ?_
          refine OEnds.adv hm_20 3 (pc' := 47) (L' := [qr 1, qu, qi v2, qi v3, qi v4]) (S' := [.int v3, .ref 11]) (H' := (c0 :: bk0 zag zy zw zai zz zh zc zaa zab zae zo zm zu zt zv zx zb zl zg za zd zf zah zaf zp zn zaj zak ze zr zs zac zad zj zi zq zk po)) rfl ?_
          obtain ⟨x24, hx24, h⟩ := bnd h
          refine OEnds.plain hm_20 rfl rfl (x_iaload rfl hx24) ?_
          refine OEnds.adv hm_20 1 (pc' := 49) (L' := [qr 1, qu, qi v2, qi v3, qi v4]) (S' := [.int v2, .int x24]) (H' := (c0 :: bk0 zag zy zw zai zz zh zc zaa zab zae zo zm zu zt zv zx zb zl zg za zd zf zah zaf zp zn zaj zak ze zr zs zac zad zj zi zq zk po)) rfl ?_
          by_cases hc34 : x24 = v2
          · simp only [if_pos hc34] at h
            refine OEnds.icmpF hm_20 rfl ((teq hc34).2) ?_
            refine OEnds.adv hm_20 1 (pc' := 53) (L' := [qr 1, qu, qi v2, qi v3, qi v4]) (S' := [.int v3]) (H' := (c0 :: bk0 zag zy zw zai zz zh zc zaa zab zae zo zm zu zt zv zx zb zl zg za zd zf zah zaf zp zn zaj zak ze zr zs zac zad zj zi zq zk po)) rfl ?_
            cases h
            exact OEnds.iret hm_20 rfl rfl
          · simp only [if_neg hc34] at h
            refine OEnds.icmpT hm_20 rfl (q := 54) rfl ((feq hc34).2) ?_
            refine OEnds.adv hm_20 3 (pc' := 59) (L' := [qr 1, qu, qi v2, qi v3, qi v4]) (S' := [.int v3, .ref 10]) (H' := (c0 :: bk0 zag zy zw zai zz zh zc zaa zab zae zo zm zu zt zv zx zb zl zg za zd zf zah zaf zp zn zaj zak ze zr zs zac zad zj zi zq zk po)) rfl ?_
            obtain ⟨x25, hx25, h⟩ := bnd h
            refine OEnds.plain hm_20 rfl rfl (x_iaload rfl hx25) ?_
            refine OEnds.adv hm_20 3 (pc' := 23) (L' := [qr 1, qu, qi v2, qi x25, qi (v4 + (1 : Int32))]) (S' := []) (H' := (c0 :: bk0 zag zy zw zai zz zh zc zaa zab zae zo zm zu zt zv zx zb zl zg za zd zf zah zaf zp zn zaj zak ze zr zs zac zad zj zi zq zk po)) rfl ?_
            exact ih h
        · simp only [if_neg hc33] at h
          refine OEnds.icmpT hm_20 rfl (q := 67) rfl ((flt hc33).2.1) ?_
          refine OEnds.adv hm_20 1 (pc' := 68) (L' := [qr 1, qu, qi v2, qi v3, qi v4]) (S' := [.int (-1)]) (H' := (c0 :: bk0 zag zy zw zai zz zh zc zaa zab zae zo zm zu zt zv zx zb zl zg za zd zf zah zaf zp zn zaj zak ze zr zs zac zad zj zi zq zk po)) rfl ?_
          cases h
          exact OEnds.iret hm_20 rfl rfl
    · simp only [if_neg hc31] at h
      refine OEnds.icmpT hm_20 rfl (q := 67) rfl ((flt hc31).2.1) ?_
      refine OEnds.adv hm_20 1 (pc' := 68) (L' := [qr 1, qu, qi v2, qi v3, qi v4]) (S' := [.int (-1)]) (H' := (c0 :: bk0 zag zy zw zai zz zh zc zaa zab zae zo zm zu zt zv zx zb zl zg za zd zf zah zaf zp zn zaj zak ze zr zs zac zad zj zi zq zk po)) rfl ?_
      cases h
      exact OEnds.iret hm_20 rfl rfl
theorem ok_findChild {zag zy zw zai zz zh zc zaa zab zae zo zm zu zt : List Int32} {zv zx zb zl zg za zd zf zah zaf zp zn zaj zak ze zr zs zac zad zj zi zq zk : Int32} {c0 : ACell} {po : List ACell} {v1 v2 res : Int32} (h : f_findChild zaa zab zae v1 v2 = some res) : OEnds own_P 20 0 [qr 1, qi v1, qi v2, qu, qu] [] (c0 :: bk0 zag zy zw zai zz zh zc zaa zab zae zo zm zu zt zv zx zb zl zg za zd zf zah zaf zp zn zaj zak ze zr zs zac zad zj zi zq zk po) (some (.int res), (c0 :: bk0 zag zy zw zai zz zh zc zaa zab zae zo zm zu zt zv zx zb zl zg za zd zf zah zaf zp zn zaj zak ze zr zs zac zad zj zi zq zk po), 0, 0) := by
  unfold f_findChild at h
  refine OEnds.adv hm_20 1 (pc' := 1) (L' := [qr 1, qi v1, qi v2, qu, qu]) (S' := [.int v1]) (H' := (c0 :: bk0 zag zy zw zai zz zh zc zaa zab zae zo zm zu zt zv zx zb zl zg za zd zf zah zaf zp zn zaj zak ze zr zs zac zad zj zi zq zk po)) rfl ?_
  by_cases hc35 : v1 < (0 : Int32)
  · simp only [if_pos hc35] at h
    refine OEnds.ifT hm_20 rfl (q := 11) rfl ((tlt hc35).1) ?_
    refine OEnds.adv hm_20 1 (pc' := 12) (L' := [qr 1, qi v1, qi v2, qu, qu]) (S' := [.int (-1)]) (H' := (c0 :: bk0 zag zy zw zai zz zh zc zaa zab zae zo zm zu zt zv zx zb zl zg za zd zf zah zaf zp zn zaj zak ze zr zs zac zad zj zi zq zk po)) rfl ?_
    cases h
    exact OEnds.iret hm_20 rfl rfl
  · simp only [if_neg hc35] at h
    refine OEnds.ifF hm_20 rfl ((flt hc35).1) ?_
    refine OEnds.adv hm_20 2 (pc' := 8) (L' := [qr 1, qi v1, qi v2, qu, qu]) (S' := [.int 512, .int v1]) (H' := (c0 :: bk0 zag zy zw zai zz zh zc zaa zab zae zo zm zu zt zv zx zb zl zg za zd zf zah zaf zp zn zaj zak ze zr zs zac zad zj zi zq zk po)) rfl ?_
    by_cases hc36 : v1 < (512 : Int32)
    · simp only [if_pos hc36] at h
      refine OEnds.icmpT hm_20 rfl (q := 13) rfl ((tlt hc36).1) ?_
      refine OEnds.adv hm_20 3 (pc' := 18) (L' := [qr 1, qi v1, qi v2, qu, qu]) (S' := [.int v1, .ref 9]) (H' := (c0 :: bk0 zag zy zw zai zz zh zc zaa zab zae zo zm zu zt zv zx zb zl zg za zd zf zah zaf zp zn zaj zak ze zr zs zac zad zj zi zq zk po)) rfl ?_
      obtain ⟨x23, hx23, h⟩ := bnd h
      refine OEnds.plain hm_20 rfl rfl (x_iaload rfl hx23) ?_
      refine OEnds.adv hm_20 3 (pc' := 23) (L' := [qr 1, qi v1, qi v2, qi x23, qi 0]) (S' := []) (H' := (c0 :: bk0 zag zy zw zai zz zh zc zaa zab zae zo zm zu zt zv zx zb zl zg za zd zf zah zaf zp zn zaj zak ze zr zs zac zad zj zi zq zk po)) rfl ?_
      exact ok_findChild_23 100000 h
    · simp only [if_neg hc36] at h
      refine OEnds.icmpF hm_20 rfl ((flt hc36).1) ?_
      refine OEnds.adv hm_20 1 (pc' := 12) (L' := [qr 1, qi v1, qi v2, qu, qu]) (S' := [.int (-1)]) (H' := (c0 :: bk0 zag zy zw zai zz zh zc zaa zab zae zo zm zu zt zv zx zb zl zg za zd zf zah zaf zp zn zaj zak ze zr zs zac zad zj zi zq zk po)) rfl ?_
      cases h
      exact OEnds.iret hm_20 rfl rfl
theorem ok_addEncoderCode_101 {zag zy zw zai zz zh zo zm zu zt : List Int32} {zv zx zb zl zg za zd zf zah zaf zp zn zaj zak zac zad zj zi zq zk : Int32} {c0 : ACell} {po : List ACell} : ∀ {zc zaa zab zae : List Int32} {ze zr zs : Int32} {d1 d2 d3 : Slot} {w_o_data w_o_firstChild w_o_nextSibling w_o_childPixel : List Int32} {w_o_bitPos w_o_encWidth : Int32} {w_o_encNext : Int32}, f_addEncoderCode_101 zg za zd zf zc zaa zab zae ze zr zs = some (w_o_data, w_o_firstChild, w_o_nextSibling, w_o_childPixel, w_o_bitPos, w_o_encWidth, w_o_encNext) → OEnds own_P 21 101 [qr 1, d1, d2, d3] [] (c0 :: bk0 zag zy zw zai zz zh zc zaa zab zae zo zm zu zt zv zx zb zl zg za zd zf zah zaf zp zn zaj zak ze zr zs zac zad zj zi zq zk po) (none, (c0 :: bk0 zag zy zw zai zz zh w_o_data w_o_firstChild w_o_nextSibling w_o_childPixel zo zm zu zt zv zx zb zl zg za zd zf zah zaf zp zn zaj zak w_o_bitPos w_o_encWidth w_o_encNext zac zad zj zi zq zk po), 0, 0) := by
  intro zc zaa zab zae ze zr zs d1 d2 d3 w_o_data w_o_firstChild w_o_nextSibling w_o_childPixel w_o_bitPos w_o_encWidth w_o_encNext h
  unfold f_addEncoderCode_101 at h
  refine OEnds.adv hm_21 4 (pc' := 109) (L' := [qr 1, qu, qu, qu]) (S' := [.int zf, .int zs]) (H' := (c0 :: bk0 zag zy zw zai zz zh zc zaa zab zae zo zm zu zt zv zx zb zl zg za zd zf zah zaf zp zn zaj zak ze zr zs zac zad zj zi zq zk po)) rfl ?_
  by_cases hc37 : zs = zf
  · simp only [if_pos hc37] at h
    refine OEnds.icmpF hm_21 rfl ((teq hc37).2) ?_
    refine OEnds.adv hm_21 3 (pc' := 117) (L' := [qr 1, qu, qu, qu]) (S' := [.int za, .ref 1]) (H' := (c0 :: bk0 zag zy zw zai zz zh zc zaa zab zae zo zm zu zt zv zx zb zl zg za zd zf zah zaf zp zn zaj zak ze zr zs zac zad zj zi zq zk po)) rfl ?_
    obtain ⟨⟨s31, s32⟩, hq38, h⟩ := bnd h
    refine OEnds.call0 hm_21 rfl rfl (by decide) rfl (as := [.ref 1, .int za]) (rest := []) rfl rfl (ok_putCode hq38) ?_
    refine OEnds.adv hm_21 3 (pc' := 125) (L' := [qr 1, qu, qu, qu]) (S' := [.int zs, .ref 1]) (H' := (c0 :: bk0 zag zy zw zai zz zh s31 zaa zab zae zo zm zu zt zv zx zb zl zg za zd zf zah zaf zp zn zaj zak s32 zr zs zac zad zj zi zq zk po)) rfl ?_
    obtain ⟨s33, hq39, h⟩ := bnd h
    refine OEnds.call0 hm_21 rfl rfl (by decide) rfl (as := [.ref 1, .int zs]) (rest := []) rfl rfl (ok_resetEncoderTable hq39) ?_
    refine OEnds.adv hm_21 12 (pc' := 148) (L' := [qr 1, qu, qu, qu]) (S' := []) (H' := (c0 :: bk0 zag zy zw zai zz zh s31 s33 zab zae zo zm zu zt zv zx zb zl zg za zd zf zah zaf zp zn zaj zak s32 (zg + (1 : Int32)) (za + (2 : Int32)) zac zad zj zi zq zk po)) rfl ?_
    cases h
    exact OEnds.vret hm_21 rfl rfl
  · simp only [if_neg hc37] at h
    refine OEnds.icmpT hm_21 rfl (q := 148) rfl ((feq hc37).2) ?_
    show OEnds own_P 21 148 [qr 1, qu, qu, qu] [] (c0 :: bk0 zag zy zw zai zz zh zc zaa zab zae zo zm zu zt zv zx zb zl zg za zd zf zah zaf zp zn zaj zak ze zr zs zac zad zj zi zq zk po) _
    cases h
    exact OEnds.vret hm_21 rfl rfl
theorem ok_addEncoderCode_60 {zag zy zw zai zz zh zo zm zu zt : List Int32} {zv zx zb zl zg za zd zf zah zaf zp zn zaj zak zac zad zj zi zq zk : Int32} {c0 : ACell} {po : List ACell} : ∀ {zc zaa zab zae : List Int32} {ze zr zs v3 : Int32} {d1 d2 : Slot} {w_o_data w_o_firstChild w_o_nextSibling w_o_childPixel : List Int32} {w_o_bitPos w_o_encWidth : Int32} {w_o_encNext : Int32}, f_addEncoderCode_60 zg za zd zf zc zaa zab zae ze zr zs v3 = some (w_o_data, w_o_firstChild, w_o_nextSibling, w_o_childPixel, w_o_bitPos, w_o_encWidth, w_o_encNext) → OEnds own_P 21 60 [qr 1, d1, d2, qi v3] [] (c0 :: bk0 zag zy zw zai zz zh zc zaa zab zae zo zm zu zt zv zx zb zl zg za zd zf zah zaf zp zn zaj zak ze zr zs zac zad zj zi zq zk po) (none, (c0 :: bk0 zag zy zw zai zz zh w_o_data w_o_firstChild w_o_nextSibling w_o_childPixel zo zm zu zt zv zx zb zl zg za zd zf zah zaf zp zn zaj zak w_o_bitPos w_o_encWidth w_o_encNext zac zad zj zi zq zk po), 0, 0) := by
  intro zc zaa zab zae ze zr zs v3 d1 d2 w_o_data w_o_firstChild w_o_nextSibling w_o_childPixel w_o_bitPos w_o_encWidth w_o_encNext h
  unfold f_addEncoderCode_60 at h
  refine OEnds.adv hm_21 11 (pc' := 77) (L' := [qr 1, qu, qu, qi v3]) (S' := [.int ((1 : Int32) <<< (zr &&& 31)), .int (v3 + (1 : Int32))]) (H' := (c0 :: bk0 zag zy zw zai zz zh zc zaa zab zae zo zm zu zt zv zx zb zl zg za zd zf zah zaf zp zn zaj zak ze zr (v3 + (1 : Int32)) zac zad zj zi zq zk po)) rfl ?_
  by_cases hc40 : ((1 : Int32) <<< (zr &&& 31)) < (v3 + (1 : Int32))
  · simp only [if_pos hc40] at h
    refine OEnds.icmpF hm_21 rfl ((tlt hc40).2.2.2) ?_
    refine OEnds.adv hm_21 4 (pc' := 88) (L' := [qr 1, qu, qu, qi v3]) (S' := [.int zd, .int zr]) (H' := (c0 :: bk0 zag zy zw zai zz zh zc zaa zab zae zo zm zu zt zv zx zb zl zg za zd zf zah zaf zp zn zaj zak ze zr (v3 + (1 : Int32)) zac zad zj zi zq zk po)) rfl ?_
    by_cases hc41 : zr < zd
    · simp only [if_pos hc41] at h
      refine OEnds.icmpF hm_21 rfl ((tlt hc41).2.1) ?_
      refine OEnds.adv hm_21 6 (pc' := 101) (L' := [qr 1, qu, qu, qi v3]) (S' := []) (H' := (c0 :: bk0 zag zy zw zai zz zh zc zaa zab zae zo zm zu zt zv zx zb zl zg za zd zf zah zaf zp zn zaj zak ze (zr + (1 : Int32)) (v3 + (1 : Int32)) zac zad zj zi zq zk po)) rfl ?_
      exact ok_addEncoderCode_101 h
    · simp only [if_neg hc41] at h
      refine OEnds.icmpT hm_21 rfl (q := 101) rfl ((flt hc41).2.1) ?_
      show OEnds own_P 21 101 [qr 1, qu, qu, qi v3] [] (c0 :: bk0 zag zy zw zai zz zh zc zaa zab zae zo zm zu zt zv zx zb zl zg za zd zf zah zaf zp zn zaj zak ze zr (v3 + (1 : Int32)) zac zad zj zi zq zk po) _
      exact ok_addEncoderCode_101 h
  · simp only [if_neg hc40] at h
    refine OEnds.icmpT hm_21 rfl (q := 101) rfl ((flt hc40).2.2.2) ?_
    show OEnds own_P 21 101 [qr 1, qu, qu, qi v3] [] (c0 :: bk0 zag zy zw zai zz zh zc zaa zab zae zo zm zu zt zv zx zb zl zg za zd zf zah zaf zp zn zaj zak ze zr (v3 + (1 : Int32)) zac zad zj zi zq zk po) _
    exact ok_addEncoderCode_101 h
theorem ok_addEncoderCode {zag zy zw zai zz zh zo zm zu zt : List Int32} {zv zx zb zl zg za zd zf zah zaf zp zn zaj zak zac zad zj zi zq zk : Int32} {c0 : ACell} {po : List ACell} {zc zaa zab zae : List Int32} {ze zr zs v1 v2 : Int32} {w_o_data w_o_firstChild w_o_nextSibling w_o_childPixel : List Int32} {w_o_bitPos w_o_encWidth w_o_encNext : Int32} (h : f_addEncoderCode zg za zd zf zc zaa zab zae ze zr zs v1 v2 = some (w_o_data, w_o_firstChild, w_o_nextSibling, w_o_childPixel, w_o_bitPos, w_o_encWidth, w_o_encNext)) : OEnds own_P 21 0 [qr 1, qi v1, qi v2, qu] [] (c0 :: bk0 zag zy zw zai zz zh zc zaa zab zae zo zm zu zt zv zx zb zl zg za zd zf zah zaf zp zn zaj zak ze zr zs zac zad zj zi zq zk po) (none, (c0 :: bk0 zag zy zw zai zz zh w_o_data w_o_firstChild w_o_nextSibling w_o_childPixel zo zm zu zt zv zx zb zl zg za zd zf zah zaf zp zn zaj zak w_o_bitPos w_o_encWidth w_o_encNext zac zad zj zi zq zk po), 0, 0) := by
  unfold f_addEncoderCode at h
  refine OEnds.adv hm_21 4 (pc' := 6) (L' := [qr 1, qi v1, qi v2, qi zs]) (S' := [.int zs]) (H' := (c0 :: bk0 zag zy zw zai zz zh zc zaa zab zae zo zm zu zt zv zx zb zl zg za zd zf zah zaf zp zn zaj zak ze zr zs zac zad zj zi zq zk po)) rfl ?_
  by_cases hc42 : zs < (0 : Int32)
  · simp only [if_pos hc42] at h
    refine OEnds.ifT hm_21 rfl (q := 60) rfl ((tlt hc42).1) ?_
    show OEnds own_P 21 60 [qr 1, qi v1, qi v2, qi zs] [] (c0 :: bk0 zag zy zw zai zz zh zc zaa zab zae zo zm zu zt zv zx zb zl zg za zd zf zah zaf zp zn zaj zak ze zr zs zac zad zj zi zq zk po) _
    exact ok_addEncoderCode_60 h
  · simp only [if_neg hc42] at h
    refine OEnds.ifF hm_21 rfl ((flt hc42).1) ?_
    refine OEnds.adv hm_21 2 (pc' := 13) (L' := [qr 1, qi v1, qi v2, qi zs]) (S' := [.int 512, .int zs]) (H' := (c0 :: bk0 zag zy zw zai zz zh zc zaa zab zae zo zm zu zt zv zx zb zl zg za zd zf zah zaf zp zn zaj zak ze zr zs zac zad zj zi zq zk po)) rfl ?_
    by_cases hc43 : zs < (512 : Int32)
    · simp only [if_pos hc43] at h
      refine OEnds.icmpF hm_21 rfl ((tlt hc43).2.1) ?_
      refine OEnds.adv hm_21 1 (pc' := 17) (L' := [qr 1, qi v1, qi v2, qi zs]) (S' := [.int v1]) (H' := (c0 :: bk0 zag zy zw zai zz zh zc zaa zab zae zo zm zu zt zv zx zb zl zg za zd zf zah zaf zp zn zaj zak ze zr zs zac zad zj zi zq zk po)) rfl ?_
      by_cases hc44 : v1 < (0 : Int32)
      · simp only [if_pos hc44] at h
        refine OEnds.ifT hm_21 rfl (q := 60) rfl ((tlt hc44).1) ?_
        show OEnds own_P 21 60 [qr 1, qi v1, qi v2, qi zs] [] (c0 :: bk0 zag zy zw zai zz zh zc zaa zab zae zo zm zu zt zv zx zb zl zg za zd zf zah zaf zp zn zaj zak ze zr zs zac zad zj zi zq zk po) _
        exact ok_addEncoderCode_60 h
      · simp only [if_neg hc44] at h
        refine OEnds.ifF hm_21 rfl ((flt hc44).1) ?_
        refine OEnds.adv hm_21 2 (pc' := 24) (L' := [qr 1, qi v1, qi v2, qi zs]) (S' := [.int 512, .int v1]) (H' := (c0 :: bk0 zag zy zw zai zz zh zc zaa zab zae zo zm zu zt zv zx zb zl zg za zd zf zah zaf zp zn zaj zak ze zr zs zac zad zj zi zq zk po)) rfl ?_
        by_cases hc45 : v1 < (512 : Int32)
        · simp only [if_pos hc45] at h
          refine OEnds.icmpF hm_21 rfl ((tlt hc45).2.1) ?_
          refine OEnds.adv hm_21 4 (pc' := 33) (L' := [qr 1, qi v1, qi v2, qi zs]) (S' := [.int v2, .int zs, .ref 11]) (H' := (c0 :: bk0 zag zy zw zai zz zh zc zaa zab zae zo zm zu zt zv zx zb zl zg za zd zf zah zaf zp zn zaj zak ze zr zs zac zad zj zi zq zk po)) rfl ?_
          obtain ⟨A26, hA26, h⟩ := bnd h
          refine OEnds.plain hm_21 rfl rfl (x_iastore rfl (Nat.le_of_ble_eq_true rfl) hA26) ?_
          refine OEnds.adv hm_21 6 (pc' := 44) (L' := [qr 1, qi v1, qi v2, qi zs]) (S' := [.int v1, .ref 9, .int zs, .ref 10]) (H' := (c0 :: bk0 zag zy zw zai zz zh zc zaa zab A26 zo zm zu zt zv zx zb zl zg za zd zf zah zaf zp zn zaj zak ze zr zs zac zad zj zi zq zk po)) rfl ?_
          obtain ⟨x27, hx27, h⟩ := bnd h
          refine OEnds.plain hm_21 rfl rfl (x_iaload rfl hx27) ?_
          show OEnds own_P 21 45 [qr 1, qi v1, qi v2, qi zs] [.int x27, .int zs, .ref 10] (c0 :: bk0 zag zy zw zai zz zh zc zaa zab A26 zo zm zu zt zv zx zb zl zg za zd zf zah zaf zp zn zaj zak ze zr zs zac zad zj zi zq zk po) _
          obtain ⟨A28, hA28, h⟩ := bnd h
          refine OEnds.plain hm_21 rfl rfl (x_iastore rfl (Nat.le_of_ble_eq_true rfl) hA28) ?_
          refine OEnds.adv hm_21 4 (pc' := 52) (L' := [qr 1, qi v1, qi v2, qi zs]) (S' := [.int zs, .int v1, .ref 9]) (H' := (c0 :: bk0 zag zy zw zai zz zh zc zaa A28 A26 zo zm zu zt zv zx zb zl zg za zd zf zah zaf zp zn zaj zak ze zr zs zac zad zj zi zq zk po)) rfl ?_
          obtain ⟨A29, hA29, h⟩ := bnd h
          refine OEnds.plain hm_21 rfl rfl (x_iastore rfl (Nat.le_of_ble_eq_true rfl) hA29) ?_
          refine OEnds.adv hm_21 4 (pc' := 59) (L' := [qr 1, qi v1, qi v2, qi zs]) (S' := [.int (-1), .int zs, .ref 9]) (H' := (c0 :: bk0 zag zy zw zai zz zh zc A29 A28 A26 zo zm zu zt zv zx zb zl zg za zd zf zah zaf zp zn zaj zak ze zr zs zac zad zj zi zq zk po)) rfl ?_
          obtain ⟨A30, hA30, h⟩ := bnd h
          refine OEnds.plain hm_21 rfl rfl (x_iastore rfl (Nat.le_of_ble_eq_true rfl) hA30) ?_
          show OEnds own_P 21 60 [qr 1, qi v1, qi v2, qi zs] [] (c0 :: bk0 zag zy zw zai zz zh zc A30 A28 A26 zo zm zu zt zv zx zb zl zg za zd zf zah zaf zp zn zaj zak ze zr zs zac zad zj zi zq zk po) _
          exact ok_addEncoderCode_60 h
        · simp only [if_neg hc45] at h
          refine OEnds.icmpT hm_21 rfl (q := 60) rfl ((flt hc45).2.1) ?_
          show OEnds own_P 21 60 [qr 1, qi v1, qi v2, qi zs] [] (c0 :: bk0 zag zy zw zai zz zh zc zaa zab zae zo zm zu zt zv zx zb zl zg za zd zf zah zaf zp zn zaj zak ze zr zs zac zad zj zi zq zk po) _
          exact ok_addEncoderCode_60 h
    · simp only [if_neg hc43] at h
      refine OEnds.icmpT hm_21 rfl (q := 60) rfl ((flt hc43).2.1) ?_
      show OEnds own_P 21 60 [qr 1, qi v1, qi v2, qi zs] [] (c0 :: bk0 zag zy zw zai zz zh zc zaa zab zae zo zm zu zt zv zx zb zl zg za zd zf zah zaf zp zn zaj zak ze zr zs zac zad zj zi zq zk po) _
      exact ok_addEncoderCode_60 h
theorem ok_compress_103 {zag zy zw zai zz zh zo zm zu zt : List Int32} {zv zx zb zl zg za zd zf zah zaf zp zn zaj zak zac zad zj zi zq zk : Int32} {c0 : ACell} {po : List ACell} : ∀ {zc zaa zab zae : List Int32} {ze zr zs v1 : Int32} {d2 d3 d4 : Slot} {w_o_data w_o_firstChild w_o_nextSibling w_o_childPixel : List Int32} {w_o_bitPos w_o_encWidth : Int32} {w_o_encNext : Int32}, f_compress_103 zh zb zg za zd zf zc zaa zab zae ze zr zs v1 = some (w_o_data, w_o_firstChild, w_o_nextSibling, w_o_childPixel, w_o_bitPos, w_o_encWidth, w_o_encNext) → OEnds own_P 17 103 [qr 1, qi v1, d2, d3, d4] [] (c0 :: bk0 zag zy zw zai zz zh zc zaa zab zae zo zm zu zt zv zx zb zl zg za zd zf zah zaf zp zn zaj zak ze zr zs zac zad zj zi zq zk po) (none, (c0 :: bk0 zag zy zw zai zz zh w_o_data w_o_firstChild w_o_nextSibling w_o_childPixel zo zm zu zt zv zx zb zl zg za zd zf zah zaf zp zn zaj zak w_o_bitPos w_o_encWidth w_o_encNext zac zad zj zi zq zk po), 0, 0) := by
  intro zc zaa zab zae ze zr zs v1 d2 d3 d4 w_o_data w_o_firstChild w_o_nextSibling w_o_childPixel w_o_bitPos w_o_encWidth w_o_encNext h
  unfold f_compress_103 at h
  refine OEnds.adv hm_17 2 (pc' := 105) (L' := [qr 1, qi v1, qu, qu, qu]) (S' := [.int v1, .ref 1]) (H' := (c0 :: bk0 zag zy zw zai zz zh zc zaa zab zae zo zm zu zt zv zx zb zl zg za zd zf zah zaf zp zn zaj zak ze zr zs zac zad zj zi zq zk po)) rfl ?_
  obtain ⟨⟨s49, s50⟩, hq46, h⟩ := bnd h
  refine OEnds.call0 hm_17 rfl rfl (by decide) rfl (as := [.ref 1, .int v1]) (rest := []) rfl rfl (ok_putCode hq46) ?_
  refine OEnds.adv hm_17 5 (pc' := 115) (L' := [qr 1, qi v1, qu, qu, qu]) (S' := [.int (za + (1 : Int32)), .ref 1]) (H' := (c0 :: bk0 zag zy zw zai zz zh s49 zaa zab zae zo zm zu zt zv zx zb zl zg za zd zf zah zaf zp zn zaj zak s50 zr zs zac zad zj zi zq zk po)) rfl ?_
  obtain ⟨⟨s51, s52⟩, hq47, h⟩ := bnd h
  refine OEnds.call0 hm_17 rfl rfl (by decide) rfl (as := [.ref 1, .int (za + (1 : Int32))]) (rest := []) rfl rfl (ok_putCode hq47) ?_
  show OEnds own_P 17 118 [qr 1, qi v1, qu, qu, qu] [] (c0 :: bk0 zag zy zw zai zz zh s51 zaa zab zae zo zm zu zt zv zx zb zl zg za zd zf zah zaf zp zn zaj zak s52 zr zs zac zad zj zi zq zk po) _
  cases h
  exact OEnds.vret hm_17 rfl rfl
theorem ok_compress_50 {zag zy zw zai zz zh zo zm zu zt : List Int32} {zv zx zb zl zg za zd zf zah zaf zp zn zaj zak zac zad zj zi zq zk : Int32} {c0 : ACell} {po : List ACell} {k103 : List Int32 → List Int32 → List Int32 → List Int32 → Int32 → Int32 → Int32 → Int32 → Option (List Int32 × List Int32 × List Int32 × List Int32 × Int32 × Int32 × Int32)} (hk103 : ∀ {zc zaa zab zae : List Int32} {ze zr zs v1 : Int32} {d2 d3 d4 : Slot} {w_o_data w_o_firstChild w_o_nextSibling w_o_childPixel : List Int32} {w_o_bitPos w_o_encWidth : Int32} {w_o_encNext : Int32}, k103 zc zaa zab zae ze zr zs v1 = some (w_o_data, w_o_firstChild, w_o_nextSibling, w_o_childPixel, w_o_bitPos, w_o_encWidth, w_o_encNext) → OEnds own_P 17 103 [qr 1, qi v1, d2, d3, d4] [] (c0 :: bk0 zag zy zw zai zz zh zc zaa zab zae zo zm zu zt zv zx zb zl zg za zd zf zah zaf zp zn zaj zak ze zr zs zac zad zj zi zq zk po) (none, (c0 :: bk0 zag zy zw zai zz zh w_o_data w_o_firstChild w_o_nextSibling w_o_childPixel zo zm zu zt zv zx zb zl zg za zd zf zah zaf zp zn zaj zak w_o_bitPos w_o_encWidth w_o_encNext zac zad zj zi zq zk po), 0, 0)) : ∀ (n : Nat), ∀ {zc zaa zab zae : List Int32} {ze zr zs v1 v2 : Int32} {d3 d4 : Slot} {w_o_data w_o_firstChild w_o_nextSibling w_o_childPixel : List Int32} {w_o_bitPos w_o_encWidth : Int32} {w_o_encNext : Int32}, f_compress_50 k103 zh zb zg za zd zf n zc zaa zab zae ze zr zs v1 v2 = some (w_o_data, w_o_firstChild, w_o_nextSibling, w_o_childPixel, w_o_bitPos, w_o_encWidth, w_o_encNext) → OEnds own_P 17 50 [qr 1, qi v1, qi v2, d3, d4] [] (c0 :: bk0 zag zy zw zai zz zh zc zaa zab zae zo zm zu zt zv zx zb zl zg za zd zf zah zaf zp zn zaj zak ze zr zs zac zad zj zi zq zk po) (none, (c0 :: bk0 zag zy zw zai zz zh w_o_data w_o_firstChild w_o_nextSibling w_o_childPixel zo zm zu zt zv zx zb zl zg za zd zf zah zaf zp zn zaj zak w_o_bitPos w_o_encWidth w_o_encNext zac zad zj zi zq zk po), 0, 0) := by
  intro n
  induction n with
  | zero => intro zc zaa zab zae ze zr zs v1 v2 d3 d4 w_o_data w_o_firstChild w_o_nextSibling w_o_childPixel w_o_bitPos w_o_encWidth w_o_encNext h; cases h
  | succ n ih =>
    intro zc zaa zab zae ze zr zs v1 v2 d3 d4 w_o_data w_o_firstChild w_o_nextSibling w_o_childPixel w_o_bitPos w_o_encWidth w_o_encNext h
    unfold f_compress_50 at h
    refine OEnds.adv hm_17 3 (pc' := 55) (L' := [qr 1, qi v1, qi v2, qu, qu]) (S' := [.int zb, .int v2]) (H' := (c0 :: bk0 zag zy zw zai zz zh zc zaa zab zae zo zm zu zt zv zx zb zl zg za zd zf zah zaf zp zn zaj zak ze zr zs zac zad zj zi zq zk po)) rfl ?_
    by_cases hc48 : v2 < zb
    · simp only [if_pos hc48] at h
      refine OEnds.icmpF hm_17 rfl ((tlt hc48).2.1) ?_
      refine OEnds.adv hm_17 3 (pc' := 63) (L' := [qr 1, qi v1, qi v2, qu, qu]) (S' := [.int v2, .ref 7]) (H' := (c0 :: bk0 zag zy zw zai zz zh zc zaa zab zae zo zm zu zt zv zx zb zl zg za zd zf zah zaf zp zn zaj zak ze zr zs zac zad zj zi zq zk po)) rfl ?_
      obtain ⟨x38, hx38, h⟩ := bnd h
      refine OEnds.plain hm_17 rfl rfl (x_iaload rfl hx38) ?_
      refine OEnds.adv hm_17 4 (pc' := 68) (L' := [qr 1, qi v1, qi v2, qi x38, qu]) (S' := [.int x38, .int v1, .ref 1]) (H' := (c0 :: bk0 zag zy zw zai zz zh zc zaa zab zae zo zm zu zt zv zx zb zl zg za zd zf zah zaf zp zn zaj zak ze zr zs zac zad zj zi zq zk po)) rfl ?_
      obtain ⟨r39, hq49, h⟩ := bnd h
      refine OEnds.call0 hm_17 rfl rfl (by decide) rfl (as := [.ref 1, .int v1, .int x38]) (rest := []) rfl rfl (ok_findChild hq49) ?_
      refine OEnds.adv hm_17 2 (pc' := 75) (L' := [qr 1, qi v1, qi v2, qi x38, qi r39]) (S' := [.int r39]) (H' := (c0 :: bk0 zag zy zw zai zz zh zc zaa zab zae zo zm zu zt zv zx zb zl zg za zd zf zah zaf zp zn zaj zak ze zr zs zac zad zj zi zq zk po)) rfl ?_
      by_cases hc50 : r39 < (0 : Int32)
      · simp only [if_pos hc50] at h
        refine OEnds.ifT hm_17 rfl (q := 84) rfl ((tlt hc50).1) ?_
        refine OEnds.adv hm_17 2 (pc' := 86) (L' := [qr 1, qi v1, qi v2, qi x38, qi r39]) (S' := [.int v1, .ref 1]) (H' := (c0 :: bk0 zag zy zw zai zz zh zc zaa zab zae zo zm zu zt zv zx zb zl zg za zd zf zah zaf zp zn zaj zak ze zr zs zac zad zj zi zq zk po)) rfl ?_
        obtain ⟨⟨s40, s41⟩, hq51, h⟩ := bnd h
        refine OEnds.call0 hm_17 rfl rfl (by decide) rfl (as := [.ref 1, .int v1]) (rest := []) rfl rfl (ok_putCode hq51) ?_
        refine OEnds.adv hm_17 3 (pc' := 92) (L' := [qr 1, qi v1, qi v2, qi x38, qi r39]) (S' := [.int x38, .int v1, .ref 1]) (H' := (c0 :: bk0 zag zy zw zai zz zh s40 zaa zab zae zo zm zu zt zv zx zb zl zg za zd zf zah zaf zp zn zaj zak s41 zr zs zac zad zj zi zq zk po)) rfl ?_
        obtain ⟨⟨s42, s43, s44, s45, s46, s47, s48⟩, hq52, h⟩ := bnd h
        refine OEnds.call0 hm_17 rfl rfl (by decide) rfl (as := [.ref 1, .int v1, .int x38]) (rest := []) rfl rfl (ok_addEncoderCode hq52) ?_
        refine OEnds.adv hm_17 4 (pc' := 50) (L' := [qr 1, qi x38, qi (v2 + (1 : Int32)), qi x38, qi r39]) (S' := []) (H' := (c0 :: bk0 zag zy zw zai zz zh s42 s43 s44 s45 zo zm zu zt zv zx zb zl zg za zd zf zah zaf zp zn zaj zak s46 s47 s48 zac zad zj zi zq zk po)) rfl ?_
        exact ih h
      · simp only [if_neg hc50] at h
        refine OEnds.ifF hm_17 rfl ((flt hc50).1) ?_
        refine OEnds.adv hm_17 5 (pc' := 50) (L' := [qr 1, qi r39, qi (v2 + (1 : Int32)), qi x38, qi r39]) (S' := []) (H' := (c0 :: bk0 zag zy zw zai zz zh zc zaa zab zae zo zm zu zt zv zx zb zl zg za zd zf zah zaf zp zn zaj zak ze zr zs zac zad zj zi zq zk po)) rfl ?_
        exact ih h
    · simp only [if_neg hc48] at h
      refine OEnds.icmpT hm_17 rfl (q := 103) rfl ((flt hc48).2.1) ?_
      show OEnds own_P 17 103 [qr 1, qi v1, qi v2, qu, qu] [] (c0 :: bk0 zag zy zw zai zz zh zc zaa zab zae zo zm zu zt zv zx zb zl zg za zd zf zah zaf zp zn zaj zak ze zr zs zac zad zj zi zq zk po) _
      exact hk103 h
theorem ok_compress {zag zy zw zai zz zh zo zm zu zt : List Int32} {zv zx zb zl zg za zd zf zah zaf zp zn zaj zak zac zad zj zi zq zk : Int32} {c0 : ACell} {po : List ACell} {zc zaa zab zae : List Int32} {ze zr zs : Int32} {w_o_data w_o_firstChild w_o_nextSibling w_o_childPixel : List Int32} {w_o_bitPos w_o_encWidth w_o_encNext : Int32} (h : f_compress zh zb zg za zd zf zc zaa zab zae ze zr zs = some (w_o_data, w_o_firstChild, w_o_nextSibling, w_o_childPixel, w_o_bitPos, w_o_encWidth, w_o_encNext)) : OEnds own_P 17 0 [qr 1, qu, qu, qu, qu] [] (c0 :: bk0 zag zy zw zai zz zh zc zaa zab zae zo zm zu zt zv zx zb zl zg za zd zf zah zaf zp zn zaj zak ze zr zs zac zad zj zi zq zk po) (none, (c0 :: bk0 zag zy zw zai zz zh w_o_data w_o_firstChild w_o_nextSibling w_o_childPixel zo zm zu zt zv zx zb zl zg za zd zf zah zaf zp zn zaj zak w_o_bitPos w_o_encWidth w_o_encNext zac zad zj zi zq zk po), 0, 0) := by
  unfold f_compress at h
  refine OEnds.adv hm_17 6 (pc' := 10) (L' := [qr 1, qu, qu, qu, qu]) (S' := [.int zf, .ref 1]) (H' := (c0 :: bk0 zag zy zw zai zz zh zc zaa zab zae zo zm zu zt zv zx zb zl zg za zd zf zah zaf zp zn zaj zak 0 zr zs zac zad zj zi zq zk po)) rfl ?_
  obtain ⟨s34, hq53, h⟩ := bnd h
  refine OEnds.call0 hm_17 rfl rfl (by decide) rfl (as := [.ref 1, .int zf]) (rest := []) rfl rfl (ok_resetEncoderTable hq53) ?_
  refine OEnds.adv hm_17 15 (pc' := 38) (L' := [qr 1, qu, qu, qu, qu]) (S' := [.int za, .ref 1]) (H' := (c0 :: bk0 zag zy zw zai zz zh zc s34 zab zae zo zm zu zt zv zx zb zl zg za zd zf zah zaf zp zn zaj zak 0 (zg + (1 : Int32)) (za + (2 : Int32)) zac zad zj zi zq zk po)) rfl ?_
  obtain ⟨⟨s35, s36⟩, hq54, h⟩ := bnd h
  refine OEnds.call0 hm_17 rfl rfl (by decide) rfl (as := [.ref 1, .int za]) (rest := []) rfl rfl (ok_putCode hq54) ?_
  refine OEnds.adv hm_17 3 (pc' := 46) (L' := [qr 1, qu, qu, qu, qu]) (S' := [.int 0, .ref 7]) (H' := (c0 :: bk0 zag zy zw zai zz zh s35 s34 zab zae zo zm zu zt zv zx zb zl zg za zd zf zah zaf zp zn zaj zak s36 (zg + (1 : Int32)) (za + (2 : Int32)) zac zad zj zi zq zk po)) rfl ?_
  obtain ⟨x37, hx37, h⟩ := bnd h
  refine OEnds.plain hm_17 rfl rfl (x_iaload rfl hx37) ?_
  refine OEnds.adv hm_17 3 (pc' := 50) (L' := [qr 1, qi x37, qi 1, qu, qu]) (S' := []) (H' := (c0 :: bk0 zag zy zw zai zz zh s35 s34 zab zae zo zm zu zt zv zx zb zl zg za zd zf zah zaf zp zn zaj zak s36 (zg + (1 : Int32)) (za + (2 : Int32)) zac zad zj zi zq zk po)) rfl ?_
  exact ok_compress_50 (k103 := f_compress_103 zh zb zg za zd zf) ok_compress_103 100000 h
theorem ok_writeOut {zag zw zai zz zh zc zaa zab zae zo zm zu zt : List Int32} {zv zx zb zl zg za zd zf zah zaf zn zaj zak ze zr zs zac zad zj zi zq zk : Int32} {c0 : ACell} {po : List ACell} {zy : List Int32} {zp v1 : Int32} {w_o_out : List Int32} {w_o_outLen : Int32} (h : f_writeOut zy zp v1 = some (w_o_out, w_o_outLen)) : OEnds own_P 23 0 [qr 1, qi v1] [] (c0 :: bk0 zag zy zw zai zz zh zc zaa zab zae zo zm zu zt zv zx zb zl zg za zd zf zah zaf zp zn zaj zak ze zr zs zac zad zj zi zq zk po) (none, (c0 :: bk0 zag w_o_out zw zai zz zh zc zaa zab zae zo zm zu zt zv zx zb zl zg za zd zf zah zaf w_o_outLen zn zaj zak ze zr zs zac zad zj zi zq zk po), 0, 0) := by
  unfold f_writeOut at h
  refine OEnds.adv hm_23 2 (pc' := 4) (L' := [qr 1, qi v1]) (S' := [.int zp]) (H' := (c0 :: bk0 zag zy zw zai zz zh zc zaa zab zae zo zm zu zt zv zx zb zl zg za zd zf zah zaf zp zn zaj zak ze zr zs zac zad zj zi zq zk po)) rfl ?_
  by_cases hc55 : zp < (0 : Int32)
  · simp only [if_pos hc55] at h
    refine OEnds.ifT hm_23 rfl (q := 41) rfl ((tlt hc55).1) ?_
    show OEnds own_P 23 41 [qr 1, qi v1] [] (c0 :: bk0 zag zy zw zai zz zh zc zaa zab zae zo zm zu zt zv zx zb zl zg za zd zf zah zaf zp zn zaj zak ze zr zs zac zad zj zi zq zk po) _
    cases h
    exact OEnds.vret hm_23 rfl rfl
  · simp only [if_neg hc55] at h
    refine OEnds.ifF hm_23 rfl ((flt hc55).1) ?_
    refine OEnds.adv hm_23 3 (pc' := 14) (L' := [qr 1, qi v1]) (S' := [.int 400, .int zp]) (H' := (c0 :: bk0 zag zy zw zai zz zh zc zaa zab zae zo zm zu zt zv zx zb zl zg za zd zf zah zaf zp zn zaj zak ze zr zs zac zad zj zi zq zk po)) rfl ?_
    by_cases hc56 : zp < (400 : Int32)
    · simp only [if_pos hc56] at h
      refine OEnds.icmpF hm_23 rfl ((tlt hc56).2.1) ?_
      refine OEnds.adv hm_23 7 (pc' := 30) (L' := [qr 1, qi v1]) (S' := [.int (v1 &&& (255 : Int32)), .int zp, .ref 3]) (H' := (c0 :: bk0 zag zy zw zai zz zh zc zaa zab zae zo zm zu zt zv zx zb zl zg za zd zf zah zaf zp zn zaj zak ze zr zs zac zad zj zi zq zk po)) rfl ?_
      obtain ⟨A53, hA53, h⟩ := bnd h
      refine OEnds.plain hm_23 rfl rfl (x_iastore rfl (Nat.le_of_ble_eq_true rfl) hA53) ?_
      refine OEnds.adv hm_23 6 (pc' := 41) (L' := [qr 1, qi v1]) (S' := []) (H' := (c0 :: bk0 zag A53 zw zai zz zh zc zaa zab zae zo zm zu zt zv zx zb zl zg za zd zf zah zaf (zp + (1 : Int32)) zn zaj zak ze zr zs zac zad zj zi zq zk po)) rfl ?_
      cases h
      exact OEnds.vret hm_23 rfl rfl
    · simp only [if_neg hc56] at h
      refine OEnds.icmpT hm_23 rfl (q := 41) rfl ((flt hc56).2.1) ?_
      show OEnds own_P 23 41 [qr 1, qi v1] [] (c0 :: bk0 zag zy zw zai zz zh zc zaa zab zae zo zm zu zt zv zx zb zl zg za zd zf zah zaf zp zn zaj zak ze zr zs zac zad zj zi zq zk po) _
      cases h
      exact OEnds.vret hm_23 rfl rfl
theorem ok_packBlocks_111 {zag zw zai zz zh zc zaa zab zae zo zm zu zt : List Int32} {zv zx zb zl zg za zd zf zah zaf zn zaj zak ze zr zs zac zad zj zi zq zk : Int32} {c0 : ACell} {po : List ACell} : ∀ {zy : List Int32} {zp : Int32} {d1 d2 d3 d4 d5 : Slot} {w_o_out : List Int32} {w_o_outLen : Int32}, f_packBlocks_111 zc zg zaf ze zy zp = some (w_o_out, w_o_outLen) → OEnds own_P 22 111 [qr 1, d1, d2, d3, d4, d5] [] (c0 :: bk0 zag zy zw zai zz zh zc zaa zab zae zo zm zu zt zv zx zb zl zg za zd zf zah zaf zp zn zaj zak ze zr zs zac zad zj zi zq zk po) (none, (c0 :: bk0 zag w_o_out zw zai zz zh zc zaa zab zae zo zm zu zt zv zx zb zl zg za zd zf zah zaf w_o_outLen zn zaj zak ze zr zs zac zad zj zi zq zk po), 0, 0) := by
  intro zy zp d1 d2 d3 d4 d5 w_o_out w_o_outLen h
  unfold f_packBlocks_111 at h
  refine OEnds.adv hm_22 2 (pc' := 113) (L' := [qr 1, qu, qu, qu, qu, qu]) (S' := [.int 0, .ref 1]) (H' := (c0 :: bk0 zag zy zw zai zz zh zc zaa zab zae zo zm zu zt zv zx zb zl zg za zd zf zah zaf zp zn zaj zak ze zr zs zac zad zj zi zq zk po)) rfl ?_
  obtain ⟨⟨s61, s62⟩, hq57, h⟩ := bnd h
  refine OEnds.call0 hm_22 rfl rfl (by decide) rfl (as := [.ref 1, .int 0]) (rest := []) rfl rfl (ok_writeOut hq57) ?_
  show OEnds own_P 22 116 [qr 1, qu, qu, qu, qu, qu] [] (c0 :: bk0 zag s61 zw zai zz zh zc zaa zab zae zo zm zu zt zv zx zb zl zg za zd zf zah zaf s62 zn zaj zak ze zr zs zac zad zj zi zq zk po) _
  cases h
  exact OEnds.vret hm_22 rfl rfl
theorem ok_packBlocks_79 {zag zw zai zz zh zc zaa zab zae zo zm zu zt : List Int32} {zv zx zb zl zg za zd zf zah zaf zn zaj zak ze zr zs zac zad zj zi zq zk : Int32} {c0 : ACell} {po : List ACell} {k38 : List Int32 → Int32 → Int32 → Int32 → Int32 → Option (List Int32 × Int32)} (hk38 : ∀ {zy : List Int32} {zp v1 v2 v3 : Int32} {d4 d5 : Slot} {w_o_out : List Int32} {w_o_outLen : Int32}, k38 zy zp v1 v2 v3 = some (w_o_out, w_o_outLen) → OEnds own_P 22 38 [qr 1, qi v1, qi v2, qi v3, d4, d5] [] (c0 :: bk0 zag zy zw zai zz zh zc zaa zab zae zo zm zu zt zv zx zb zl zg za zd zf zah zaf zp zn zaj zak ze zr zs zac zad zj zi zq zk po) (none, (c0 :: bk0 zag w_o_out zw zai zz zh zc zaa zab zae zo zm zu zt zv zx zb zl zg za zd zf zah zaf w_o_outLen zn zaj zak ze zr zs zac zad zj zi zq zk po), 0, 0)) : ∀ (n : Nat), ∀ {zy : List Int32} {zp v1 v2 v3 v4 v5 : Int32} {w_o_out : List Int32} {w_o_outLen : Int32}, f_packBlocks_79 k38 zc zg zaf ze n zy zp v1 v2 v3 v4 v5 = some (w_o_out, w_o_outLen) → OEnds own_P 22 79 [qr 1, qi v1, qi v2, qi v3, qi v4, qi v5] [] (c0 :: bk0 zag zy zw zai zz zh zc zaa zab zae zo zm zu zt zv zx zb zl zg za zd zf zah zaf zp zn zaj zak ze zr zs zac zad zj zi zq zk po) (none, (c0 :: bk0 zag w_o_out zw zai zz zh zc zaa zab zae zo zm zu zt zv zx zb zl zg za zd zf zah zaf w_o_outLen zn zaj zak ze zr zs zac zad zj zi zq zk po), 0, 0) := by
  intro n
  induction n with
  | zero => intro zy zp v1 v2 v3 v4 v5 w_o_out w_o_outLen h; cases h
  | succ n ih =>
    intro zy zp v1 v2 v3 v4 v5 w_o_out w_o_outLen h
    unfold f_packBlocks_79 at h
    refine OEnds.adv hm_22 2 (pc' := 83) (L' := [qr 1, qi v1, qi v2, qi v3, qi v4, qi v5]) (S' := [.int v4, .int v5]) (H' := (c0 :: bk0 zag zy zw zai zz zh zc zaa zab zae zo zm zu zt zv zx zb zl zg za zd zf zah zaf zp zn zaj zak ze zr zs zac zad zj zi zq zk po)) rfl ?_
    by_cases hc58 : v5 < v4
    · simp only [if_pos hc58] at h
      refine OEnds.icmpF hm_22 rfl ((tlt hc58).2.1) ?_
      refine OEnds.adv hm_22 4 (pc' := 92) (L' := [qr 1, qi v1, qi v2, qi v3, qi v4, qi v5]) (S' := [.int v2, .ref 8, .ref 1]) (H' := (c0 :: bk0 zag zy zw zai zz zh zc zaa zab zae zo zm zu zt zv zx zb zl zg za zd zf zah zaf zp zn zaj zak ze zr zs zac zad zj zi zq zk po)) rfl ?_
      obtain ⟨x58, hx58, h⟩ := bnd h
      refine OEnds.plain hm_22 rfl rfl (x_iaload rfl hx58) ?_
      show OEnds own_P 22 93 [qr 1, qi v1, qi v2, qi v3, qi v4, qi v5] [.int x58, .ref 1] (c0 :: bk0 zag zy zw zai zz zh zc zaa zab zae zo zm zu zt zv zx zb zl zg za zd zf zah zaf zp zn zaj zak ze zr zs zac zad zj zi zq zk po) _
      obtain ⟨⟨s59, s60⟩, hq59, h⟩ := bnd h
      refine OEnds.call0 hm_22 rfl rfl (by decide) rfl (as := [.ref 1, .int x58]) (rest := []) rfl rfl (ok_writeOut hq59) ?_
      refine OEnds.adv hm_22 3 (pc' := 79) (L' := [qr 1, qi v1, qi (v2 + (1 : Int32)), qi v3, qi v4, qi (v5 + (1 : Int32))]) (S' := []) (H' := (c0 :: bk0 zag s59 zw zai zz zh zc zaa zab zae zo zm zu zt zv zx zb zl zg za zd zf zah zaf s60 zn zaj zak ze zr zs zac zad zj zi zq zk po)) rfl ?_
      exact ih h
    · simp only [if_neg hc58] at h
      refine OEnds.icmpT hm_22 rfl (q := 105) rfl ((flt hc58).2.1) ?_
      refine OEnds.adv hm_22 2 (pc' := 38) (L' := [qr 1, qi v1, qi v2, qi (v3 + (1 : Int32)), qi v4, qi v5]) (S' := []) (H' := (c0 :: bk0 zag zy zw zai zz zh zc zaa zab zae zo zm zu zt zv zx zb zl zg za zd zf zah zaf zp zn zaj zak ze zr zs zac zad zj zi zq zk po)) rfl ?_
      exact hk38 h
theorem ok_packBlocks_70 {zag zw zai zz zh zc zaa zab zae zo zm zu zt : List Int32} {zv zx zb zl zg za zd zf zah zaf zn zaj zak ze zr zs zac zad zj zi zq zk : Int32} {c0 : ACell} {po : List ACell} {kb : List Int32 → Int32 → Int32 → Int32 → Int32 → Option (List Int32 × Int32)} {k111 : List Int32 → Int32 → Option (List Int32 × Int32)} (hkb : ∀ {zy : List Int32} {zp v1 v2 v3 : Int32} {d4 d5 : Slot} {w_o_out : List Int32} {w_o_outLen : Int32}, kb zy zp v1 v2 v3 = some (w_o_out, w_o_outLen) → OEnds own_P 22 38 [qr 1, qi v1, qi v2, qi v3, d4, d5] [] (c0 :: bk0 zag zy zw zai zz zh zc zaa zab zae zo zm zu zt zv zx zb zl zg za zd zf zah zaf zp zn zaj zak ze zr zs zac zad zj zi zq zk po) (none, (c0 :: bk0 zag w_o_out zw zai zz zh zc zaa zab zae zo zm zu zt zv zx zb zl zg za zd zf zah zaf w_o_outLen zn zaj zak ze zr zs zac zad zj zi zq zk po), 0, 0)) (hk111 : ∀ {zy : List Int32} {zp : Int32} {d1 d2 d3 d4 d5 : Slot} {w_o_out : List Int32} {w_o_outLen : Int32}, k111 zy zp = some (w_o_out, w_o_outLen) → OEnds own_P 22 111 [qr 1, d1, d2, d3, d4, d5] [] (c0 :: bk0 zag zy zw zai zz zh zc zaa zab zae zo zm zu zt zv zx zb zl zg za zd zf zah zaf zp zn zaj zak ze zr zs zac zad zj zi zq zk po) (none, (c0 :: bk0 zag w_o_out zw zai zz zh zc zaa zab zae zo zm zu zt zv zx zb zl zg za zd zf zah zaf w_o_outLen zn zaj zak ze zr zs zac zad zj zi zq zk po), 0, 0)) : ∀ {zy : List Int32} {zp v1 v2 v3 v4 : Int32} {d5 : Slot} {w_o_out : List Int32} {w_o_outLen : Int32}, f_packBlocks_70 kb k111 zc zg zaf ze zy zp v1 v2 v3 v4 = some (w_o_out, w_o_outLen) → OEnds own_P 22 70 [qr 1, qi v1, qi v2, qi v3, qi v4, d5] [] (c0 :: bk0 zag zy zw zai zz zh zc zaa zab zae zo zm zu zt zv zx zb zl zg za zd zf zah zaf zp zn zaj zak ze zr zs zac zad zj zi zq zk po) (none, (c0 :: bk0 zag w_o_out zw zai zz zh zc zaa zab zae zo zm zu zt zv zx zb zl zg za zd zf zah zaf w_o_outLen zn zaj zak ze zr zs zac zad zj zi zq zk po), 0, 0) := by
  intro zy zp v1 v2 v3 v4 d5 w_o_out w_o_outLen h
  unfold f_packBlocks_70 at h
  refine OEnds.adv hm_22 2 (pc' := 73) (L' := [qr 1, qi v1, qi v2, qi v3, qi v4, qu]) (S' := [.int v4, .ref 1]) (H' := (c0 :: bk0 zag zy zw zai zz zh zc zaa zab zae zo zm zu zt zv zx zb zl zg za zd zf zah zaf zp zn zaj zak ze zr zs zac zad zj zi zq zk po)) rfl ?_
  obtain ⟨⟨s56, s57⟩, hq60, h⟩ := bnd h
  refine OEnds.call0 hm_22 rfl rfl (by decide) rfl (as := [.ref 1, .int v4]) (rest := []) rfl rfl (ok_writeOut hq60) ?_
  refine OEnds.adv hm_22 2 (pc' := 79) (L' := [qr 1, qi v1, qi v2, qi v3, qi v4, qi 0]) (S' := []) (H' := (c0 :: bk0 zag s56 zw zai zz zh zc zaa zab zae zo zm zu zt zv zx zb zl zg za zd zf zah zaf s57 zn zaj zak ze zr zs zac zad zj zi zq zk po)) rfl ?_
  exact ok_packBlocks_79 (k38 := kb) hkb 100000 h
theorem ok_packBlocks_38 {zag zw zai zz zh zc zaa zab zae zo zm zu zt : List Int32} {zv zx zb zl zg za zd zf zah zaf zn zaj zak ze zr zs zac zad zj zi zq zk : Int32} {c0 : ACell} {po : List ACell} {k111 : List Int32 → Int32 → Option (List Int32 × Int32)} (hk111 : ∀ {zy : List Int32} {zp : Int32} {d1 d2 d3 d4 d5 : Slot} {w_o_out : List Int32} {w_o_outLen : Int32}, k111 zy zp = some (w_o_out, w_o_outLen) → OEnds own_P 22 111 [qr 1, d1, d2, d3, d4, d5] [] (c0 :: bk0 zag zy zw zai zz zh zc zaa zab zae zo zm zu zt zv zx zb zl zg za zd zf zah zaf zp zn zaj zak ze zr zs zac zad zj zi zq zk po) (none, (c0 :: bk0 zag w_o_out zw zai zz zh zc zaa zab zae zo zm zu zt zv zx zb zl zg za zd zf zah zaf w_o_outLen zn zaj zak ze zr zs zac zad zj zi zq zk po), 0, 0)) : ∀ (n : Nat), ∀ {zy : List Int32} {zp v1 v2 v3 : Int32} {d4 d5 : Slot} {w_o_out : List Int32} {w_o_outLen : Int32}, f_packBlocks_38 k111 zc zg zaf ze n zy zp v1 v2 v3 = some (w_o_out, w_o_outLen) → OEnds own_P 22 38 [qr 1, qi v1, qi v2, qi v3, d4, d5] [] (c0 :: bk0 zag zy zw zai zz zh zc zaa zab zae zo zm zu zt zv zx zb zl zg za zd zf zah zaf zp zn zaj zak ze zr zs zac zad zj zi zq zk po) (none, (c0 :: bk0 zag w_o_out zw zai zz zh zc zaa zab zae zo zm zu zt zv zx zb zl zg za zd zf zah zaf w_o_outLen zn zaj zak ze zr zs zac zad zj zi zq zk po), 0, 0) := by
  intro n
  induction n with
  | zero => intro zy zp v1 v2 v3 d4 d5 w_o_out w_o_outLen h; cases h
  | succ n ih =>
    intro zy zp v1 v2 v3 d4 d5 w_o_out w_o_outLen h
    unfold f_packBlocks_38 at h
    refine OEnds.adv hm_22 2 (pc' := 42) (L' := [qr 1, qi v1, qi v2, qi v3, qu, qu]) (S' := [.int 512, .int v3]) (H' := (c0 :: bk0 zag zy zw zai zz zh zc zaa zab zae zo zm zu zt zv zx zb zl zg za zd zf zah zaf zp zn zaj zak ze zr zs zac zad zj zi zq zk po)) rfl ?_
    by_cases hc61 : v3 < (512 : Int32)
    · simp only [if_pos hc61] at h
      refine OEnds.icmpF hm_22 rfl ((tlt hc61).2.1) ?_
      refine OEnds.adv hm_22 2 (pc' := 47) (L' := [qr 1, qi v1, qi v2, qi v3, qu, qu]) (S' := [.int v1, .int v2]) (H' := (c0 :: bk0 zag zy zw zai zz zh zc zaa zab zae zo zm zu zt zv zx zb zl zg za zd zf zah zaf zp zn zaj zak ze zr zs zac zad zj zi zq zk po)) rfl ?_
      by_cases hc62 : v2 < v1
      · simp only [if_pos hc62] at h
        refine OEnds.icmpF hm_22 rfl ((tlt hc62).2.1) ?_
        refine OEnds.adv hm_22 7 (pc' := 61) (L' := [qr 1, qi v1, qi v2, qi v3, qi (v1 - v2), qu]) (S' := [.int zaf, .int (v1 - v2)]) (H' := (c0 :: bk0 zag zy zw zai zz zh zc zaa zab zae zo zm zu zt zv zx zb zl zg za zd zf zah zaf zp zn zaj zak ze zr zs zac zad zj zi zq zk po)) rfl ?_
        by_cases hc63 : zaf < (v1 - v2)
        · simp only [if_pos hc63] at h
          refine OEnds.icmpF hm_22 rfl ((tlt hc63).2.2.2) ?_
          refine OEnds.adv hm_22 3 (pc' := 70) (L' := [qr 1, qi v1, qi v2, qi v3, qi zaf, qu]) (S' := []) (H' := (c0 :: bk0 zag zy zw zai zz zh zc zaa zab zae zo zm zu zt zv zx zb zl zg za zd zf zah zaf zp zn zaj zak ze zr zs zac zad zj zi zq zk po)) rfl ?_
          exact ok_packBlocks_70 ih hk111 h
        · simp only [if_neg hc63] at h
          refine OEnds.icmpT hm_22 rfl (q := 70) rfl ((flt hc63).2.2.2) ?_
          show OEnds own_P 22 70 [qr 1, qi v1, qi v2, qi v3, qi (v1 - v2), qu] [] (c0 :: bk0 zag zy zw zai zz zh zc zaa zab zae zo zm zu zt zv zx zb zl zg za zd zf zah zaf zp zn zaj zak ze zr zs zac zad zj zi zq zk po) _
          exact ok_packBlocks_70 ih hk111 h
      · simp only [if_neg hc62] at h
        refine OEnds.icmpT hm_22 rfl (q := 111) rfl ((flt hc62).2.1) ?_
        show OEnds own_P 22 111 [qr 1, qi v1, qi v2, qi v3, qu, qu] [] (c0 :: bk0 zag zy zw zai zz zh zc zaa zab zae zo zm zu zt zv zx zb zl zg za zd zf zah zaf zp zn zaj zak ze zr zs zac zad zj zi zq zk po) _
        exact hk111 h
    · simp only [if_neg hc61] at h
      refine OEnds.icmpT hm_22 rfl (q := 111) rfl ((flt hc61).2.1) ?_
      show OEnds own_P 22 111 [qr 1, qi v1, qi v2, qi v3, qu, qu] [] (c0 :: bk0 zag zy zw zai zz zh zc zaa zab zae zo zm zu zt zv zx zb zl zg za zd zf zah zaf zp zn zaj zak ze zr zs zac zad zj zi zq zk po) _
      exact hk111 h
theorem ok_packBlocks_21 {zag zw zai zz zh zc zaa zab zae zo zm zu zt : List Int32} {zv zx zb zl zg za zd zf zah zaf zn zaj zak ze zr zs zac zad zj zi zq zk : Int32} {c0 : ACell} {po : List ACell} : ∀ {zy : List Int32} {zp v1 : Int32} {d2 d3 d4 d5 : Slot} {w_o_out : List Int32} {w_o_outLen : Int32}, f_packBlocks_21 zc zg zaf ze zy zp v1 = some (w_o_out, w_o_outLen) → OEnds own_P 22 21 [qr 1, qi v1, d2, d3, d4, d5] [] (c0 :: bk0 zag zy zw zai zz zh zc zaa zab zae zo zm zu zt zv zx zb zl zg za zd zf zah zaf zp zn zaj zak ze zr zs zac zad zj zi zq zk po) (none, (c0 :: bk0 zag w_o_out zw zai zz zh zc zaa zab zae zo zm zu zt zv zx zb zl zg za zd zf zah zaf w_o_outLen zn zaj zak ze zr zs zac zad zj zi zq zk po), 0, 0) := by
  intro zy zp v1 d2 d3 d4 d5 w_o_out w_o_outLen h
  unfold f_packBlocks_21 at h
  refine OEnds.adv hm_22 6 (pc' := 31) (L' := [qr 1, qi v1, qu, qu, qu, qu]) (S' := [.int zg, .ref 1]) (H' := (c0 :: bk0 zag zy zw zai zz zh zc zaa zab zae zo zm zu zt zv zx zb zl zg za zd zf zah zaf 0 zn zaj zak ze zr zs zac zad zj zi zq zk po)) rfl ?_
  obtain ⟨⟨s54, s55⟩, hq64, h⟩ := bnd h
  refine OEnds.call0 hm_22 rfl rfl (by decide) rfl (as := [.ref 1, .int zg]) (rest := []) rfl rfl (ok_writeOut hq64) ?_
  refine OEnds.adv hm_22 4 (pc' := 38) (L' := [qr 1, qi v1, qi 0, qi 0, qu, qu]) (S' := []) (H' := (c0 :: bk0 zag s54 zw zai zz zh zc zaa zab zae zo zm zu zt zv zx zb zl zg za zd zf zah zaf s55 zn zaj zak ze zr zs zac zad zj zi zq zk po)) rfl ?_
  exact ok_packBlocks_38 (k111 := f_packBlocks_111 zc zg zaf ze) ok_packBlocks_111 100000 h
theorem ok_packBlocks {zag zw zai zz zh zc zaa zab zae zo zm zu zt : List Int32} {zv zx zb zl zg za zd zf zah zaf zn zaj zak ze zr zs zac zad zj zi zq zk : Int32} {c0 : ACell} {po : List ACell} {zy : List Int32} {zp : Int32} {w_o_out : List Int32} {w_o_outLen : Int32} (h : f_packBlocks zc zg zaf ze zy zp = some (w_o_out, w_o_outLen)) : OEnds own_P 22 0 [qr 1, qu, qu, qu, qu, qu] [] (c0 :: bk0 zag zy zw zai zz zh zc zaa zab zae zo zm zu zt zv zx zb zl zg za zd zf zah zaf zp zn zaj zak ze zr zs zac zad zj zi zq zk po) (none, (c0 :: bk0 zag w_o_out zw zai zz zh zc zaa zab zae zo zm zu zt zv zx zb zl zg za zd zf zah zaf w_o_outLen zn zaj zak ze zr zs zac zad zj zi zq zk po), 0, 0) := by
  unfold f_packBlocks at h
  refine OEnds.adv hm_22 9 (pc' := 14) (L' := [qr 1, qi ((ze + (7 : Int32)) >>> ((3 : Int32) &&& 31)), qu, qu, qu, qu]) (S' := [.int 512, .int ((ze + (7 : Int32)) >>> ((3 : Int32) &&& 31))]) (H' := (c0 :: bk0 zag zy zw zai zz zh zc zaa zab zae zo zm zu zt zv zx zb zl zg za zd zf zah zaf zp zn zaj zak ze zr zs zac zad zj zi zq zk po)) rfl ?_
  by_cases hc65 : (512 : Int32) < ((ze + (7 : Int32)) >>> ((3 : Int32) &&& 31))
  · simp only [if_pos hc65] at h
    refine OEnds.icmpF hm_22 rfl ((tlt hc65).2.2.2) ?_
    refine OEnds.adv hm_22 2 (pc' := 21) (L' := [qr 1, qi 512, qu, qu, qu, qu]) (S' := []) (H' := (c0 :: bk0 zag zy zw zai zz zh zc zaa zab zae zo zm zu zt zv zx zb zl zg za zd zf zah zaf zp zn zaj zak ze zr zs zac zad zj zi zq zk po)) rfl ?_
    exact ok_packBlocks_21 h
  · simp only [if_neg hc65] at h
    refine OEnds.icmpT hm_22 rfl (q := 21) rfl ((flt hc65).2.2.2) ?_
    show OEnds own_P 22 21 [qr 1, qi ((ze + (7 : Int32)) >>> ((3 : Int32) &&& 31)), qu, qu, qu, qu] [] (c0 :: bk0 zag zy zw zai zz zh zc zaa zab zae zo zm zu zt zv zx zb zl zg za zd zf zah zaf zp zn zaj zak ze zr zs zac zad zj zi zq zk po) _
    exact ok_packBlocks_21 h
theorem ok_encode_49 {zag zw zai zo zm zu zt : List Int32} {zv zx zb zl zg za zd zf zah zaf zn zaj zak zac zad zj zi zq zk : Int32} {c0 : ACell} {po : List ACell} : ∀ {zy zz zh zc zaa zab zae : List Int32} {zp ze zr zs : Int32} {d1 d2 : Slot} {res : Int32} {w_o_out w_o_rowOrder w_o_streamBuf w_o_data w_o_firstChild w_o_nextSibling w_o_childPixel : List Int32} {w_o_outLen w_o_bitPos w_o_encWidth : Int32} {w_o_encNext : Int32}, f_encode_49 zag zv zx zb zg za zd zf zah zaf zy zz zh zc zaa zab zae zp ze zr zs = some (res, w_o_out, w_o_rowOrder, w_o_streamBuf, w_o_data, w_o_firstChild, w_o_nextSibling, w_o_childPixel, w_o_outLen, w_o_bitPos, w_o_encWidth, w_o_encNext) → OEnds own_P 14 49 [qr 1, d1, d2] [] (c0 :: bk0 zag zy zw zai zz zh zc zaa zab zae zo zm zu zt zv zx zb zl zg za zd zf zah zaf zp zn zaj zak ze zr zs zac zad zj zi zq zk po) (some (.int res), (c0 :: bk0 zag w_o_out zw zai w_o_rowOrder w_o_streamBuf w_o_data w_o_firstChild w_o_nextSibling w_o_childPixel zo zm zu zt zv zx zb zl zg za zd zf zah zaf w_o_outLen zn zaj zak w_o_bitPos w_o_encWidth w_o_encNext zac zad zj zi zq zk po), 0, 0) := by
  intro zy zz zh zc zaa zab zae zp ze zr zs d1 d2 res w_o_out w_o_rowOrder w_o_streamBuf w_o_data w_o_firstChild w_o_nextSibling w_o_childPixel w_o_outLen w_o_bitPos w_o_encWidth w_o_encNext h
  unfold f_encode_49 at h
  refine OEnds.adv hm_14 1 (pc' := 50) (L' := [qr 1, qu, qu]) (S' := [.ref 1]) (H' := (c0 :: bk0 zag zy zw zai zz zh zc zaa zab zae zo zm zu zt zv zx zb zl zg za zd zf zah zaf zp zn zaj zak ze zr zs zac zad zj zi zq zk po)) rfl ?_
  obtain ⟨⟨s67, s68, s69, s70, s71, s72, s73⟩, hq66, h⟩ := bnd h
  refine OEnds.call0 hm_14 rfl rfl (by decide) rfl (as := [.ref 1]) (rest := []) rfl rfl (ok_compress hq66) ?_
  refine OEnds.adv hm_14 1 (pc' := 54) (L' := [qr 1, qu, qu]) (S' := [.ref 1]) (H' := (c0 :: bk0 zag zy zw zai zz zh s67 s68 s69 s70 zo zm zu zt zv zx zb zl zg za zd zf zah zaf zp zn zaj zak s71 s72 s73 zac zad zj zi zq zk po)) rfl ?_
  obtain ⟨⟨s74, s75⟩, hq67, h⟩ := bnd h
  refine OEnds.call0 hm_14 rfl rfl (by decide) rfl (as := [.ref 1]) (rest := []) rfl rfl (ok_packBlocks hq67) ?_
  refine OEnds.adv hm_14 2 (pc' := 61) (L' := [qr 1, qu, qu]) (S' := [.int s75]) (H' := (c0 :: bk0 zag s74 zw zai zz zh s67 s68 s69 s70 zo zm zu zt zv zx zb zl zg za zd zf zah zaf s75 zn zaj zak s71 s72 s73 zac zad zj zi zq zk po)) rfl ?_
  cases h
  exact OEnds.iret hm_14 rfl rfl
theorem ok_encode_6 {zag zw zai zo zm zu zt : List Int32} {zv zx zb zl zg za zd zf zah zaf zn zaj zak zac zad zj zi zq zk : Int32} {c0 : ACell} {po : List ACell} {k49 : List Int32 → List Int32 → List Int32 → List Int32 → List Int32 → List Int32 → List Int32 → Int32 → Int32 → Int32 → Int32 → Option (Int32 × List Int32 × List Int32 × List Int32 × List Int32 × List Int32 × List Int32 × List Int32 × Int32 × Int32 × Int32 × Int32)} (hk49 : ∀ {zy zz zh zc zaa zab zae : List Int32} {zp ze zr zs : Int32} {d1 d2 : Slot} {res : Int32} {w_o_out w_o_rowOrder w_o_streamBuf w_o_data w_o_firstChild w_o_nextSibling w_o_childPixel : List Int32} {w_o_outLen w_o_bitPos w_o_encWidth : Int32} {w_o_encNext : Int32}, k49 zy zz zh zc zaa zab zae zp ze zr zs = some (res, w_o_out, w_o_rowOrder, w_o_streamBuf, w_o_data, w_o_firstChild, w_o_nextSibling, w_o_childPixel, w_o_outLen, w_o_bitPos, w_o_encWidth, w_o_encNext) → OEnds own_P 14 49 [qr 1, d1, d2] [] (c0 :: bk0 zag zy zw zai zz zh zc zaa zab zae zo zm zu zt zv zx zb zl zg za zd zf zah zaf zp zn zaj zak ze zr zs zac zad zj zi zq zk po) (some (.int res), (c0 :: bk0 zag w_o_out zw zai w_o_rowOrder w_o_streamBuf w_o_data w_o_firstChild w_o_nextSibling w_o_childPixel zo zm zu zt zv zx zb zl zg za zd zf zah zaf w_o_outLen zn zaj zak w_o_bitPos w_o_encWidth w_o_encNext zac zad zj zi zq zk po), 0, 0)) : ∀ (n : Nat), ∀ {zy zz zh zc zaa zab zae : List Int32} {zp ze zr zs v1 : Int32} {d2 : Slot} {res : Int32} {w_o_out w_o_rowOrder w_o_streamBuf w_o_data w_o_firstChild w_o_nextSibling w_o_childPixel : List Int32} {w_o_outLen w_o_bitPos w_o_encWidth : Int32} {w_o_encNext : Int32}, f_encode_6 k49 zag zv zx zb zg za zd zf zah zaf n zy zz zh zc zaa zab zae zp ze zr zs v1 = some (res, w_o_out, w_o_rowOrder, w_o_streamBuf, w_o_data, w_o_firstChild, w_o_nextSibling, w_o_childPixel, w_o_outLen, w_o_bitPos, w_o_encWidth, w_o_encNext) → OEnds own_P 14 6 [qr 1, qi v1, d2] [] (c0 :: bk0 zag zy zw zai zz zh zc zaa zab zae zo zm zu zt zv zx zb zl zg za zd zf zah zaf zp zn zaj zak ze zr zs zac zad zj zi zq zk po) (some (.int res), (c0 :: bk0 zag w_o_out zw zai w_o_rowOrder w_o_streamBuf w_o_data w_o_firstChild w_o_nextSibling w_o_childPixel zo zm zu zt zv zx zb zl zg za zd zf zah zaf w_o_outLen zn zaj zak w_o_bitPos w_o_encWidth w_o_encNext zac zad zj zi zq zk po), 0, 0) := by
  intro n
  induction n with
  | zero => intro zy zz zh zc zaa zab zae zp ze zr zs v1 d2 res w_o_out w_o_rowOrder w_o_streamBuf w_o_data w_o_firstChild w_o_nextSibling w_o_childPixel w_o_outLen w_o_bitPos w_o_encWidth w_o_encNext h; cases h
  | succ n ih =>
    intro zy zz zh zc zaa zab zae zp ze zr zs v1 d2 res w_o_out w_o_rowOrder w_o_streamBuf w_o_data w_o_firstChild w_o_nextSibling w_o_childPixel w_o_outLen w_o_bitPos w_o_encWidth w_o_encNext h
    unfold f_encode_6 at h
    refine OEnds.adv hm_14 3 (pc' := 11) (L' := [qr 1, qi v1, qu]) (S' := [.int zb, .int v1]) (H' := (c0 :: bk0 zag zy zw zai zz zh zc zaa zab zae zo zm zu zt zv zx zb zl zg za zd zf zah zaf zp zn zaj zak ze zr zs zac zad zj zi zq zk po)) rfl ?_
    by_cases hc68 : v1 < zb
    · simp only [if_pos hc68] at h
      refine OEnds.icmpF hm_14 rfl ((tlt hc68).2.1) ?_
      refine OEnds.adv hm_14 2 (pc' := 16) (L' := [qr 1, qi v1, qu]) (S' := [.int v1, .ref 1]) (H' := (c0 :: bk0 zag zy zw zai zz zh zc zaa zab zae zo zm zu zt zv zx zb zl zg za zd zf zah zaf zp zn zaj zak ze zr zs zac zad zj zi zq zk po)) rfl ?_
      obtain ⟨r64, hq69, h⟩ := bnd h
      refine OEnds.call0 hm_14 rfl rfl (by decide) rfl (as := [.ref 1, .int v1]) (rest := []) rfl rfl (ok_rasterOf hq69) ?_
      refine OEnds.adv hm_14 2 (pc' := 21) (L' := [qr 1, qi v1, qi r64]) (S' := [.int r64]) (H' := (c0 :: bk0 zag zy zw zai zz zh zc zaa zab zae zo zm zu zt zv zx zb zl zg za zd zf zah zaf zp zn zaj zak ze zr zs zac zad zj zi zq zk po)) rfl ?_
      by_cases hc70 : r64 < (0 : Int32)
      · simp only [if_pos hc70] at h
        refine OEnds.ifT hm_14 rfl (q := 43) rfl ((tlt hc70).1) ?_
        refine OEnds.adv hm_14 2 (pc' := 6) (L' := [qr 1, qi (v1 + (1 : Int32)), qi r64]) (S' := []) (H' := (c0 :: bk0 zag zy zw zai zz zh zc zaa zab zae zo zm zu zt zv zx zb zl zg za zd zf zah zaf zp zn zaj zak ze zr zs zac zad zj zi zq zk po)) rfl ?_
        exact ih h
      · simp only [if_neg hc70] at h
        refine OEnds.ifF hm_14 rfl ((flt hc70).1) ?_
        refine OEnds.adv hm_14 2 (pc' := 28) (L' := [qr 1, qi v1, qi r64]) (S' := [.int 256, .int r64]) (H' := (c0 :: bk0 zag zy zw zai zz zh zc zaa zab zae zo zm zu zt zv zx zb zl zg za zd zf zah zaf zp zn zaj zak ze zr zs zac zad zj zi zq zk po)) rfl ?_
        by_cases hc71 : r64 < (256 : Int32)
        · simp only [if_pos hc71] at h
          refine OEnds.icmpF hm_14 rfl ((tlt hc71).2.1) ?_
          refine OEnds.adv hm_14 6 (pc' := 41) (L' := [qr 1, qi v1, qi r64]) (S' := [.int r64, .ref 2, .int v1, .ref 7]) (H' := (c0 :: bk0 zag zy zw zai zz zh zc zaa zab zae zo zm zu zt zv zx zb zl zg za zd zf zah zaf zp zn zaj zak ze zr zs zac zad zj zi zq zk po)) rfl ?_
          obtain ⟨x65, hx65, h⟩ := bnd h
          refine OEnds.plain hm_14 rfl rfl (x_iaload rfl hx65) ?_
          show OEnds own_P 14 42 [qr 1, qi v1, qi r64] [.int x65, .int v1, .ref 7] (c0 :: bk0 zag zy zw zai zz zh zc zaa zab zae zo zm zu zt zv zx zb zl zg za zd zf zah zaf zp zn zaj zak ze zr zs zac zad zj zi zq zk po) _
          obtain ⟨A66, hA66, h⟩ := bnd h
          refine OEnds.plain hm_14 rfl rfl (x_iastore rfl (Nat.le_of_ble_eq_true rfl) hA66) ?_
          refine OEnds.adv hm_14 2 (pc' := 6) (L' := [qr 1, qi (v1 + (1 : Int32)), qi r64]) (S' := []) (H' := (c0 :: bk0 zag zy zw zai zz A66 zc zaa zab zae zo zm zu zt zv zx zb zl zg za zd zf zah zaf zp zn zaj zak ze zr zs zac zad zj zi zq zk po)) rfl ?_
          exact ih h
        · simp only [if_neg hc71] at h
          refine OEnds.icmpT hm_14 rfl (q := 43) rfl ((flt hc71).2.1) ?_
          refine OEnds.adv hm_14 2 (pc' := 6) (L' := [qr 1, qi (v1 + (1 : Int32)), qi r64]) (S' := []) (H' := (c0 :: bk0 zag zy zw zai zz zh zc zaa zab zae zo zm zu zt zv zx zb zl zg za zd zf zah zaf zp zn zaj zak ze zr zs zac zad zj zi zq zk po)) rfl ?_
          exact ih h
    · simp only [if_neg hc68] at h
      refine OEnds.icmpT hm_14 rfl (q := 49) rfl ((flt hc68).2.1) ?_
      show OEnds own_P 14 49 [qr 1, qi v1, qu] [] (c0 :: bk0 zag zy zw zai zz zh zc zaa zab zae zo zm zu zt zv zx zb zl zg za zd zf zah zaf zp zn zaj zak ze zr zs zac zad zj zi zq zk po) _
      exact hk49 h
theorem ok_encode {zag zw zai zo zm zu zt : List Int32} {zv zx zb zl zg za zd zf zah zaf zn zaj zak zac zad zj zi zq zk : Int32} {c0 : ACell} {po : List ACell} {zy zz zh zc zaa zab zae : List Int32} {zp ze zr zs res : Int32} {w_o_out w_o_rowOrder w_o_streamBuf w_o_data w_o_firstChild w_o_nextSibling w_o_childPixel : List Int32} {w_o_outLen w_o_bitPos w_o_encWidth w_o_encNext : Int32} (h : f_encode zag zv zx zb zg za zd zf zah zaf zy zz zh zc zaa zab zae zp ze zr zs = some (res, w_o_out, w_o_rowOrder, w_o_streamBuf, w_o_data, w_o_firstChild, w_o_nextSibling, w_o_childPixel, w_o_outLen, w_o_bitPos, w_o_encWidth, w_o_encNext)) : OEnds own_P 14 0 [qr 1, qu, qu] [] (c0 :: bk0 zag zy zw zai zz zh zc zaa zab zae zo zm zu zt zv zx zb zl zg za zd zf zah zaf zp zn zaj zak ze zr zs zac zad zj zi zq zk po) (some (.int res), (c0 :: bk0 zag w_o_out zw zai w_o_rowOrder w_o_streamBuf w_o_data w_o_firstChild w_o_nextSibling w_o_childPixel zo zm zu zt zv zx zb zl zg za zd zf zah zaf w_o_outLen zn zaj zak w_o_bitPos w_o_encWidth w_o_encNext zac zad zj zi zq zk po), 0, 0) := by
  unfold f_encode at h
  refine OEnds.adv hm_14 1 (pc' := 1) (L' := [qr 1, qu, qu]) (S' := [.ref 1]) (H' := (c0 :: bk0 zag zy zw zai zz zh zc zaa zab zae zo zm zu zt zv zx zb zl zg za zd zf zah zaf zp zn zaj zak ze zr zs zac zad zj zi zq zk po)) rfl ?_
  obtain ⟨s63, hq72, h⟩ := bnd h
  refine OEnds.call0 hm_14 rfl rfl (by decide) rfl (as := [.ref 1]) (rest := []) rfl rfl (ok_buildRowOrder hq72) ?_
  refine OEnds.adv hm_14 2 (pc' := 6) (L' := [qr 1, qi 0, qu]) (S' := []) (H' := (c0 :: bk0 zag zy zw zai s63 zh zc zaa zab zae zo zm zu zt zv zx zb zl zg za zd zf zah zaf zp zn zaj zak ze zr zs zac zad zj zi zq zk po)) rfl ?_
  exact ok_encode_6 (k49 := f_encode_49 zag zv zx zb zg za zd zf zah zaf) ok_encode_49 100000 h
theorem ok_getOutByte {zag zy zw zai zz zh zc zaa zab zae zo zm zu zt : List Int32} {zv zx zb zl zg za zd zf zah zaf zp zn zaj zak ze zr zs zac zad zj zi zq zk : Int32} {c0 : ACell} {po : List ACell} {v1 res : Int32} (h : f_getOutByte zy zp v1 = some res) : OEnds own_P 9 0 [qr 1, qi v1] [] (c0 :: bk0 zag zy zw zai zz zh zc zaa zab zae zo zm zu zt zv zx zb zl zg za zd zf zah zaf zp zn zaj zak ze zr zs zac zad zj zi zq zk po) (some (.int res), (c0 :: bk0 zag zy zw zai zz zh zc zaa zab zae zo zm zu zt zv zx zb zl zg za zd zf zah zaf zp zn zaj zak ze zr zs zac zad zj zi zq zk po), 0, 0) := by
  unfold f_getOutByte at h
  refine OEnds.adv hm_9 1 (pc' := 1) (L' := [qr 1, qi v1]) (S' := [.int v1]) (H' := (c0 :: bk0 zag zy zw zai zz zh zc zaa zab zae zo zm zu zt zv zx zb zl zg za zd zf zah zaf zp zn zaj zak ze zr zs zac zad zj zi zq zk po)) rfl ?_
  by_cases hc73 : v1 < (0 : Int32)
  · simp only [if_pos hc73] at h
    refine OEnds.ifT hm_9 rfl (q := 12) rfl ((tlt hc73).1) ?_
    refine OEnds.adv hm_9 1 (pc' := 13) (L' := [qr 1, qi v1]) (S' := [.int (-1)]) (H' := (c0 :: bk0 zag zy zw zai zz zh zc zaa zab zae zo zm zu zt zv zx zb zl zg za zd zf zah zaf zp zn zaj zak ze zr zs zac zad zj zi zq zk po)) rfl ?_
    cases h
    exact OEnds.iret hm_9 rfl rfl
  · simp only [if_neg hc73] at h
    refine OEnds.ifF hm_9 rfl ((flt hc73).1) ?_
    refine OEnds.adv hm_9 3 (pc' := 9) (L' := [qr 1, qi v1]) (S' := [.int zp, .int v1]) (H' := (c0 :: bk0 zag zy zw zai zz zh zc zaa zab zae zo zm zu zt zv zx zb zl zg za zd zf zah zaf zp zn zaj zak ze zr zs zac zad zj zi zq zk po)) rfl ?_
    by_cases hc74 : v1 < zp
    · simp only [if_pos hc74] at h
      refine OEnds.icmpT hm_9 rfl (q := 14) rfl ((tlt hc74).1) ?_
      refine OEnds.adv hm_9 3 (pc' := 19) (L' := [qr 1, qi v1]) (S' := [.int v1, .ref 3]) (H' := (c0 :: bk0 zag zy zw zai zz zh zc zaa zab zae zo zm zu zt zv zx zb zl zg za zd zf zah zaf zp zn zaj zak ze zr zs zac zad zj zi zq zk po)) rfl ?_
      obtain ⟨x76, hx76, h⟩ := bnd h
      refine OEnds.plain hm_9 rfl rfl (x_iaload rfl hx76) ?_
      show OEnds own_P 9 20 [qr 1, qi v1] [.int x76] (c0 :: bk0 zag zy zw zai zz zh zc zaa zab zae zo zm zu zt zv zx zb zl zg za zd zf zah zaf zp zn zaj zak ze zr zs zac zad zj zi zq zk po) _
      cases h
      exact OEnds.iret hm_9 rfl rfl
    · simp only [if_neg hc74] at h
      refine OEnds.icmpF hm_9 rfl ((flt hc74).1) ?_
      refine OEnds.adv hm_9 1 (pc' := 13) (L' := [qr 1, qi v1]) (S' := [.int (-1)]) (H' := (c0 :: bk0 zag zy zw zai zz zh zc zaa zab zae zo zm zu zt zv zx zb zl zg za zd zf zah zaf zp zn zaj zak ze zr zs zac zad zj zi zq zk po)) rfl ?_
      cases h
      exact OEnds.iret hm_9 rfl rfl
theorem ok_clearInput {zag zy zw zai zz zh zc zaa zab zae zo zm zu zt : List Int32} {zv zx zb zl zg za zd zf zah zaf zp zaj zak ze zr zs zac zad zj zi zq zk : Int32} {c0 : ACell} {po : List ACell} {zn w_o_inLen : Int32} (h : f_clearInput zn = some w_o_inLen) : OEnds own_P 29 0 [qr 1] [] (c0 :: bk0 zag zy zw zai zz zh zc zaa zab zae zo zm zu zt zv zx zb zl zg za zd zf zah zaf zp zn zaj zak ze zr zs zac zad zj zi zq zk po) (none, (c0 :: bk0 zag zy zw zai zz zh zc zaa zab zae zo zm zu zt zv zx zb zl zg za zd zf zah zaf zp w_o_inLen zaj zak ze zr zs zac zad zj zi zq zk po), 0, 0) := by
  unfold f_clearInput at h
  refine OEnds.adv hm_29 3 (pc' := 5) (L' := [qr 1]) (S' := []) (H' := (c0 :: bk0 zag zy zw zai zz zh zc zaa zab zae zo zm zu zt zv zx zb zl zg za zd zf zah zaf zp 0 zaj zak ze zr zs zac zad zj zi zq zk po)) rfl ?_
  cases h
  exact OEnds.vret hm_29 rfl rfl
theorem ok_loadInFromOut_40 {zag zy zai zz zh zc zaa zab zae zo zm zu zt : List Int32} {zv zx zb zl zg za zd zf zah zaf zp zaj zak ze zr zs zac zad zj zi zq zk : Int32} {c0 : ACell} {po : List ACell} : ∀ {zw : List Int32} {zn v1 : Int32} {d2 : Slot} {res : Int32} {w_o_in : List Int32} {w_o_inLen : Int32}, f_loadInFromOut_40 zy zp zw zn v1 = some (res, w_o_in, w_o_inLen) → OEnds own_P 13 40 [qr 1, qi v1, d2] [] (c0 :: bk0 zag zy zw zai zz zh zc zaa zab zae zo zm zu zt zv zx zb zl zg za zd zf zah zaf zp zn zaj zak ze zr zs zac zad zj zi zq zk po) (some (.int res), (c0 :: bk0 zag zy w_o_in zai zz zh zc zaa zab zae zo zm zu zt zv zx zb zl zg za zd zf zah zaf zp w_o_inLen zaj zak ze zr zs zac zad zj zi zq zk po), 0, 0) := by
  intro zw zn v1 d2 res w_o_in w_o_inLen h
  unfold f_loadInFromOut_40 at h
  refine OEnds.adv hm_13 5 (pc' := 49) (L' := [qr 1, qi v1, qu]) (S' := [.int v1]) (H' := (c0 :: bk0 zag zy zw zai zz zh zc zaa zab zae zo zm zu zt zv zx zb zl zg za zd zf zah zaf zp v1 zaj zak ze zr zs zac zad zj zi zq zk po)) rfl ?_
  cases h
  exact OEnds.iret hm_13 rfl rfl
theorem ok_loadInFromOut_4 {zag zy zai zz zh zc zaa zab zae zo zm zu zt : List Int32} {zv zx zb zl zg za zd zf zah zaf zp zaj zak ze zr zs zac zad zj zi zq zk : Int32} {c0 : ACell} {po : List ACell} {k40 : List Int32 → Int32 → Int32 → Option (Int32 × List Int32 × Int32)} (hk40 : ∀ {zw : List Int32} {zn v1 : Int32} {d2 : Slot} {res : Int32} {w_o_in : List Int32} {w_o_inLen : Int32}, k40 zw zn v1 = some (res, w_o_in, w_o_inLen) → OEnds own_P 13 40 [qr 1, qi v1, d2] [] (c0 :: bk0 zag zy zw zai zz zh zc zaa zab zae zo zm zu zt zv zx zb zl zg za zd zf zah zaf zp zn zaj zak ze zr zs zac zad zj zi zq zk po) (some (.int res), (c0 :: bk0 zag zy w_o_in zai zz zh zc zaa zab zae zo zm zu zt zv zx zb zl zg za zd zf zah zaf zp w_o_inLen zaj zak ze zr zs zac zad zj zi zq zk po), 0, 0)) : ∀ (n : Nat), ∀ {zw : List Int32} {zn v1 v2 res : Int32} {w_o_in : List Int32} {w_o_inLen : Int32}, f_loadInFromOut_4 k40 zy zp n zw zn v1 v2 = some (res, w_o_in, w_o_inLen) → OEnds own_P 13 4 [qr 1, qi v1, qi v2] [] (c0 :: bk0 zag zy zw zai zz zh zc zaa zab zae zo zm zu zt zv zx zb zl zg za zd zf zah zaf zp zn zaj zak ze zr zs zac zad zj zi zq zk po) (some (.int res), (c0 :: bk0 zag zy w_o_in zai zz zh zc zaa zab zae zo zm zu zt zv zx zb zl zg za zd zf zah zaf zp w_o_inLen zaj zak ze zr zs zac zad zj zi zq zk po), 0, 0) := by
  intro n
  induction n with
  | zero => intro zw zn v1 v2 res w_o_in w_o_inLen h; cases h
  | succ n ih =>
    intro zw zn v1 v2 res w_o_in w_o_inLen h
    unfold f_loadInFromOut_4 at h
    refine OEnds.adv hm_13 3 (pc' := 9) (L' := [qr 1, qi v1, qi v2]) (S' := [.int zp, .int v2]) (H' := (c0 :: bk0 zag zy zw zai zz zh zc zaa zab zae zo zm zu zt zv zx zb zl zg za zd zf zah zaf zp zn zaj zak ze zr zs zac zad zj zi zq zk po)) rfl ?_
    by_cases hc75 : v2 < zp
    · simp only [if_pos hc75] at h
      refine OEnds.icmpF hm_13 rfl ((tlt hc75).2.1) ?_
      refine OEnds.adv hm_13 2 (pc' := 16) (L' := [qr 1, qi v1, qi v2]) (S' := [.int 512, .int v2]) (H' := (c0 :: bk0 zag zy zw zai zz zh zc zaa zab zae zo zm zu zt zv zx zb zl zg za zd zf zah zaf zp zn zaj zak ze zr zs zac zad zj zi zq zk po)) rfl ?_
      by_cases hc76 : v2 < (512 : Int32)
      · simp only [if_pos hc76] at h
        refine OEnds.icmpF hm_13 rfl ((tlt hc76).2.1) ?_
        refine OEnds.adv hm_13 6 (pc' := 29) (L' := [qr 1, qi v1, qi v2]) (S' := [.int v2, .ref 3, .int v2, .ref 4]) (H' := (c0 :: bk0 zag zy zw zai zz zh zc zaa zab zae zo zm zu zt zv zx zb zl zg za zd zf zah zaf zp zn zaj zak ze zr zs zac zad zj zi zq zk po)) rfl ?_
        obtain ⟨x79, hx79, h⟩ := bnd h
        refine OEnds.plain hm_13 rfl rfl (x_iaload rfl hx79) ?_
        show OEnds own_P 13 30 [qr 1, qi v1, qi v2] [.int x79, .int v2, .ref 4] (c0 :: bk0 zag zy zw zai zz zh zc zaa zab zae zo zm zu zt zv zx zb zl zg za zd zf zah zaf zp zn zaj zak ze zr zs zac zad zj zi zq zk po) _
        obtain ⟨A80, hA80, h⟩ := bnd h
        refine OEnds.plain hm_13 rfl rfl (x_iastore rfl (Nat.le_of_ble_eq_true rfl) hA80) ?_
        refine OEnds.adv hm_13 3 (pc' := 4) (L' := [qr 1, qi (v1 + (1 : Int32)), qi (v2 + (1 : Int32))]) (S' := []) (H' := (c0 :: bk0 zag zy A80 zai zz zh zc zaa zab zae zo zm zu zt zv zx zb zl zg za zd zf zah zaf zp zn zaj zak ze zr zs zac zad zj zi zq zk po)) rfl ?_
        exact ih h
      · simp only [if_neg hc76] at h
        refine OEnds.icmpT hm_13 rfl (q := 40) rfl ((flt hc76).2.1) ?_
        show OEnds own_P 13 40 [qr 1, qi v1, qi v2] [] (c0 :: bk0 zag zy zw zai zz zh zc zaa zab zae zo zm zu zt zv zx zb zl zg za zd zf zah zaf zp zn zaj zak ze zr zs zac zad zj zi zq zk po) _
        exact hk40 h
    · simp only [if_neg hc75] at h
      refine OEnds.icmpT hm_13 rfl (q := 40) rfl ((flt hc75).2.1) ?_
      show OEnds own_P 13 40 [qr 1, qi v1, qi v2] [] (c0 :: bk0 zag zy zw zai zz zh zc zaa zab zae zo zm zu zt zv zx zb zl zg za zd zf zah zaf zp zn zaj zak ze zr zs zac zad zj zi zq zk po) _
      exact hk40 h
theorem ok_loadInFromOut {zag zy zai zz zh zc zaa zab zae zo zm zu zt : List Int32} {zv zx zb zl zg za zd zf zah zaf zp zaj zak ze zr zs zac zad zj zi zq zk : Int32} {c0 : ACell} {po : List ACell} {zw : List Int32} {zn res : Int32} {w_o_in : List Int32} {w_o_inLen : Int32} (h : f_loadInFromOut zy zp zw zn = some (res, w_o_in, w_o_inLen)) : OEnds own_P 13 0 [qr 1, qu, qu] [] (c0 :: bk0 zag zy zw zai zz zh zc zaa zab zae zo zm zu zt zv zx zb zl zg za zd zf zah zaf zp zn zaj zak ze zr zs zac zad zj zi zq zk po) (some (.int res), (c0 :: bk0 zag zy w_o_in zai zz zh zc zaa zab zae zo zm zu zt zv zx zb zl zg za zd zf zah zaf zp w_o_inLen zaj zak ze zr zs zac zad zj zi zq zk po), 0, 0) := by
  unfold f_loadInFromOut at h
  refine OEnds.adv hm_13 4 (pc' := 4) (L' := [qr 1, qi 0, qi 0]) (S' := []) (H' := (c0 :: bk0 zag zy zw zai zz zh zc zaa zab zae zo zm zu zt zv zx zb zl zg za zd zf zah zaf zp zn zaj zak ze zr zs zac zad zj zi zq zk po)) rfl ?_
  exact ok_loadInFromOut_4 (k40 := f_loadInFromOut_40 zy zp) ok_loadInFromOut_40 100000 h
theorem ok_gatherBlocks_117 {zag zy zw zai zz zh zaa zab zae zo zm zu zt : List Int32} {zv zx zb zl zg za zd zf zah zaf zp zn zaj zak ze zr zs zad zj zi zq zk : Int32} {c0 : ACell} {po : List ACell} {kb : List Int32 → Int32 → Int32 → Int32 → Option (Int32 × List Int32 × Int32)} (hkb : ∀ {zc : List Int32} {zac v1 v2 : Int32} {d3 d4 : Slot} {res : Int32} {w_o_data : List Int32} {w_o_dataLen : Int32}, kb zc zac v1 v2 = some (res, w_o_data, w_o_dataLen) → OEnds own_P 31 9 [qr 1, qi v1, qi v2, d3, d4] [] (c0 :: bk0 zag zy zw zai zz zh zc zaa zab zae zo zm zu zt zv zx zb zl zg za zd zf zah zaf zp zn zaj zak ze zr zs zac zad zj zi zq zk po) (some (.int res), (c0 :: bk0 zag zy zw zai zz zh w_o_data zaa zab zae zo zm zu zt zv zx zb zl zg za zd zf zah zaf zp zn zaj zak ze zr zs w_o_dataLen zad zj zi zq zk po), 0, 0)) : ∀ {zc : List Int32} {zac v1 v2 v3 : Int32} {d4 : Slot} {res : Int32} {w_o_data : List Int32} {w_o_dataLen : Int32}, f_gatherBlocks_117 kb zw zn zc zac v1 v2 v3 = some (res, w_o_data, w_o_dataLen) → OEnds own_P 31 117 [qr 1, qi v1, qi v2, qi v3, d4] [] (c0 :: bk0 zag zy zw zai zz zh zc zaa zab zae zo zm zu zt zv zx zb zl zg za zd zf zah zaf zp zn zaj zak ze zr zs zac zad zj zi zq zk po) (some (.int res), (c0 :: bk0 zag zy zw zai zz zh w_o_data zaa zab zae zo zm zu zt zv zx zb zl zg za zd zf zah zaf zp zn zaj zak ze zr zs w_o_dataLen zad zj zi zq zk po), 0, 0) := by
  intro zc zac v1 v2 v3 d4 res w_o_data w_o_dataLen h
  unfold f_gatherBlocks_117 at h
  refine OEnds.adv hm_31 6 (pc' := 9) (L' := [qr 1, qi (v1 + v3), qi (v2 + (1 : Int32)), qi v3, qu]) (S' := []) (H' := (c0 :: bk0 zag zy zw zai zz zh zc zaa zab zae zo zm zu zt zv zx zb zl zg za zd zf zah zaf zp zn zaj zak ze zr zs zac zad zj zi zq zk po)) rfl ?_
  exact hkb h
theorem ok_gatherBlocks_57 {zag zy zw zai zz zh zaa zab zae zo zm zu zt : List Int32} {zv zx zb zl zg za zd zf zah zaf zp zn zaj zak ze zr zs zad zj zi zq zk : Int32} {c0 : ACell} {po : List ACell} {k117 : List Int32 → Int32 → Int32 → Int32 → Int32 → Option (Int32 × List Int32 × Int32)} (hk117 : ∀ {zc : List Int32} {zac v1 v2 v3 : Int32} {d4 : Slot} {res : Int32} {w_o_data : List Int32} {w_o_dataLen : Int32}, k117 zc zac v1 v2 v3 = some (res, w_o_data, w_o_dataLen) → OEnds own_P 31 117 [qr 1, qi v1, qi v2, qi v3, d4] [] (c0 :: bk0 zag zy zw zai zz zh zc zaa zab zae zo zm zu zt zv zx zb zl zg za zd zf zah zaf zp zn zaj zak ze zr zs zac zad zj zi zq zk po) (some (.int res), (c0 :: bk0 zag zy zw zai zz zh w_o_data zaa zab zae zo zm zu zt zv zx zb zl zg za zd zf zah zaf zp zn zaj zak ze zr zs w_o_dataLen zad zj zi zq zk po), 0, 0)) : ∀ (n : Nat), ∀ {zc : List Int32} {zac v1 v2 v3 v4 res : Int32} {w_o_data : List Int32} {w_o_dataLen : Int32}, f_gatherBlocks_57 k117 zw zn n zc zac v1 v2 v3 v4 = some (res, w_o_data, w_o_dataLen) → OEnds own_P 31 57 [qr 1, qi v1, qi v2, qi v3, qi v4] [] (c0 :: bk0 zag zy zw zai zz zh zc zaa zab zae zo zm zu zt zv zx zb zl zg za zd zf zah zaf zp zn zaj zak ze zr zs zac zad zj zi zq zk po) (some (.int res), (c0 :: bk0 zag zy zw zai zz zh w_o_data zaa zab zae zo zm zu zt zv zx zb zl zg za zd zf zah zaf zp zn zaj zak ze zr zs w_o_dataLen zad zj zi zq zk po), 0, 0) := by
  intro n
  induction n with
  | zero => intro zc zac v1 v2 v3 v4 res w_o_data w_o_dataLen h; cases h
  | succ n ih =>
    intro zc zac v1 v2 v3 v4 res w_o_data w_o_dataLen h
    unfold f_gatherBlocks_57 at h
    refine OEnds.adv hm_31 2 (pc' := 60) (L' := [qr 1, qi v1, qi v2, qi v3, qi v4]) (S' := [.int v3, .int v4]) (H' := (c0 :: bk0 zag zy zw zai zz zh zc zaa zab zae zo zm zu zt zv zx zb zl zg za zd zf zah zaf zp zn zaj zak ze zr zs zac zad zj zi zq zk po)) rfl ?_
    by_cases hc77 : v4 < v3
    · simp only [if_pos hc77] at h
      refine OEnds.icmpF hm_31 rfl ((tlt hc77).2.1) ?_
      refine OEnds.adv hm_31 3 (pc' := 70) (L' := [qr 1, qi v1, qi v2, qi v3, qi v4]) (S' := [.int 512, .int zac]) (H' := (c0 :: bk0 zag zy zw zai zz zh zc zaa zab zae zo zm zu zt zv zx zb zl zg za zd zf zah zaf zp zn zaj zak ze zr zs zac zad zj zi zq zk po)) rfl ?_
      by_cases hc78 : zac < (512 : Int32)
      · simp only [if_pos hc78] at h
        refine OEnds.icmpF hm_31 rfl ((tlt hc78).2.1) ?_
        refine OEnds.adv hm_31 4 (pc' := 80) (L' := [qr 1, qi v1, qi v2, qi v3, qi v4]) (S' := [.int 512, .int (v1 + v4)]) (H' := (c0 :: bk0 zag zy zw zai zz zh zc zaa zab zae zo zm zu zt zv zx zb zl zg za zd zf zah zaf zp zn zaj zak ze zr zs zac zad zj zi zq zk po)) rfl ?_
        by_cases hc79 : (v1 + v4) < (512 : Int32)
        · simp only [if_pos hc79] at h
          refine OEnds.icmpF hm_31 rfl ((tlt hc79).2.1) ?_
          refine OEnds.adv hm_31 9 (pc' := 99) (L' := [qr 1, qi v1, qi v2, qi v3, qi v4]) (S' := [.int (v1 + v4), .ref 4, .int zac, .ref 8]) (H' := (c0 :: bk0 zag zy zw zai zz zh zc zaa zab zae zo zm zu zt zv zx zb zl zg za zd zf zah zaf zp zn zaj zak ze zr zs zac zad zj zi zq zk po)) rfl ?_
          obtain ⟨x82, hx82, h⟩ := bnd h
          refine OEnds.plain hm_31 rfl rfl (x_iaload rfl hx82) ?_
          show OEnds own_P 31 100 [qr 1, qi v1, qi v2, qi v3, qi v4] [.int x82, .int zac, .ref 8] (c0 :: bk0 zag zy zw zai zz zh zc zaa zab zae zo zm zu zt zv zx zb zl zg za zd zf zah zaf zp zn zaj zak ze zr zs zac zad zj zi zq zk po) _
          obtain ⟨A83, hA83, h⟩ := bnd h
          refine OEnds.plain hm_31 rfl rfl (x_iastore rfl (Nat.le_of_ble_eq_true rfl) hA83) ?_
          refine OEnds.adv hm_31 8 (pc' := 57) (L' := [qr 1, qi v1, qi v2, qi v3, qi (v4 + (1 : Int32))]) (S' := []) (H' := (c0 :: bk0 zag zy zw zai zz zh A83 zaa zab zae zo zm zu zt zv zx zb zl zg za zd zf zah zaf zp zn zaj zak ze zr zs (zac + (1 : Int32)) zad zj zi zq zk po)) rfl ?_
          exact ih h
        · simp only [if_neg hc79] at h
          refine OEnds.icmpT hm_31 rfl (q := 111) rfl ((flt hc79).2.1) ?_
          refine OEnds.adv hm_31 2 (pc' := 57) (L' := [qr 1, qi v1, qi v2, qi v3, qi (v4 + (1 : Int32))]) (S' := []) (H' := (c0 :: bk0 zag zy zw zai zz zh zc zaa zab zae zo zm zu zt zv zx zb zl zg za zd zf zah zaf zp zn zaj zak ze zr zs zac zad zj zi zq zk po)) rfl ?_
          exact ih h
      · simp only [if_neg hc78] at h
        refine OEnds.icmpT hm_31 rfl (q := 111) rfl ((flt hc78).2.1) ?_
        refine OEnds.adv hm_31 2 (pc' := 57) (L' := [qr 1, qi v1, qi v2, qi v3, qi (v4 + (1 : Int32))]) (S' := []) (H' := (c0 :: bk0 zag zy zw zai zz zh zc zaa zab zae zo zm zu zt zv zx zb zl zg za zd zf zah zaf zp zn zaj zak ze zr zs zac zad zj zi zq zk po)) rfl ?_
        exact ih h
    · simp only [if_neg hc77] at h
      refine OEnds.icmpT hm_31 rfl (q := 117) rfl ((flt hc77).2.1) ?_
      show OEnds own_P 31 117 [qr 1, qi v1, qi v2, qi v3, qi v4] [] (c0 :: bk0 zag zy zw zai zz zh zc zaa zab zae zo zm zu zt zv zx zb zl zg za zd zf zah zaf zp zn zaj zak ze zr zs zac zad zj zi zq zk po) _
      exact hk117 h
theorem ok_gatherBlocks_9 {zag zy zw zai zz zh zaa zab zae zo zm zu zt : List Int32} {zv zx zb zl zg za zd zf zah zaf zp zn zaj zak ze zr zs zad zj zi zq zk : Int32} {c0 : ACell} {po : List ACell} : ∀ (n : Nat), ∀ {zc : List Int32} {zac v1 v2 : Int32} {d3 d4 : Slot} {res : Int32} {w_o_data : List Int32} {w_o_dataLen : Int32}, f_gatherBlocks_9 zw zn n zc zac v1 v2 = some (res, w_o_data, w_o_dataLen) → OEnds own_P 31 9 [qr 1, qi v1, qi v2, d3, d4] [] (c0 :: bk0 zag zy zw zai zz zh zc zaa zab zae zo zm zu zt zv zx zb zl zg za zd zf zah zaf zp zn zaj zak ze zr zs zac zad zj zi zq zk po) (some (.int res), (c0 :: bk0 zag zy zw zai zz zh w_o_data zaa zab zae zo zm zu zt zv zx zb zl zg za zd zf zah zaf zp zn zaj zak ze zr zs w_o_dataLen zad zj zi zq zk po), 0, 0) := by
  intro n
  induction n with
  | zero => intro zc zac v1 v2 d3 d4 res w_o_data w_o_dataLen h; cases h
  | succ n ih =>
    intro zc zac v1 v2 d3 d4 res w_o_data w_o_dataLen h
    unfold f_gatherBlocks_9 at h
    refine OEnds.adv hm_31 2 (pc' := 13) (L' := [qr 1, qi v1, qi v2, qu, qu]) (S' := [.int 512, .int v2]) (H' := (c0 :: bk0 zag zy zw zai zz zh zc zaa zab zae zo zm zu zt zv zx zb zl zg za zd zf zah zaf zp zn zaj zak ze zr zs zac zad zj zi zq zk po)) rfl ?_
    by_cases hc80 : (512 : Int32) < v2
    · simp only [if_pos hc80] at h
      refine OEnds.icmpT hm_31 rfl (q := 127) rfl ((tlt hc80).2.2.1) ?_
      refine OEnds.adv hm_31 1 (pc' := 128) (L' := [qr 1, qi v1, qi v2, qu, qu]) (S' := [.int 0]) (H' := (c0 :: bk0 zag zy zw zai zz zh zc zaa zab zae zo zm zu zt zv zx zb zl zg za zd zf zah zaf zp zn zaj zak ze zr zs zac zad zj zi zq zk po)) rfl ?_
      cases h
      exact OEnds.iret hm_31 rfl rfl
    · simp only [if_neg hc80] at h
      refine OEnds.icmpF hm_31 rfl ((flt hc80).2.2.1) ?_
      refine OEnds.adv hm_31 3 (pc' := 21) (L' := [qr 1, qi v1, qi v2, qu, qu]) (S' := [.int zn, .int v1]) (H' := (c0 :: bk0 zag zy zw zai zz zh zc zaa zab zae zo zm zu zt zv zx zb zl zg za zd zf zah zaf zp zn zaj zak ze zr zs zac zad zj zi zq zk po)) rfl ?_
      by_cases hc81 : v1 < zn
      · simp only [if_pos hc81] at h
        refine OEnds.icmpT hm_31 rfl (q := 26) rfl ((tlt hc81).1) ?_
        refine OEnds.adv hm_31 3 (pc' := 31) (L' := [qr 1, qi v1, qi v2, qu, qu]) (S' := [.int v1, .ref 4]) (H' := (c0 :: bk0 zag zy zw zai zz zh zc zaa zab zae zo zm zu zt zv zx zb zl zg za zd zf zah zaf zp zn zaj zak ze zr zs zac zad zj zi zq zk po)) rfl ?_
        obtain ⟨x81, hx81, h⟩ := bnd h
        refine OEnds.plain hm_31 rfl rfl (x_iaload rfl hx81) ?_
        refine OEnds.adv hm_31 3 (pc' := 37) (L' := [qr 1, qi (v1 + (1 : Int32)), qi v2, qi x81, qu]) (S' := [.int x81]) (H' := (c0 :: bk0 zag zy zw zai zz zh zc zaa zab zae zo zm zu zt zv zx zb zl zg za zd zf zah zaf zp zn zaj zak ze zr zs zac zad zj zi zq zk po)) rfl ?_
        by_cases hc82 : x81 = (0 : Int32)
        · simp only [if_pos hc82] at h
          refine OEnds.ifF hm_31 rfl ((teq hc82).2) ?_
          refine OEnds.adv hm_31 1 (pc' := 41) (L' := [qr 1, qi (v1 + (1 : Int32)), qi v2, qi x81, qu]) (S' := [.int 1]) (H' := (c0 :: bk0 zag zy zw zai zz zh zc zaa zab zae zo zm zu zt zv zx zb zl zg za zd zf zah zaf zp zn zaj zak ze zr zs zac zad zj zi zq zk po)) rfl ?_
          cases h
          exact OEnds.iret hm_31 rfl rfl
        · simp only [if_neg hc82] at h
          refine OEnds.ifT hm_31 rfl (q := 42) rfl ((feq hc82).2) ?_
          refine OEnds.adv hm_31 5 (pc' := 49) (L' := [qr 1, qi (v1 + (1 : Int32)), qi v2, qi x81, qu]) (S' := [.int (zn - (v1 + (1 : Int32))), .int x81]) (H' := (c0 :: bk0 zag zy zw zai zz zh zc zaa zab zae zo zm zu zt zv zx zb zl zg za zd zf zah zaf zp zn zaj zak ze zr zs zac zad zj zi zq zk po)) rfl ?_
          by_cases hc83 : (zn - (v1 + (1 : Int32))) < x81
          · simp only [if_pos hc83] at h
            refine OEnds.icmpF hm_31 rfl ((tlt hc83).2.2.2) ?_
            refine OEnds.adv hm_31 1 (pc' := 53) (L' := [qr 1, qi (v1 + (1 : Int32)), qi v2, qi x81, qu]) (S' := [.int 0]) (H' := (c0 :: bk0 zag zy zw zai zz zh zc zaa zab zae zo zm zu zt zv zx zb zl zg za zd zf zah zaf zp zn zaj zak ze zr zs zac zad zj zi zq zk po)) rfl ?_
            cases h
            exact OEnds.iret hm_31 rfl rfl
          · simp only [if_neg hc83] at h
            refine OEnds.icmpT hm_31 rfl (q := 54) rfl ((flt hc83).2.2.2) ?_
            refine OEnds.adv hm_31 2 (pc' := 57) (L' := [qr 1, qi (v1 + (1 : Int32)), qi v2, qi x81, qi 0]) (S' := []) (H' := (c0 :: bk0 zag zy zw zai zz zh zc zaa zab zae zo zm zu zt zv zx zb zl zg za zd zf zah zaf zp zn zaj zak ze zr zs zac zad zj zi zq zk po)) rfl ?_
            exact ok_gatherBlocks_57 (k117 := f_gatherBlocks_117 (f_gatherBlocks_9 zw zn n) zw zn) (ok_gatherBlocks_117 ih) 100000 h
      · simp only [if_neg hc81] at h
        refine OEnds.icmpF hm_31 rfl ((flt hc81).1) ?_
        refine OEnds.adv hm_31 1 (pc' := 25) (L' := [qr 1, qi v1, qi v2, qu, qu]) (S' := [.int 0]) (H' := (c0 :: bk0 zag zy zw zai zz zh zc zaa zab zae zo zm zu zt zv zx zb zl zg za zd zf zah zaf zp zn zaj zak ze zr zs zac zad zj zi zq zk po)) rfl ?_
        cases h
        exact OEnds.iret hm_31 rfl rfl
theorem ok_gatherBlocks {zag zy zw zai zz zh zaa zab zae zo zm zu zt : List Int32} {zv zx zb zl zg za zd zf zah zaf zp zn zaj zak ze zr zs zad zj zi zq zk : Int32} {c0 : ACell} {po : List ACell} {zc : List Int32} {zac res : Int32} {w_o_data : List Int32} {w_o_dataLen : Int32} (h : f_gatherBlocks zw zn zc zac = some (res, w_o_data, w_o_dataLen)) : OEnds own_P 31 0 [qr 1, qu, qu, qu, qu] [] (c0 :: bk0 zag zy zw zai zz zh zc zaa zab zae zo zm zu zt zv zx zb zl zg za zd zf zah zaf zp zn zaj zak ze zr zs zac zad zj zi zq zk po) (some (.int res), (c0 :: bk0 zag zy zw zai zz zh w_o_data zaa zab zae zo zm zu zt zv zx zb zl zg za zd zf zah zaf zp zn zaj zak ze zr zs w_o_dataLen zad zj zi zq zk po), 0, 0) := by
  unfold f_gatherBlocks at h
  refine OEnds.adv hm_31 7 (pc' := 9) (L' := [qr 1, qi 1, qi 0, qu, qu]) (S' := []) (H' := (c0 :: bk0 zag zy zw zai zz zh zc zaa zab zae zo zm zu zt zv zx zb zl zg za zd zf zah zaf zp zn zaj zak ze zr zs 0 zad zj zi zq zk po)) rfl ?_
  exact ok_gatherBlocks_9 100000 h
theorem ok_readCode_51 {zag zy zw zai zz zh zc zaa zab zae zo zm zu zt : List Int32} {zv zx zb zl zg za zd zf zah zaf zp zn zaj zak ze zr zs zac zj zi zq zk : Int32} {c0 : ACell} {po : List ACell} {kb : Int32 → Int32 → Int32 → Option (Int32 × Int32)} (hkb : ∀ {zad v1 v2 : Int32} {d3 d4 : Slot} {res : Int32} {w_o_readPos : Int32}, kb zad v1 v2 = some (res, w_o_readPos) → OEnds own_P 33 4 [qr 1, qi v1, qi v2, d3, d4] [] (c0 :: bk0 zag zy zw zai zz zh zc zaa zab zae zo zm zu zt zv zx zb zl zg za zd zf zah zaf zp zn zaj zak ze zr zs zac zad zj zi zq zk po) (some (.int res), (c0 :: bk0 zag zy zw zai zz zh zc zaa zab zae zo zm zu zt zv zx zb zl zg za zd zf zah zaf zp zn zaj zak ze zr zs zac w_o_readPos zj zi zq zk po), 0, 0)) : ∀ {zad v1 v2 v4 : Int32} {d3 : Slot} {res : Int32} {w_o_readPos : Int32}, f_readCode_51 kb zc zj zad v1 v2 v4 = some (res, w_o_readPos) → OEnds own_P 33 51 [qr 1, qi v1, qi v2, d3, qi v4] [] (c0 :: bk0 zag zy zw zai zz zh zc zaa zab zae zo zm zu zt zv zx zb zl zg za zd zf zah zaf zp zn zaj zak ze zr zs zac zad zj zi zq zk po) (some (.int res), (c0 :: bk0 zag zy zw zai zz zh zc zaa zab zae zo zm zu zt zv zx zb zl zg za zd zf zah zaf zp zn zaj zak ze zr zs zac w_o_readPos zj zi zq zk po), 0, 0) := by
  intro zad v1 v2 v4 d3 res w_o_readPos h
  unfold f_readCode_51 at h
  refine OEnds.adv hm_33 14 (pc' := 4) (L' := [qr 1, qi (v1 ||| (v4 <<< (v2 &&& 31))), qi (v2 + (1 : Int32)), qu, qi v4]) (S' := []) (H' := (c0 :: bk0 zag zy zw zai zz zh zc zaa zab zae zo zm zu zt zv zx zb zl zg za zd zf zah zaf zp zn zaj zak ze zr zs zac (zad + (1 : Int32)) zj zi zq zk po)) rfl ?_
  exact hkb h
theorem ok_readCode_4 {zag zy zw zai zz zh zc zaa zab zae zo zm zu zt : List Int32} {zv zx zb zl zg za zd zf zah zaf zp zn zaj zak ze zr zs zac zj zi zq zk : Int32} {c0 : ACell} {po : List ACell} : ∀ (n : Nat), ∀ {zad v1 v2 : Int32} {d3 d4 : Slot} {res : Int32} {w_o_readPos : Int32}, f_readCode_4 zc zj n zad v1 v2 = some (res, w_o_readPos) → OEnds own_P 33 4 [qr 1, qi v1, qi v2, d3, d4] [] (c0 :: bk0 zag zy zw zai zz zh zc zaa zab zae zo zm zu zt zv zx zb zl zg za zd zf zah zaf zp zn zaj zak ze zr zs zac zad zj zi zq zk po) (some (.int res), (c0 :: bk0 zag zy zw zai zz zh zc zaa zab zae zo zm zu zt zv zx zb zl zg za zd zf zah zaf zp zn zaj zak ze zr zs zac w_o_readPos zj zi zq zk po), 0, 0) := by
  intro n
  induction n with
  | zero => intro zad v1 v2 d3 d4 res w_o_readPos h; cases h
  | succ n ih =>
    intro zad v1 v2 d3 d4 res w_o_readPos h
    unfold f_readCode_4 at h
    refine OEnds.adv hm_33 3 (pc' := 9) (L' := [qr 1, qi v1, qi v2, qu, qu]) (S' := [.int zj, .int v2]) (H' := (c0 :: bk0 zag zy zw zai zz zh zc zaa zab zae zo zm zu zt zv zx zb zl zg za zd zf zah zaf zp zn zaj zak ze zr zs zac zad zj zi zq zk po)) rfl ?_
    by_cases hc84 : v2 < zj
    · simp only [if_pos hc84] at h
      refine OEnds.icmpF hm_33 rfl ((tlt hc84).2.1) ?_
      refine OEnds.adv hm_33 8 (pc' := 23) (L' := [qr 1, qi v1, qi v2, qi (zad >>> ((3 : Int32) &&& 31)), qi 0]) (S' := [.int (zad >>> ((3 : Int32) &&& 31))]) (H' := (c0 :: bk0 zag zy zw zai zz zh zc zaa zab zae zo zm zu zt zv zx zb zl zg za zd zf zah zaf zp zn zaj zak ze zr zs zac zad zj zi zq zk po)) rfl ?_
      by_cases hc85 : (zad >>> ((3 : Int32) &&& 31)) < (0 : Int32)
      · simp only [if_pos hc85] at h
        refine OEnds.ifT hm_33 rfl (q := 51) rfl ((tlt hc85).1) ?_
        show OEnds own_P 33 51 [qr 1, qi v1, qi v2, qi (zad >>> ((3 : Int32) &&& 31)), qi 0] [] (c0 :: bk0 zag zy zw zai zz zh zc zaa zab zae zo zm zu zt zv zx zb zl zg za zd zf zah zaf zp zn zaj zak ze zr zs zac zad zj zi zq zk po) _
        exact ok_readCode_51 ih h
      · simp only [if_neg hc85] at h
        refine OEnds.ifF hm_33 rfl ((flt hc85).1) ?_
        refine OEnds.adv hm_33 2 (pc' := 30) (L' := [qr 1, qi v1, qi v2, qi (zad >>> ((3 : Int32) &&& 31)), qi 0]) (S' := [.int 512, .int (zad >>> ((3 : Int32) &&& 31))]) (H' := (c0 :: bk0 zag zy zw zai zz zh zc zaa zab zae zo zm zu zt zv zx zb zl zg za zd zf zah zaf zp zn zaj zak ze zr zs zac zad zj zi zq zk po)) rfl ?_
        by_cases hc86 : (zad >>> ((3 : Int32) &&& 31)) < (512 : Int32)
        · simp only [if_pos hc86] at h
          refine OEnds.icmpF hm_33 rfl ((tlt hc86).2.1) ?_
          refine OEnds.adv hm_33 3 (pc' := 38) (L' := [qr 1, qi v1, qi v2, qi (zad >>> ((3 : Int32) &&& 31)), qi 0]) (S' := [.int (zad >>> ((3 : Int32) &&& 31)), .ref 8]) (H' := (c0 :: bk0 zag zy zw zai zz zh zc zaa zab zae zo zm zu zt zv zx zb zl zg za zd zf zah zaf zp zn zaj zak ze zr zs zac zad zj zi zq zk po)) rfl ?_
          obtain ⟨x84, hx84, h⟩ := bnd h
          refine OEnds.plain hm_33 rfl rfl (x_iaload rfl hx84) ?_
          refine OEnds.adv hm_33 8 (pc' := 51) (L' := [qr 1, qi v1, qi v2, qi (zad >>> ((3 : Int32) &&& 31)), qi ((x84 >>> ((zad &&& (7 : Int32)) &&& 31)) &&& (1 : Int32))]) (S' := []) (H' := (c0 :: bk0 zag zy zw zai zz zh zc zaa zab zae zo zm zu zt zv zx zb zl zg za zd zf zah zaf zp zn zaj zak ze zr zs zac zad zj zi zq zk po)) rfl ?_
          exact ok_readCode_51 ih h
        · simp only [if_neg hc86] at h
          refine OEnds.icmpT hm_33 rfl (q := 51) rfl ((flt hc86).2.1) ?_
          show OEnds own_P 33 51 [qr 1, qi v1, qi v2, qi (zad >>> ((3 : Int32) &&& 31)), qi 0] [] (c0 :: bk0 zag zy zw zai zz zh zc zaa zab zae zo zm zu zt zv zx zb zl zg za zd zf zah zaf zp zn zaj zak ze zr zs zac zad zj zi zq zk po) _
          exact ok_readCode_51 ih h
    · simp only [if_neg hc84] at h
      refine OEnds.icmpT hm_33 rfl (q := 74) rfl ((flt hc84).2.1) ?_
      refine OEnds.adv hm_33 1 (pc' := 75) (L' := [qr 1, qi v1, qi v2, qu, qu]) (S' := [.int v1]) (H' := (c0 :: bk0 zag zy zw zai zz zh zc zaa zab zae zo zm zu zt zv zx zb zl zg za zd zf zah zaf zp zn zaj zak ze zr zs zac zad zj zi zq zk po)) rfl ?_
      cases h
      exact OEnds.iret hm_33 rfl rfl
theorem ok_readCode {zag zy zw zai zz zh zc zaa zab zae zo zm zu zt : List Int32} {zv zx zb zl zg za zd zf zah zaf zp zn zaj zak ze zr zs zac zj zi zq zk : Int32} {c0 : ACell} {po : List ACell} {zad res w_o_readPos : Int32} (h : f_readCode zc zj zad = some (res, w_o_readPos)) : OEnds own_P 33 0 [qr 1, qu, qu, qu, qu] [] (c0 :: bk0 zag zy zw zai zz zh zc zaa zab zae zo zm zu zt zv zx zb zl zg za zd zf zah zaf zp zn zaj zak ze zr zs zac zad zj zi zq zk po) (some (.int res), (c0 :: bk0 zag zy zw zai zz zh zc zaa zab zae zo zm zu zt zv zx zb zl zg za zd zf zah zaf zp zn zaj zak ze zr zs zac w_o_readPos zj zi zq zk po), 0, 0) := by
  unfold f_readCode at h
  refine OEnds.adv hm_33 4 (pc' := 4) (L' := [qr 1, qi 0, qi 0, qu, qu]) (S' := []) (H' := (c0 :: bk0 zag zy zw zai zz zh zc zaa zab zae zo zm zu zt zv zx zb zl zg za zd zf zah zaf zp zn zaj zak ze zr zs zac zad zj zi zq zk po)) rfl ?_
  exact ok_readCode_4 100000 h
theorem ok_lengthOf {zag zy zw zai zz zh zc zaa zab zae zo zm zu zt : List Int32} {zv zx zb zl zg za zd zf zah zaf zp zn zaj zak ze zr zs zac zad zj zi zq zk : Int32} {c0 : ACell} {po : List ACell} {v1 res : Int32} (h : f_lengthOf zt za v1 = some res) : OEnds own_P 35 0 [qr 1, qi v1] [] (c0 :: bk0 zag zy zw zai zz zh zc zaa zab zae zo zm zu zt zv zx zb zl zg za zd zf zah zaf zp zn zaj zak ze zr zs zac zad zj zi zq zk po) (some (.int res), (c0 :: bk0 zag zy zw zai zz zh zc zaa zab zae zo zm zu zt zv zx zb zl zg za zd zf zah zaf zp zn zaj zak ze zr zs zac zad zj zi zq zk po), 0, 0) := by
  unfold f_lengthOf at h
  refine OEnds.adv hm_35 3 (pc' := 5) (L' := [qr 1, qi v1]) (S' := [.int za, .int v1]) (H' := (c0 :: bk0 zag zy zw zai zz zh zc zaa zab zae zo zm zu zt zv zx zb zl zg za zd zf zah zaf zp zn zaj zak ze zr zs zac zad zj zi zq zk po)) rfl ?_
  by_cases hc87 : v1 < za
  · simp only [if_pos hc87] at h
    refine OEnds.icmpF hm_35 rfl ((tlt hc87).2.1) ?_
    refine OEnds.adv hm_35 1 (pc' := 9) (L' := [qr 1, qi v1]) (S' := [.int 1]) (H' := (c0 :: bk0 zag zy zw zai zz zh zc zaa zab zae zo zm zu zt zv zx zb zl zg za zd zf zah zaf zp zn zaj zak ze zr zs zac zad zj zi zq zk po)) rfl ?_
    cases h
    exact OEnds.iret hm_35 rfl rfl
  · simp only [if_neg hc87] at h
    refine OEnds.icmpT hm_35 rfl (q := 10) rfl ((flt hc87).2.1) ?_
    refine OEnds.adv hm_35 2 (pc' := 14) (L' := [qr 1, qi v1]) (S' := [.int 512, .int v1]) (H' := (c0 :: bk0 zag zy zw zai zz zh zc zaa zab zae zo zm zu zt zv zx zb zl zg za zd zf zah zaf zp zn zaj zak ze zr zs zac zad zj zi zq zk po)) rfl ?_
    by_cases hc88 : v1 < (512 : Int32)
    · simp only [if_pos hc88] at h
      refine OEnds.icmpT hm_35 rfl (q := 19) rfl ((tlt hc88).1) ?_
      refine OEnds.adv hm_35 3 (pc' := 24) (L' := [qr 1, qi v1]) (S' := [.int v1, .ref 15]) (H' := (c0 :: bk0 zag zy zw zai zz zh zc zaa zab zae zo zm zu zt zv zx zb zl zg za zd zf zah zaf zp zn zaj zak ze zr zs zac zad zj zi zq zk po)) rfl ?_
      obtain ⟨x85, hx85, h⟩ := bnd h
      refine OEnds.plain hm_35 rfl rfl (x_iaload rfl hx85) ?_
      show OEnds own_P 35 25 [qr 1, qi v1] [.int x85] (c0 :: bk0 zag zy zw zai zz zh zc zaa zab zae zo zm zu zt zv zx zb zl zg za zd zf zah zaf zp zn zaj zak ze zr zs zac zad zj zi zq zk po) _
      cases h
      exact OEnds.iret hm_35 rfl rfl
    · simp only [if_neg hc88] at h
      refine OEnds.icmpF hm_35 rfl ((flt hc88).1) ?_
      refine OEnds.adv hm_35 1 (pc' := 18) (L' := [qr 1, qi v1]) (S' := [.int 1]) (H' := (c0 :: bk0 zag zy zw zai zz zh zc zaa zab zae zo zm zu zt zv zx zb zl zg za zd zf zah zaf zp zn zaj zak ze zr zs zac zad zj zi zq zk po)) rfl ?_
      cases h
      exact OEnds.iret hm_35 rfl rfl
theorem ok_writeString_86 {zag zy zw zai zz zc zaa zab zae zo zm zu zt : List Int32} {zv zx zb zl zg za zd zf zah zaf zp zn zaj zak ze zr zs zac zad zj zi zq zk : Int32} {c0 : ACell} {po : List ACell} {kb : List Int32 → Int32 → Int32 → Int32 → Int32 → Option (List Int32)} (hkb : ∀ {zh : List Int32} {v3 v4 v5 v6 : Int32} {d1 d2 d7 : Slot} {w_o_streamBuf : List Int32}, kb zh v3 v4 v5 v6 = some w_o_streamBuf → OEnds own_P 36 13 [qr 1, d1, d2, qi v3, qi v4, qi v5, qi v6, d7] [] (c0 :: bk0 zag zy zw zai zz zh zc zaa zab zae zo zm zu zt zv zx zb zl zg za zd zf zah zaf zp zn zaj zak ze zr zs zac zad zj zi zq zk po) (none, (c0 :: bk0 zag zy zw zai zz w_o_streamBuf zc zaa zab zae zo zm zu zt zv zx zb zl zg za zd zf zah zaf zp zn zaj zak ze zr zs zac zad zj zi zq zk po), 0, 0)) : ∀ {zh : List Int32} {v3 v4 v5 v6 : Int32} {d1 d2 d7 : Slot} {w_o_streamBuf : List Int32}, f_writeString_86 kb zo zm za zh v3 v4 v5 v6 = some w_o_streamBuf → OEnds own_P 36 86 [qr 1, d1, d2, qi v3, qi v4, qi v5, qi v6, d7] [] (c0 :: bk0 zag zy zw zai zz zh zc zaa zab zae zo zm zu zt zv zx zb zl zg za zd zf zah zaf zp zn zaj zak ze zr zs zac zad zj zi zq zk po) (none, (c0 :: bk0 zag zy zw zai zz w_o_streamBuf zc zaa zab zae zo zm zu zt zv zx zb zl zg za zd zf zah zaf zp zn zaj zak ze zr zs zac zad zj zi zq zk po), 0, 0) := by
  intro zh v3 v4 v5 v6 d1 d2 d7 w_o_streamBuf h
  unfold f_writeString_86 at h
  refine OEnds.adv hm_36 4 (pc' := 95) (L' := [qr 1, qu, qu, qi v3, qi v4, qi (v5 + (-1 : Int32)), qi v6, qu]) (S' := [.int za, .int v4]) (H' := (c0 :: bk0 zag zy zw zai zz zh zc zaa zab zae zo zm zu zt zv zx zb zl zg za zd zf zah zaf zp zn zaj zak ze zr zs zac zad zj zi zq zk po)) rfl ?_
  by_cases hc89 : v4 < za
  · simp only [if_pos hc89] at h
    refine OEnds.icmpF hm_36 rfl ((tlt hc89).2.1) ?_
    refine OEnds.adv hm_36 5 (pc' := 13) (L' := [qr 1, qu, qu, qi v3, qi (-1), qi (v5 + (-1 : Int32)), qi (v6 + (1 : Int32)), qu]) (S' := []) (H' := (c0 :: bk0 zag zy zw zai zz zh zc zaa zab zae zo zm zu zt zv zx zb zl zg za zd zf zah zaf zp zn zaj zak ze zr zs zac zad zj zi zq zk po)) rfl ?_
    exact hkb h
  · simp only [if_neg hc89] at h
    refine OEnds.icmpT hm_36 rfl (q := 102) rfl ((flt hc89).2.1) ?_
    refine OEnds.adv hm_36 3 (pc' := 108) (L' := [qr 1, qu, qu, qi v3, qi v4, qi (v5 + (-1 : Int32)), qi v6, qu]) (S' := [.int v4, .ref 12]) (H' := (c0 :: bk0 zag zy zw zai zz zh zc zaa zab zae zo zm zu zt zv zx zb zl zg za zd zf zah zaf zp zn zaj zak ze zr zs zac zad zj zi zq zk po)) rfl ?_
    obtain ⟨x88, hx88, h⟩ := bnd h
    refine OEnds.plain hm_36 rfl rfl (x_iaload rfl hx88) ?_
    refine OEnds.adv hm_36 3 (pc' := 13) (L' := [qr 1, qu, qu, qi v3, qi x88, qi (v5 + (-1 : Int32)), qi (v6 + (1 : Int32)), qu]) (S' := []) (H' := (c0 :: bk0 zag zy zw zai zz zh zc zaa zab zae zo zm zu zt zv zx zb zl zg za zd zf zah zaf zp zn zaj zak ze zr zs zac zad zj zi zq zk po)) rfl ?_
    exact hkb h
theorem ok_writeString_62 {zag zy zw zai zz zc zaa zab zae zo zm zu zt : List Int32} {zv zx zb zl zg za zd zf zah zaf zp zn zaj zak ze zr zs zac zad zj zi zq zk : Int32} {c0 : ACell} {po : List ACell} {kb : List Int32 → Int32 → Int32 → Int32 → Int32 → Option (List Int32)} (hkb : ∀ {zh : List Int32} {v3 v4 v5 v6 : Int32} {d1 d2 d7 : Slot} {w_o_streamBuf : List Int32}, kb zh v3 v4 v5 v6 = some w_o_streamBuf → OEnds own_P 36 13 [qr 1, d1, d2, qi v3, qi v4, qi v5, qi v6, d7] [] (c0 :: bk0 zag zy zw zai zz zh zc zaa zab zae zo zm zu zt zv zx zb zl zg za zd zf zah zaf zp zn zaj zak ze zr zs zac zad zj zi zq zk po) (none, (c0 :: bk0 zag zy zw zai zz w_o_streamBuf zc zaa zab zae zo zm zu zt zv zx zb zl zg za zd zf zah zaf zp zn zaj zak ze zr zs zac zad zj zi zq zk po), 0, 0)) : ∀ {zh : List Int32} {v3 v4 v5 v6 t0 : Int32} {d1 d2 d7 : Slot} {w_o_streamBuf : List Int32}, f_writeString_62 kb zo zm za zh v3 v4 v5 v6 t0 = some w_o_streamBuf → OEnds own_P 36 62 [qr 1, d1, d2, qi v3, qi v4, qi v5, qi v6, d7] [.int t0] (c0 :: bk0 zag zy zw zai zz zh zc zaa zab zae zo zm zu zt zv zx zb zl zg za zd zf zah zaf zp zn zaj zak ze zr zs zac zad zj zi zq zk po) (none, (c0 :: bk0 zag zy zw zai zz w_o_streamBuf zc zaa zab zae zo zm zu zt zv zx zb zl zg za zd zf zah zaf zp zn zaj zak ze zr zs zac zad zj zi zq zk po), 0, 0) := by
  intro zh v3 v4 v5 v6 t0 d1 d2 d7 w_o_streamBuf h
  unfold f_writeString_62 at h
  refine OEnds.adv hm_36 2 (pc' := 66) (L' := [qr 1, qu, qu, qi v3, qi v4, qi v5, qi v6, qi t0]) (S' := [.int v5]) (H' := (c0 :: bk0 zag zy zw zai zz zh zc zaa zab zae zo zm zu zt zv zx zb zl zg za zd zf zah zaf zp zn zaj zak ze zr zs zac zad zj zi zq zk po)) rfl ?_
  by_cases hc90 : v5 < (0 : Int32)
  · simp only [if_pos hc90] at h
    refine OEnds.ifT hm_36 rfl (q := 86) rfl ((tlt hc90).1) ?_
    show OEnds own_P 36 86 [qr 1, qu, qu, qi v3, qi v4, qi v5, qi v6, qi t0] [] (c0 :: bk0 zag zy zw zai zz zh zc zaa zab zae zo zm zu zt zv zx zb zl zg za zd zf zah zaf zp zn zaj zak ze zr zs zac zad zj zi zq zk po) _
    exact ok_writeString_86 hkb h
  · simp only [if_neg hc90] at h
    refine OEnds.ifF hm_36 rfl ((flt hc90).1) ?_
    refine OEnds.adv hm_36 2 (pc' := 74) (L' := [qr 1, qu, qu, qi v3, qi v4, qi v5, qi v6, qi t0]) (S' := [.int 256, .int v5]) (H' := (c0 :: bk0 zag zy zw zai zz zh zc zaa zab zae zo zm zu zt zv zx zb zl zg za zd zf zah zaf zp zn zaj zak ze zr zs zac zad zj zi zq zk po)) rfl ?_
    by_cases hc91 : v5 < (256 : Int32)
    · simp only [if_pos hc91] at h
      refine OEnds.icmpF hm_36 rfl ((tlt hc91).2.1) ?_
      refine OEnds.adv hm_36 4 (pc' := 85) (L' := [qr 1, qu, qu, qi v3, qi v4, qi v5, qi v6, qi t0]) (S' := [.int t0, .int v5, .ref 7]) (H' := (c0 :: bk0 zag zy zw zai zz zh zc zaa zab zae zo zm zu zt zv zx zb zl zg za zd zf zah zaf zp zn zaj zak ze zr zs zac zad zj zi zq zk po)) rfl ?_
      obtain ⟨A87, hA87, h⟩ := bnd h
      refine OEnds.plain hm_36 rfl rfl (x_iastore rfl (Nat.le_of_ble_eq_true rfl) hA87) ?_
      show OEnds own_P 36 86 [qr 1, qu, qu, qi v3, qi v4, qi v5, qi v6, qi t0] [] (c0 :: bk0 zag zy zw zai zz A87 zc zaa zab zae zo zm zu zt zv zx zb zl zg za zd zf zah zaf zp zn zaj zak ze zr zs zac zad zj zi zq zk po) _
      exact ok_writeString_86 hkb h
    · simp only [if_neg hc91] at h
      refine OEnds.icmpT hm_36 rfl (q := 86) rfl ((flt hc91).2.1) ?_
      show OEnds own_P 36 86 [qr 1, qu, qu, qi v3, qi v4, qi v5, qi v6, qi t0] [] (c0 :: bk0 zag zy zw zai zz zh zc zaa zab zae zo zm zu zt zv zx zb zl zg za zd zf zah zaf zp zn zaj zak ze zr zs zac zad zj zi zq zk po) _
      exact ok_writeString_86 hkb h
theorem ok_writeString_13 {zag zy zw zai zz zc zaa zab zae zo zm zu zt : List Int32} {zv zx zb zl zg za zd zf zah zaf zp zn zaj zak ze zr zs zac zad zj zi zq zk : Int32} {c0 : ACell} {po : List ACell} : ∀ (n : Nat), ∀ {zh : List Int32} {v3 v4 v5 v6 : Int32} {d1 d2 d7 : Slot} {w_o_streamBuf : List Int32}, f_writeString_13 zo zm za n zh v3 v4 v5 v6 = some w_o_streamBuf → OEnds own_P 36 13 [qr 1, d1, d2, qi v3, qi v4, qi v5, qi v6, d7] [] (c0 :: bk0 zag zy zw zai zz zh zc zaa zab zae zo zm zu zt zv zx zb zl zg za zd zf zah zaf zp zn zaj zak ze zr zs zac zad zj zi zq zk po) (none, (c0 :: bk0 zag zy zw zai zz w_o_streamBuf zc zaa zab zae zo zm zu zt zv zx zb zl zg za zd zf zah zaf zp zn zaj zak ze zr zs zac zad zj zi zq zk po), 0, 0) := by
  intro n
  induction n with
  | zero => intro zh v3 v4 v5 v6 d1 d2 d7 w_o_streamBuf h; cases h
  | succ n ih =>
    intro zh v3 v4 v5 v6 d1 d2 d7 w_o_streamBuf h
    unfold f_writeString_13 at h
    refine OEnds.adv hm_36 2 (pc' := 16) (L' := [qr 1, qu, qu, qi v3, qi v4, qi v5, qi v6, qu]) (S' := [.int v3, .int v6]) (H' := (c0 :: bk0 zag zy zw zai zz zh zc zaa zab zae zo zm zu zt zv zx zb zl zg za zd zf zah zaf zp zn zaj zak ze zr zs zac zad zj zi zq zk po)) rfl ?_
    by_cases hc92 : v6 < v3
    · simp only [if_pos hc92] at h
      refine OEnds.icmpF hm_36 rfl ((tlt hc92).2.1) ?_
      refine OEnds.adv hm_36 2 (pc' := 24) (L' := [qr 1, qu, qu, qi v3, qi v4, qi v5, qi v6, qu]) (S' := [.int 512, .int v6]) (H' := (c0 :: bk0 zag zy zw zai zz zh zc zaa zab zae zo zm zu zt zv zx zb zl zg za zd zf zah zaf zp zn zaj zak ze zr zs zac zad zj zi zq zk po)) rfl ?_
      by_cases hc93 : v6 < (512 : Int32)
      · simp only [if_pos hc93] at h
        refine OEnds.icmpF hm_36 rfl ((tlt hc93).2.1) ?_
        refine OEnds.adv hm_36 1 (pc' := 29) (L' := [qr 1, qu, qu, qi v3, qi v4, qi v5, qi v6, qu]) (S' := [.int v4]) (H' := (c0 :: bk0 zag zy zw zai zz zh zc zaa zab zae zo zm zu zt zv zx zb zl zg za zd zf zah zaf zp zn zaj zak ze zr zs zac zad zj zi zq zk po)) rfl ?_
        by_cases hc94 : v4 < (0 : Int32)
        · simp only [if_pos hc94] at h
          refine OEnds.ifT hm_36 rfl (q := 40) rfl ((tlt hc94).1) ?_
          show OEnds own_P 36 40 [qr 1, qu, qu, qi v3, qi v4, qi v5, qi v6, qu] [] (c0 :: bk0 zag zy zw zai zz zh zc zaa zab zae zo zm zu zt zv zx zb zl zg za zd zf zah zaf zp zn zaj zak ze zr zs zac zad zj zi zq zk po) _
          cases h
          exact OEnds.vret hm_36 rfl rfl
        · simp only [if_neg hc94] at h
          refine OEnds.ifF hm_36 rfl ((flt hc94).1) ?_
          refine OEnds.adv hm_36 2 (pc' := 37) (L' := [qr 1, qu, qu, qi v3, qi v4, qi v5, qi v6, qu]) (S' := [.int 512, .int v4]) (H' := (c0 :: bk0 zag zy zw zai zz zh zc zaa zab zae zo zm zu zt zv zx zb zl zg za zd zf zah zaf zp zn zaj zak ze zr zs zac zad zj zi zq zk po)) rfl ?_
          by_cases hc95 : v4 < (512 : Int32)
          · simp only [if_pos hc95] at h
            refine OEnds.icmpT hm_36 rfl (q := 41) rfl ((tlt hc95).1) ?_
            refine OEnds.adv hm_36 3 (pc' := 47) (L' := [qr 1, qu, qu, qi v3, qi v4, qi v5, qi v6, qu]) (S' := [.int za, .int v4]) (H' := (c0 :: bk0 zag zy zw zai zz zh zc zaa zab zae zo zm zu zt zv zx zb zl zg za zd zf zah zaf zp zn zaj zak ze zr zs zac zad zj zi zq zk po)) rfl ?_
            by_cases hc96 : v4 < za
            · simp only [if_pos hc96] at h
              refine OEnds.icmpF hm_36 rfl ((tlt hc96).2.1) ?_
              refine OEnds.adv hm_36 2 (pc' := 62) (L' := [qr 1, qu, qu, qi v3, qi v4, qi v5, qi v6, qu]) (S' := [.int v4]) (H' := (c0 :: bk0 zag zy zw zai zz zh zc zaa zab zae zo zm zu zt zv zx zb zl zg za zd zf zah zaf zp zn zaj zak ze zr zs zac zad zj zi zq zk po)) rfl ?_
              exact ok_writeString_62 ih h
            · simp only [if_neg hc96] at h
              refine OEnds.icmpT hm_36 rfl (q := 55) rfl ((flt hc96).2.1) ?_
              refine OEnds.adv hm_36 3 (pc' := 61) (L' := [qr 1, qu, qu, qi v3, qi v4, qi v5, qi v6, qu]) (S' := [.int v4, .ref 13]) (H' := (c0 :: bk0 zag zy zw zai zz zh zc zaa zab zae zo zm zu zt zv zx zb zl zg za zd zf zah zaf zp zn zaj zak ze zr zs zac zad zj zi zq zk po)) rfl ?_
              obtain ⟨x86, hx86, h⟩ := bnd h
              refine OEnds.plain hm_36 rfl rfl (x_iaload rfl hx86) ?_
              show OEnds own_P 36 62 [qr 1, qu, qu, qi v3, qi v4, qi v5, qi v6, qu] [.int x86] (c0 :: bk0 zag zy zw zai zz zh zc zaa zab zae zo zm zu zt zv zx zb zl zg za zd zf zah zaf zp zn zaj zak ze zr zs zac zad zj zi zq zk po) _
              exact ok_writeString_62 ih h
          · simp only [if_neg hc95] at h
            refine OEnds.icmpF hm_36 rfl ((flt hc95).1) ?_
            show OEnds own_P 36 40 [qr 1, qu, qu, qi v3, qi v4, qi v5, qi v6, qu] [] (c0 :: bk0 zag zy zw zai zz zh zc zaa zab zae zo zm zu zt zv zx zb zl zg za zd zf zah zaf zp zn zaj zak ze zr zs zac zad zj zi zq zk po) _
            cases h
            exact OEnds.vret hm_36 rfl rfl
      · simp only [if_neg hc93] at h
        refine OEnds.icmpT hm_36 rfl (q := 117) rfl ((flt hc93).2.1) ?_
        show OEnds own_P 36 117 [qr 1, qu, qu, qi v3, qi v4, qi v5, qi v6, qu] [] (c0 :: bk0 zag zy zw zai zz zh zc zaa zab zae zo zm zu zt zv zx zb zl zg za zd zf zah zaf zp zn zaj zak ze zr zs zac zad zj zi zq zk po) _
        cases h
        exact OEnds.vret hm_36 rfl rfl
    · simp only [if_neg hc92] at h
      refine OEnds.icmpT hm_36 rfl (q := 117) rfl ((flt hc92).2.1) ?_
      show OEnds own_P 36 117 [qr 1, qu, qu, qi v3, qi v4, qi v5, qi v6, qu] [] (c0 :: bk0 zag zy zw zai zz zh zc zaa zab zae zo zm zu zt zv zx zb zl zg za zd zf zah zaf zp zn zaj zak ze zr zs zac zad zj zi zq zk po) _
      cases h
      exact OEnds.vret hm_36 rfl rfl
theorem ok_writeString {zag zy zw zai zz zc zaa zab zae zo zm zu zt : List Int32} {zv zx zb zl zg za zd zf zah zaf zp zn zaj zak ze zr zs zac zad zj zi zq zk : Int32} {c0 : ACell} {po : List ACell} {zh : List Int32} {v1 v2 v3 : Int32} {w_o_streamBuf : List Int32} (h : f_writeString zo zm za zh v1 v2 v3 = some w_o_streamBuf) : OEnds own_P 36 0 [qr 1, qi v1, qi v2, qi v3, qu, qu, qu, qu] [] (c0 :: bk0 zag zy zw zai zz zh zc zaa zab zae zo zm zu zt zv zx zb zl zg za zd zf zah zaf zp zn zaj zak ze zr zs zac zad zj zi zq zk po) (none, (c0 :: bk0 zag zy zw zai zz w_o_streamBuf zc zaa zab zae zo zm zu zt zv zx zb zl zg za zd zf zah zaf zp zn zaj zak ze zr zs zac zad zj zi zq zk po), 0, 0) := by
  unfold f_writeString at h
  refine OEnds.adv hm_36 10 (pc' := 13) (L' := [qr 1, qi v1, qi v2, qi v3, qi v1, qi ((v2 + v3) - (1 : Int32)), qi 0, qu]) (S' := []) (H' := (c0 :: bk0 zag zy zw zai zz zh zc zaa zab zae zo zm zu zt zv zx zb zl zg za zd zf zah zaf zp zn zaj zak ze zr zs zac zad zj zi zq zk po)) rfl ?_
  exact ok_writeString_13 100000 h
theorem ok_firstOf {zag zy zw zai zz zh zc zaa zab zae zo zm zu zt : List Int32} {zv zx zb zl zg za zd zf zah zaf zp zn zaj zak ze zr zs zac zad zj zi zq zk : Int32} {c0 : ACell} {po : List ACell} {v1 res : Int32} (h : f_firstOf zu za v1 = some res) : OEnds own_P 37 0 [qr 1, qi v1] [] (c0 :: bk0 zag zy zw zai zz zh zc zaa zab zae zo zm zu zt zv zx zb zl zg za zd zf zah zaf zp zn zaj zak ze zr zs zac zad zj zi zq zk po) (some (.int res), (c0 :: bk0 zag zy zw zai zz zh zc zaa zab zae zo zm zu zt zv zx zb zl zg za zd zf zah zaf zp zn zaj zak ze zr zs zac zad zj zi zq zk po), 0, 0) := by
  unfold f_firstOf at h
  refine OEnds.adv hm_37 3 (pc' := 5) (L' := [qr 1, qi v1]) (S' := [.int za, .int v1]) (H' := (c0 :: bk0 zag zy zw zai zz zh zc zaa zab zae zo zm zu zt zv zx zb zl zg za zd zf zah zaf zp zn zaj zak ze zr zs zac zad zj zi zq zk po)) rfl ?_
  by_cases hc97 : v1 < za
  · simp only [if_pos hc97] at h
    refine OEnds.icmpF hm_37 rfl ((tlt hc97).2.1) ?_
    refine OEnds.adv hm_37 1 (pc' := 9) (L' := [qr 1, qi v1]) (S' := [.int v1]) (H' := (c0 :: bk0 zag zy zw zai zz zh zc zaa zab zae zo zm zu zt zv zx zb zl zg za zd zf zah zaf zp zn zaj zak ze zr zs zac zad zj zi zq zk po)) rfl ?_
    cases h
    exact OEnds.iret hm_37 rfl rfl
  · simp only [if_neg hc97] at h
    refine OEnds.icmpT hm_37 rfl (q := 10) rfl ((flt hc97).2.1) ?_
    refine OEnds.adv hm_37 2 (pc' := 14) (L' := [qr 1, qi v1]) (S' := [.int 512, .int v1]) (H' := (c0 :: bk0 zag zy zw zai zz zh zc zaa zab zae zo zm zu zt zv zx zb zl zg za zd zf zah zaf zp zn zaj zak ze zr zs zac zad zj zi zq zk po)) rfl ?_
    by_cases hc98 : v1 < (512 : Int32)
    · simp only [if_pos hc98] at h
      refine OEnds.icmpT hm_37 rfl (q := 19) rfl ((tlt hc98).1) ?_
      refine OEnds.adv hm_37 3 (pc' := 24) (L' := [qr 1, qi v1]) (S' := [.int v1, .ref 14]) (H' := (c0 :: bk0 zag zy zw zai zz zh zc zaa zab zae zo zm zu zt zv zx zb zl zg za zd zf zah zaf zp zn zaj zak ze zr zs zac zad zj zi zq zk po)) rfl ?_
      obtain ⟨x89, hx89, h⟩ := bnd h
      refine OEnds.plain hm_37 rfl rfl (x_iaload rfl hx89) ?_
      show OEnds own_P 37 25 [qr 1, qi v1] [.int x89] (c0 :: bk0 zag zy zw zai zz zh zc zaa zab zae zo zm zu zt zv zx zb zl zg za zd zf zah zaf zp zn zaj zak ze zr zs zac zad zj zi zq zk po) _
      cases h
      exact OEnds.iret hm_37 rfl rfl
    · simp only [if_neg hc98] at h
      refine OEnds.icmpF hm_37 rfl ((flt hc98).1) ?_
      refine OEnds.adv hm_37 1 (pc' := 18) (L' := [qr 1, qi v1]) (S' := [.int 0]) (H' := (c0 :: bk0 zag zy zw zai zz zh zc zaa zab zae zo zm zu zt zv zx zb zl zg za zd zf zah zaf zp zn zaj zak ze zr zs zac zad zj zi zq zk po)) rfl ?_
      cases h
      exact OEnds.iret hm_37 rfl rfl
theorem ok_addDecoderCode_54 {zag zy zw zai zz zh zc zaa zab zae : List Int32} {zv zx zb zl zg za zd zf zah zaf zp zn zaj zak ze zr zs zac zad zq zk : Int32} {c0 : ACell} {po : List ACell} : ∀ {zo zm zu zt : List Int32} {zj zi v3 : Int32} {d1 d2 : Slot} {w_o_prefix w_o_suffix w_o_firstPix w_o_strLen : List Int32} {w_o_decWidth : Int32} {w_o_decNext : Int32}, f_addDecoderCode_54 za zd zo zm zu zt zj zi v3 = some (w_o_prefix, w_o_suffix, w_o_firstPix, w_o_strLen, w_o_decWidth, w_o_decNext) → OEnds own_P 38 54 [qr 1, d1, d2, qi v3] [] (c0 :: bk0 zag zy zw zai zz zh zc zaa zab zae zo zm zu zt zv zx zb zl zg za zd zf zah zaf zp zn zaj zak ze zr zs zac zad zj zi zq zk po) (none, (c0 :: bk0 zag zy zw zai zz zh zc zaa zab zae w_o_prefix w_o_suffix w_o_firstPix w_o_strLen zv zx zb zl zg za zd zf zah zaf zp zn zaj zak ze zr zs zac zad w_o_decWidth w_o_decNext zq zk po), 0, 0) := by
  intro zo zm zu zt zj zi v3 d1 d2 w_o_prefix w_o_suffix w_o_firstPix w_o_strLen w_o_decWidth w_o_decNext h
  unfold f_addDecoderCode_54 at h
  refine OEnds.adv hm_38 11 (pc' := 71) (L' := [qr 1, qu, qu, qi v3]) (S' := [.int ((1 : Int32) <<< (zj &&& 31)), .int (v3 + (1 : Int32))]) (H' := (c0 :: bk0 zag zy zw zai zz zh zc zaa zab zae zo zm zu zt zv zx zb zl zg za zd zf zah zaf zp zn zaj zak ze zr zs zac zad zj (v3 + (1 : Int32)) zq zk po)) rfl ?_
  by_cases hc99 : (v3 + (1 : Int32)) = ((1 : Int32) <<< (zj &&& 31))
  · simp only [if_pos hc99] at h
    refine OEnds.icmpF hm_38 rfl ((teq hc99).2) ?_
    refine OEnds.adv hm_38 4 (pc' := 82) (L' := [qr 1, qu, qu, qi v3]) (S' := [.int zd, .int zj]) (H' := (c0 :: bk0 zag zy zw zai zz zh zc zaa zab zae zo zm zu zt zv zx zb zl zg za zd zf zah zaf zp zn zaj zak ze zr zs zac zad zj (v3 + (1 : Int32)) zq zk po)) rfl ?_
    by_cases hc100 : zj < zd
    · simp only [if_pos hc100] at h
      refine OEnds.icmpF hm_38 rfl ((tlt hc100).2.1) ?_
      refine OEnds.adv hm_38 6 (pc' := 95) (L' := [qr 1, qu, qu, qi v3]) (S' := []) (H' := (c0 :: bk0 zag zy zw zai zz zh zc zaa zab zae zo zm zu zt zv zx zb zl zg za zd zf zah zaf zp zn zaj zak ze zr zs zac zad (zj + (1 : Int32)) (v3 + (1 : Int32)) zq zk po)) rfl ?_
      cases h
      exact OEnds.vret hm_38 rfl rfl
    · simp only [if_neg hc100] at h
      refine OEnds.icmpT hm_38 rfl (q := 95) rfl ((flt hc100).2.1) ?_
      show OEnds own_P 38 95 [qr 1, qu, qu, qi v3] [] (c0 :: bk0 zag zy zw zai zz zh zc zaa zab zae zo zm zu zt zv zx zb zl zg za zd zf zah zaf zp zn zaj zak ze zr zs zac zad zj (v3 + (1 : Int32)) zq zk po) _
      cases h
      exact OEnds.vret hm_38 rfl rfl
  · simp only [if_neg hc99] at h
    refine OEnds.icmpT hm_38 rfl (q := 95) rfl ((feq hc99).2) ?_
    show OEnds own_P 38 95 [qr 1, qu, qu, qi v3] [] (c0 :: bk0 zag zy zw zai zz zh zc zaa zab zae zo zm zu zt zv zx zb zl zg za zd zf zah zaf zp zn zaj zak ze zr zs zac zad zj (v3 + (1 : Int32)) zq zk po) _
    cases h
    exact OEnds.vret hm_38 rfl rfl
theorem ok_addDecoderCode {zag zy zw zai zz zh zc zaa zab zae : List Int32} {zv zx zb zl zg za zd zf zah zaf zp zn zaj zak ze zr zs zac zad zq zk : Int32} {c0 : ACell} {po : List ACell} {zo zm zu zt : List Int32} {zj zi v1 v2 : Int32} {w_o_prefix w_o_suffix w_o_firstPix w_o_strLen : List Int32} {w_o_decWidth w_o_decNext : Int32} (h : f_addDecoderCode za zd zo zm zu zt zj zi v1 v2 = some (w_o_prefix, w_o_suffix, w_o_firstPix, w_o_strLen, w_o_decWidth, w_o_decNext)) : OEnds own_P 38 0 [qr 1, qi v1, qi v2, qu] [] (c0 :: bk0 zag zy zw zai zz zh zc zaa zab zae zo zm zu zt zv zx zb zl zg za zd zf zah zaf zp zn zaj zak ze zr zs zac zad zj zi zq zk po) (none, (c0 :: bk0 zag zy zw zai zz zh zc zaa zab zae w_o_prefix w_o_suffix w_o_firstPix w_o_strLen zv zx zb zl zg za zd zf zah zaf zp zn zaj zak ze zr zs zac zad w_o_decWidth w_o_decNext zq zk po), 0, 0) := by
  unfold f_addDecoderCode at h
  refine OEnds.adv hm_38 4 (pc' := 6) (L' := [qr 1, qi v1, qi v2, qi zi]) (S' := [.int zi]) (H' := (c0 :: bk0 zag zy zw zai zz zh zc zaa zab zae zo zm zu zt zv zx zb zl zg za zd zf zah zaf zp zn zaj zak ze zr zs zac zad zj zi zq zk po)) rfl ?_
  by_cases hc101 : zi < (0 : Int32)
  · simp only [if_pos hc101] at h
    refine OEnds.ifT hm_38 rfl (q := 54) rfl ((tlt hc101).1) ?_
    show OEnds own_P 38 54 [qr 1, qi v1, qi v2, qi zi] [] (c0 :: bk0 zag zy zw zai zz zh zc zaa zab zae zo zm zu zt zv zx zb zl zg za zd zf zah zaf zp zn zaj zak ze zr zs zac zad zj zi zq zk po) _
    exact ok_addDecoderCode_54 h
  · simp only [if_neg hc101] at h
    refine OEnds.ifF hm_38 rfl ((flt hc101).1) ?_
    refine OEnds.adv hm_38 2 (pc' := 13) (L' := [qr 1, qi v1, qi v2, qi zi]) (S' := [.int 512, .int zi]) (H' := (c0 :: bk0 zag zy zw zai zz zh zc zaa zab zae zo zm zu zt zv zx zb zl zg za zd zf zah zaf zp zn zaj zak ze zr zs zac zad zj zi zq zk po)) rfl ?_
    by_cases hc102 : zi < (512 : Int32)
    · simp only [if_pos hc102] at h
      refine OEnds.icmpF hm_38 rfl ((tlt hc102).2.1) ?_
      refine OEnds.adv hm_38 4 (pc' := 22) (L' := [qr 1, qi v1, qi v2, qi zi]) (S' := [.int v1, .int zi, .ref 12]) (H' := (c0 :: bk0 zag zy zw zai zz zh zc zaa zab zae zo zm zu zt zv zx zb zl zg za zd zf zah zaf zp zn zaj zak ze zr zs zac zad zj zi zq zk po)) rfl ?_
      obtain ⟨A90, hA90, h⟩ := bnd h
      refine OEnds.plain hm_38 rfl rfl (x_iastore rfl (Nat.le_of_ble_eq_true rfl) hA90) ?_
      refine OEnds.adv hm_38 4 (pc' := 29) (L' := [qr 1, qi v1, qi v2, qi zi]) (S' := [.int v2, .int zi, .ref 13]) (H' := (c0 :: bk0 zag zy zw zai zz zh zc zaa zab zae A90 zm zu zt zv zx zb zl zg za zd zf zah zaf zp zn zaj zak ze zr zs zac zad zj zi zq zk po)) rfl ?_
      obtain ⟨A91, hA91, h⟩ := bnd h
      refine OEnds.plain hm_38 rfl rfl (x_iastore rfl (Nat.le_of_ble_eq_true rfl) hA91) ?_
      refine OEnds.adv hm_38 5 (pc' := 37) (L' := [qr 1, qi v1, qi v2, qi zi]) (S' := [.int v1, .ref 1, .int zi, .ref 14]) (H' := (c0 :: bk0 zag zy zw zai zz zh zc zaa zab zae A90 A91 zu zt zv zx zb zl zg za zd zf zah zaf zp zn zaj zak ze zr zs zac zad zj zi zq zk po)) rfl ?_
      obtain ⟨r92, hq103, h⟩ := bnd h
      refine OEnds.call0 hm_38 rfl rfl (by decide) rfl (as := [.ref 1, .int v1]) (rest := [.int zi, .ref 14]) rfl rfl (ok_firstOf hq103) ?_
      show OEnds own_P 38 40 [qr 1, qi v1, qi v2, qi zi] [.int r92, .int zi, .ref 14] (c0 :: bk0 zag zy zw zai zz zh zc zaa zab zae A90 A91 zu zt zv zx zb zl zg za zd zf zah zaf zp zn zaj zak ze zr zs zac zad zj zi zq zk po) _
      obtain ⟨A93, hA93, h⟩ := bnd h
      refine OEnds.plain hm_38 rfl rfl (x_iastore rfl (Nat.le_of_ble_eq_true rfl) hA93) ?_
      refine OEnds.adv hm_38 5 (pc' := 48) (L' := [qr 1, qi v1, qi v2, qi zi]) (S' := [.int v1, .ref 1, .int zi, .ref 15]) (H' := (c0 :: bk0 zag zy zw zai zz zh zc zaa zab zae A90 A91 A93 zt zv zx zb zl zg za zd zf zah zaf zp zn zaj zak ze zr zs zac zad zj zi zq zk po)) rfl ?_
      obtain ⟨r94, hq104, h⟩ := bnd h
      refine OEnds.call0 hm_38 rfl rfl (by decide) rfl (as := [.ref 1, .int v1]) (rest := [.int zi, .ref 15]) rfl rfl (ok_lengthOf hq104) ?_
      refine OEnds.adv hm_38 2 (pc' := 53) (L' := [qr 1, qi v1, qi v2, qi zi]) (S' := [.int (r94 + (1 : Int32)), .int zi, .ref 15]) (H' := (c0 :: bk0 zag zy zw zai zz zh zc zaa zab zae A90 A91 A93 zt zv zx zb zl zg za zd zf zah zaf zp zn zaj zak ze zr zs zac zad zj zi zq zk po)) rfl ?_
      obtain ⟨A95, hA95, h⟩ := bnd h
      refine OEnds.plain hm_38 rfl rfl (x_iastore rfl (Nat.le_of_ble_eq_true rfl) hA95) ?_
      show OEnds own_P 38 54 [qr 1, qi v1, qi v2, qi zi] [] (c0 :: bk0 zag zy zw zai zz zh zc zaa zab zae A90 A91 A93 A95 zv zx zb zl zg za zd zf zah zaf zp zn zaj zak ze zr zs zac zad zj zi zq zk po) _
      exact ok_addDecoderCode_54 h
    · simp only [if_neg hc102] at h
      refine OEnds.icmpT hm_38 rfl (q := 54) rfl ((flt hc102).2.1) ?_
      show OEnds own_P 38 54 [qr 1, qi v1, qi v2, qi zi] [] (c0 :: bk0 zag zy zw zai zz zh zc zaa zab zae zo zm zu zt zv zx zb zl zg za zd zf zah zaf zp zn zaj zak ze zr zs zac zad zj zi zq zk po) _
      exact ok_addDecoderCode_54 h
theorem ok_handleCode_233 {zag zy zw zai zz zc zaa zab zae : List Int32} {zv zx zb zl zg za zd zf zah zaf zp zn zaj zak ze zr zs zac zad : Int32} {c0 : ACell} {po : List ACell} : ∀ {zh zo zm zu zt : List Int32} {zj zi zq zk v1 : Int32} {d2 d3 d4 : Slot} {res : Int32} {w_o_streamBuf w_o_prefix w_o_suffix w_o_firstPix w_o_strLen : List Int32} {w_o_decWidth w_o_decNext w_o_decPrev : Int32} {w_o_decCount : Int32}, f_handleCode_233 zb zl za zd zf zh zo zm zu zt zj zi zq zk v1 = some (res, w_o_streamBuf, w_o_prefix, w_o_suffix, w_o_firstPix, w_o_strLen, w_o_decWidth, w_o_decNext, w_o_decPrev, w_o_decCount) → OEnds own_P 34 233 [qr 1, qi v1, d2, d3, d4] [] (c0 :: bk0 zag zy zw zai zz zh zc zaa zab zae zo zm zu zt zv zx zb zl zg za zd zf zah zaf zp zn zaj zak ze zr zs zac zad zj zi zq zk po) (some (.int res), (c0 :: bk0 zag zy zw zai zz w_o_streamBuf zc zaa zab zae w_o_prefix w_o_suffix w_o_firstPix w_o_strLen zv zx zb zl zg za zd zf zah zaf zp zn zaj zak ze zr zs zac zad w_o_decWidth w_o_decNext w_o_decPrev w_o_decCount po), 0, 0) := by
  intro zh zo zm zu zt zj zi zq zk v1 d2 d3 d4 res w_o_streamBuf w_o_prefix w_o_suffix w_o_firstPix w_o_strLen w_o_decWidth w_o_decNext w_o_decPrev w_o_decCount h
  unfold f_handleCode_233 at h
  refine OEnds.adv hm_34 4 (pc' := 239) (L' := [qr 1, qi v1, qu, qu, qu]) (S' := [.int 0]) (H' := (c0 :: bk0 zag zy zw zai zz zh zc zaa zab zae zo zm zu zt zv zx zb zl zg za zd zf zah zaf zp zn zaj zak ze zr zs zac zad zj zi v1 zk po)) rfl ?_
  cases h
  exact OEnds.iret hm_34 rfl rfl
theorem ok_handleCode_206 {zag zy zw zai zz zc zaa zab zae : List Int32} {zv zx zb zl zg za zd zf zah zaf zp zn zaj zak ze zr zs zac zad : Int32} {c0 : ACell} {po : List ACell} : ∀ {zh zo zm zu zt : List Int32} {zj zi zq zk v1 v2 : Int32} {d3 d4 : Slot} {res : Int32} {w_o_streamBuf w_o_prefix w_o_suffix w_o_firstPix w_o_strLen : List Int32} {w_o_decWidth w_o_decNext w_o_decPrev : Int32} {w_o_decCount : Int32}, f_handleCode_206 zb zl za zd zf zh zo zm zu zt zj zi zq zk v1 v2 = some (res, w_o_streamBuf, w_o_prefix, w_o_suffix, w_o_firstPix, w_o_strLen, w_o_decWidth, w_o_decNext, w_o_decPrev, w_o_decCount) → OEnds own_P 34 206 [qr 1, qi v1, qi v2, d3, d4] [] (c0 :: bk0 zag zy zw zai zz zh zc zaa zab zae zo zm zu zt zv zx zb zl zg za zd zf zah zaf zp zn zaj zak ze zr zs zac zad zj zi zq zk po) (some (.int res), (c0 :: bk0 zag zy zw zai zz w_o_streamBuf zc zaa zab zae w_o_prefix w_o_suffix w_o_firstPix w_o_strLen zv zx zb zl zg za zd zf zah zaf zp zn zaj zak ze zr zs zac zad w_o_decWidth w_o_decNext w_o_decPrev w_o_decCount po), 0, 0) := by
  intro zh zo zm zu zt zj zi zq zk v1 v2 d3 d4 res w_o_streamBuf w_o_prefix w_o_suffix w_o_firstPix w_o_strLen w_o_decWidth w_o_decNext w_o_decPrev w_o_decCount h
  unfold f_handleCode_206 at h
  refine OEnds.adv hm_34 2 (pc' := 210) (L' := [qr 1, qi v1, qi v2, qu, qu]) (S' := [.int zq]) (H' := (c0 :: bk0 zag zy zw zai zz zh zc zaa zab zae zo zm zu zt zv zx zb zl zg za zd zf zah zaf zp zn zaj zak ze zr zs zac zad zj zi zq zk po)) rfl ?_
  by_cases hc105 : zq < (0 : Int32)
  · simp only [if_pos hc105] at h
    refine OEnds.ifT hm_34 rfl (q := 233) rfl ((tlt hc105).1) ?_
    show OEnds own_P 34 233 [qr 1, qi v1, qi v2, qu, qu] [] (c0 :: bk0 zag zy zw zai zz zh zc zaa zab zae zo zm zu zt zv zx zb zl zg za zd zf zah zaf zp zn zaj zak ze zr zs zac zad zj zi zq zk po) _
    exact ok_handleCode_233 h
  · simp only [if_neg hc105] at h
    refine OEnds.ifF hm_34 rfl ((flt hc105).1) ?_
    refine OEnds.adv hm_34 4 (pc' := 221) (L' := [qr 1, qi v1, qi v2, qu, qu]) (S' := [.int zf, .int zi]) (H' := (c0 :: bk0 zag zy zw zai zz zh zc zaa zab zae zo zm zu zt zv zx zb zl zg za zd zf zah zaf zp zn zaj zak ze zr zs zac zad zj zi zq zk po)) rfl ?_
    by_cases hc106 : zi < zf
    · simp only [if_pos hc106] at h
      refine OEnds.icmpF hm_34 rfl ((tlt hc106).2.1) ?_
      refine OEnds.adv hm_34 4 (pc' := 230) (L' := [qr 1, qi v1, qi v2, qu, qu]) (S' := [.int v2, .int zq, .ref 1]) (H' := (c0 :: bk0 zag zy zw zai zz zh zc zaa zab zae zo zm zu zt zv zx zb zl zg za zd zf zah zaf zp zn zaj zak ze zr zs zac zad zj zi zq zk po)) rfl ?_
      obtain ⟨⟨s103, s104, s105, s106, s107, s108⟩, hq107, h⟩ := bnd h
      refine OEnds.call0 hm_34 rfl rfl (by decide) rfl (as := [.ref 1, .int zq, .int v2]) (rest := []) rfl rfl (ok_addDecoderCode hq107) ?_
      show OEnds own_P 34 233 [qr 1, qi v1, qi v2, qu, qu] [] (c0 :: bk0 zag zy zw zai zz zh zc zaa zab zae s103 s104 s105 s106 zv zx zb zl zg za zd zf zah zaf zp zn zaj zak ze zr zs zac zad s107 s108 zq zk po) _
      exact ok_handleCode_233 h
    · simp only [if_neg hc106] at h
      refine OEnds.icmpT hm_34 rfl (q := 233) rfl ((flt hc106).2.1) ?_
      show OEnds own_P 34 233 [qr 1, qi v1, qi v2, qu, qu] [] (c0 :: bk0 zag zy zw zai zz zh zc zaa zab zae zo zm zu zt zv zx zb zl zg za zd zf zah zaf zp zn zaj zak ze zr zs zac zad zj zi zq zk po) _
      exact ok_handleCode_233 h
theorem ok_handleCode_196 {zag zy zw zai zz zc zaa zab zae : List Int32} {zv zx zb zl zg za zd zf zah zaf zp zn zaj zak ze zr zs zac zad : Int32} {c0 : ACell} {po : List ACell} : ∀ {zh zo zm zu zt : List Int32} {zj zi zq zk v1 v2 v3 : Int32} {d4 : Slot} {res : Int32} {w_o_streamBuf w_o_prefix w_o_suffix w_o_firstPix w_o_strLen : List Int32} {w_o_decWidth w_o_decNext w_o_decPrev : Int32} {w_o_decCount : Int32}, f_handleCode_196 zb zl za zd zf zh zo zm zu zt zj zi zq zk v1 v2 v3 = some (res, w_o_streamBuf, w_o_prefix, w_o_suffix, w_o_firstPix, w_o_strLen, w_o_decWidth, w_o_decNext, w_o_decPrev, w_o_decCount) → OEnds own_P 34 196 [qr 1, qi v1, qi v2, qi v3, d4] [] (c0 :: bk0 zag zy zw zai zz zh zc zaa zab zae zo zm zu zt zv zx zb zl zg za zd zf zah zaf zp zn zaj zak ze zr zs zac zad zj zi zq zk po) (some (.int res), (c0 :: bk0 zag zy zw zai zz w_o_streamBuf zc zaa zab zae w_o_prefix w_o_suffix w_o_firstPix w_o_strLen zv zx zb zl zg za zd zf zah zaf zp zn zaj zak ze zr zs zac zad w_o_decWidth w_o_decNext w_o_decPrev w_o_decCount po), 0, 0) := by
  intro zh zo zm zu zt zj zi zq zk v1 v2 v3 d4 res w_o_streamBuf w_o_prefix w_o_suffix w_o_firstPix w_o_strLen w_o_decWidth w_o_decNext w_o_decPrev w_o_decCount h
  unfold f_handleCode_196 at h
  refine OEnds.adv hm_34 6 (pc' := 206) (L' := [qr 1, qi v1, qi v2, qi v3, qu]) (S' := []) (H' := (c0 :: bk0 zag zy zw zai zz zh zc zaa zab zae zo zm zu zt zv zx zb zl zg za zd zf zah zaf zp zn zaj zak ze zr zs zac zad zj zi zq (zk + v3) po)) rfl ?_
  exact ok_handleCode_206 h
theorem ok_handleCode_55 {zag zy zw zai zz zc zaa zab zae : List Int32} {zv zx zb zl zg za zd zf zah zaf zp zn zaj zak ze zr zs zac zad : Int32} {c0 : ACell} {po : List ACell} : ∀ {zh zo zm zu zt : List Int32} {zj zi zq zk v1 : Int32} {d2 d3 d4 : Slot} {res : Int32} {w_o_streamBuf w_o_prefix w_o_suffix w_o_firstPix w_o_strLen : List Int32} {w_o_decWidth w_o_decNext w_o_decPrev : Int32} {w_o_decCount : Int32}, f_handleCode_55 zb zl za zd zf zh zo zm zu zt zj zi zq zk v1 = some (res, w_o_streamBuf, w_o_prefix, w_o_suffix, w_o_firstPix, w_o_strLen, w_o_decWidth, w_o_decNext, w_o_decPrev, w_o_decCount) → OEnds own_P 34 55 [qr 1, qi v1, d2, d3, d4] [] (c0 :: bk0 zag zy zw zai zz zh zc zaa zab zae zo zm zu zt zv zx zb zl zg za zd zf zah zaf zp zn zaj zak ze zr zs zac zad zj zi zq zk po) (some (.int res), (c0 :: bk0 zag zy zw zai zz w_o_streamBuf zc zaa zab zae w_o_prefix w_o_suffix w_o_firstPix w_o_strLen zv zx zb zl zg za zd zf zah zaf zp zn zaj zak ze zr zs zac zad w_o_decWidth w_o_decNext w_o_decPrev w_o_decCount po), 0, 0) := by
  intro zh zo zm zu zt zj zi zq zk v1 d2 d3 d4 res w_o_streamBuf w_o_prefix w_o_suffix w_o_firstPix w_o_strLen w_o_decWidth w_o_decNext w_o_decPrev w_o_decCount h
  unfold f_handleCode_55 at h
  refine OEnds.adv hm_34 3 (pc' := 60) (L' := [qr 1, qi v1, qu, qu, qu]) (S' := [.int zi, .int v1]) (H' := (c0 :: bk0 zag zy zw zai zz zh zc zaa zab zae zo zm zu zt zv zx zb zl zg za zd zf zah zaf zp zn zaj zak ze zr zs zac zad zj zi zq zk po)) rfl ?_
  by_cases hc108 : v1 < zi
  · simp only [if_pos hc108] at h
    refine OEnds.icmpF hm_34 rfl ((tlt hc108).2.1) ?_
    refine OEnds.adv hm_34 2 (pc' := 65) (L' := [qr 1, qi v1, qu, qu, qu]) (S' := [.int v1, .ref 1]) (H' := (c0 :: bk0 zag zy zw zai zz zh zc zaa zab zae zo zm zu zt zv zx zb zl zg za zd zf zah zaf zp zn zaj zak ze zr zs zac zad zj zi zq zk po)) rfl ?_
    obtain ⟨r100, hq109, h⟩ := bnd h
    refine OEnds.call0 hm_34 rfl rfl (by decide) rfl (as := [.ref 1, .int v1]) (rest := []) rfl rfl (ok_lengthOf hq109) ?_
    refine OEnds.adv hm_34 7 (pc' := 79) (L' := [qr 1, qi v1, qu, qi r100, qu]) (S' := [.int zb, .int (zk + r100)]) (H' := (c0 :: bk0 zag zy zw zai zz zh zc zaa zab zae zo zm zu zt zv zx zb zl zg za zd zf zah zaf zp zn zaj zak ze zr zs zac zad zj zi zq zk po)) rfl ?_
    by_cases hc110 : zb < (zk + r100)
    · simp only [if_pos hc110] at h
      refine OEnds.icmpF hm_34 rfl ((tlt hc110).2.2.2) ?_
      refine OEnds.adv hm_34 1 (pc' := 84) (L' := [qr 1, qi v1, qu, qi r100, qu]) (S' := [.int (-7)]) (H' := (c0 :: bk0 zag zy zw zai zz zh zc zaa zab zae zo zm zu zt zv zx zb zl zg za zd zf zah zaf zp zn zaj zak ze zr zs zac zad zj zi zq zk po)) rfl ?_
      cases h
      exact OEnds.iret hm_34 rfl rfl
    · simp only [if_neg hc110] at h
      refine OEnds.icmpT hm_34 rfl (q := 85) rfl ((flt hc110).2.2.2) ?_
      refine OEnds.adv hm_34 5 (pc' := 92) (L' := [qr 1, qi v1, qu, qi r100, qu]) (S' := [.int r100, .int zk, .int v1, .ref 1]) (H' := (c0 :: bk0 zag zy zw zai zz zh zc zaa zab zae zo zm zu zt zv zx zb zl zg za zd zf zah zaf zp zn zaj zak ze zr zs zac zad zj zi zq zk po)) rfl ?_
      obtain ⟨s101, hq111, h⟩ := bnd h
      refine OEnds.call0 hm_34 rfl rfl (by decide) rfl (as := [.ref 1, .int v1, .int zk, .int r100]) (rest := []) rfl rfl (ok_writeString hq111) ?_
      refine OEnds.adv hm_34 8 (pc' := 107) (L' := [qr 1, qi v1, qu, qi r100, qu]) (S' := [.int v1, .ref 1]) (H' := (c0 :: bk0 zag zy zw zai zz s101 zc zaa zab zae zo zm zu zt zv zx zb zl zg za zd zf zah zaf zp zn zaj zak ze zr zs zac zad zj zi zq (zk + r100) po)) rfl ?_
      obtain ⟨r102, hq112, h⟩ := bnd h
      refine OEnds.call0 hm_34 rfl rfl (by decide) rfl (as := [.ref 1, .int v1]) (rest := []) rfl rfl (ok_firstOf hq112) ?_
      refine OEnds.adv hm_34 2 (pc' := 206) (L' := [qr 1, qi v1, qi r102, qi r100, qu]) (S' := []) (H' := (c0 :: bk0 zag zy zw zai zz s101 zc zaa zab zae zo zm zu zt zv zx zb zl zg za zd zf zah zaf zp zn zaj zak ze zr zs zac zad zj zi zq (zk + r100) po)) rfl ?_
      exact ok_handleCode_206 h
  · simp only [if_neg hc108] at h
    refine OEnds.icmpT hm_34 rfl (q := 114) rfl ((flt hc108).2.1) ?_
    refine OEnds.adv hm_34 3 (pc' := 119) (L' := [qr 1, qi v1, qu, qu, qu]) (S' := [.int zq, .ref 1]) (H' := (c0 :: bk0 zag zy zw zai zz zh zc zaa zab zae zo zm zu zt zv zx zb zl zg za zd zf zah zaf zp zn zaj zak ze zr zs zac zad zj zi zq zk po)) rfl ?_
    obtain ⟨r96, hq113, h⟩ := bnd h
    refine OEnds.call0 hm_34 rfl rfl (by decide) rfl (as := [.ref 1, .int zq]) (rest := []) rfl rfl (ok_lengthOf hq113) ?_
    refine OEnds.adv hm_34 9 (pc' := 135) (L' := [qr 1, qi v1, qu, qi (r96 + (1 : Int32)), qu]) (S' := [.int zb, .int (zk + (r96 + (1 : Int32)))]) (H' := (c0 :: bk0 zag zy zw zai zz zh zc zaa zab zae zo zm zu zt zv zx zb zl zg za zd zf zah zaf zp zn zaj zak ze zr zs zac zad zj zi zq zk po)) rfl ?_
    by_cases hc114 : zb < (zk + (r96 + (1 : Int32)))
    · simp only [if_pos hc114] at h
      refine OEnds.icmpF hm_34 rfl ((tlt hc114).2.2.2) ?_
      refine OEnds.adv hm_34 1 (pc' := 140) (L' := [qr 1, qi v1, qu, qi (r96 + (1 : Int32)), qu]) (S' := [.int (-7)]) (H' := (c0 :: bk0 zag zy zw zai zz zh zc zaa zab zae zo zm zu zt zv zx zb zl zg za zd zf zah zaf zp zn zaj zak ze zr zs zac zad zj zi zq zk po)) rfl ?_
      cases h
      exact OEnds.iret hm_34 rfl rfl
    · simp only [if_neg hc114] at h
      refine OEnds.icmpT hm_34 rfl (q := 141) rfl ((flt hc114).2.2.2) ?_
      refine OEnds.adv hm_34 8 (pc' := 153) (L' := [qr 1, qi v1, qu, qi (r96 + (1 : Int32)), qu]) (S' := [.int ((r96 + (1 : Int32)) - (1 : Int32)), .int zk, .int zq, .ref 1]) (H' := (c0 :: bk0 zag zy zw zai zz zh zc zaa zab zae zo zm zu zt zv zx zb zl zg za zd zf zah zaf zp zn zaj zak ze zr zs zac zad zj zi zq zk po)) rfl ?_
      obtain ⟨s97, hq115, h⟩ := bnd h
      refine OEnds.call0 hm_34 rfl rfl (by decide) rfl (as := [.ref 1, .int zq, .int zk, .int ((r96 + (1 : Int32)) - (1 : Int32))]) (rest := []) rfl rfl (ok_writeString hq115) ?_
      refine OEnds.adv hm_34 3 (pc' := 161) (L' := [qr 1, qi v1, qu, qi (r96 + (1 : Int32)), qu]) (S' := [.int zq, .ref 1]) (H' := (c0 :: bk0 zag zy zw zai zz s97 zc zaa zab zae zo zm zu zt zv zx zb zl zg za zd zf zah zaf zp zn zaj zak ze zr zs zac zad zj zi zq zk po)) rfl ?_
      obtain ⟨r98, hq116, h⟩ := bnd h
      refine OEnds.call0 hm_34 rfl rfl (by decide) rfl (as := [.ref 1, .int zq]) (rest := []) rfl rfl (ok_firstOf hq116) ?_
      refine OEnds.adv hm_34 9 (pc' := 177) (L' := [qr 1, qi v1, qi r98, qi (r96 + (1 : Int32)), qi ((zk + (r96 + (1 : Int32))) - (1 : Int32))]) (S' := [.int ((zk + (r96 + (1 : Int32))) - (1 : Int32))]) (H' := (c0 :: bk0 zag zy zw zai zz s97 zc zaa zab zae zo zm zu zt zv zx zb zl zg za zd zf zah zaf zp zn zaj zak ze zr zs zac zad zj zi zq zk po)) rfl ?_
      by_cases hc117 : ((zk + (r96 + (1 : Int32))) - (1 : Int32)) < (0 : Int32)
      · simp only [if_pos hc117] at h
        refine OEnds.ifT hm_34 rfl (q := 196) rfl ((tlt hc117).1) ?_
        show OEnds own_P 34 196 [qr 1, qi v1, qi r98, qi (r96 + (1 : Int32)), qi ((zk + (r96 + (1 : Int32))) - (1 : Int32))] [] (c0 :: bk0 zag zy zw zai zz s97 zc zaa zab zae zo zm zu zt zv zx zb zl zg za zd zf zah zaf zp zn zaj zak ze zr zs zac zad zj zi zq zk po) _
        exact ok_handleCode_196 h
      · simp only [if_neg hc117] at h
        refine OEnds.ifF hm_34 rfl ((flt hc117).1) ?_
        refine OEnds.adv hm_34 2 (pc' := 185) (L' := [qr 1, qi v1, qi r98, qi (r96 + (1 : Int32)), qi ((zk + (r96 + (1 : Int32))) - (1 : Int32))]) (S' := [.int 256, .int ((zk + (r96 + (1 : Int32))) - (1 : Int32))]) (H' := (c0 :: bk0 zag zy zw zai zz s97 zc zaa zab zae zo zm zu zt zv zx zb zl zg za zd zf zah zaf zp zn zaj zak ze zr zs zac zad zj zi zq zk po)) rfl ?_
        by_cases hc118 : ((zk + (r96 + (1 : Int32))) - (1 : Int32)) < (256 : Int32)
        · simp only [if_pos hc118] at h
          refine OEnds.icmpF hm_34 rfl ((tlt hc118).2.1) ?_
          refine OEnds.adv hm_34 4 (pc' := 195) (L' := [qr 1, qi v1, qi r98, qi (r96 + (1 : Int32)), qi ((zk + (r96 + (1 : Int32))) - (1 : Int32))]) (S' := [.int r98, .int ((zk + (r96 + (1 : Int32))) - (1 : Int32)), .ref 7]) (H' := (c0 :: bk0 zag zy zw zai zz s97 zc zaa zab zae zo zm zu zt zv zx zb zl zg za zd zf zah zaf zp zn zaj zak ze zr zs zac zad zj zi zq zk po)) rfl ?_
          obtain ⟨A99, hA99, h⟩ := bnd h
          refine OEnds.plain hm_34 rfl rfl (x_iastore rfl (Nat.le_of_ble_eq_true rfl) hA99) ?_
          show OEnds own_P 34 196 [qr 1, qi v1, qi r98, qi (r96 + (1 : Int32)), qi ((zk + (r96 + (1 : Int32))) - (1 : Int32))] [] (c0 :: bk0 zag zy zw zai zz A99 zc zaa zab zae zo zm zu zt zv zx zb zl zg za zd zf zah zaf zp zn zaj zak ze zr zs zac zad zj zi zq zk po) _
          exact ok_handleCode_196 h
        · simp only [if_neg hc118] at h
          refine OEnds.icmpT hm_34 rfl (q := 196) rfl ((flt hc118).2.1) ?_
          show OEnds own_P 34 196 [qr 1, qi v1, qi r98, qi (r96 + (1 : Int32)), qi ((zk + (r96 + (1 : Int32))) - (1 : Int32))] [] (c0 :: bk0 zag zy zw zai zz s97 zc zaa zab zae zo zm zu zt zv zx zb zl zg za zd zf zah zaf zp zn zaj zak ze zr zs zac zad zj zi zq zk po) _
          exact ok_handleCode_196 h
theorem ok_handleCode_36 {zag zy zw zai zz zc zaa zab zae : List Int32} {zv zx zb zl zg za zd zf zah zaf zp zn zaj zak ze zr zs zac zad : Int32} {c0 : ACell} {po : List ACell} : ∀ {zh zo zm zu zt : List Int32} {zj zi zq zk v1 : Int32} {d2 d3 d4 : Slot} {res : Int32} {w_o_streamBuf w_o_prefix w_o_suffix w_o_firstPix w_o_strLen : List Int32} {w_o_decWidth w_o_decNext w_o_decPrev : Int32} {w_o_decCount : Int32}, f_handleCode_36 zb zl za zd zf zh zo zm zu zt zj zi zq zk v1 = some (res, w_o_streamBuf, w_o_prefix, w_o_suffix, w_o_firstPix, w_o_strLen, w_o_decWidth, w_o_decNext, w_o_decPrev, w_o_decCount) → OEnds own_P 34 36 [qr 1, qi v1, d2, d3, d4] [] (c0 :: bk0 zag zy zw zai zz zh zc zaa zab zae zo zm zu zt zv zx zb zl zg za zd zf zah zaf zp zn zaj zak ze zr zs zac zad zj zi zq zk po) (some (.int res), (c0 :: bk0 zag zy zw zai zz w_o_streamBuf zc zaa zab zae w_o_prefix w_o_suffix w_o_firstPix w_o_strLen zv zx zb zl zg za zd zf zah zaf zp zn zaj zak ze zr zs zac zad w_o_decWidth w_o_decNext w_o_decPrev w_o_decCount po), 0, 0) := by
  intro zh zo zm zu zt zj zi zq zk v1 d2 d3 d4 res w_o_streamBuf w_o_prefix w_o_suffix w_o_firstPix w_o_strLen w_o_decWidth w_o_decNext w_o_decPrev w_o_decCount h
  unfold f_handleCode_36 at h
  refine OEnds.adv hm_34 3 (pc' := 41) (L' := [qr 1, qi v1, qu, qu, qu]) (S' := [.int za, .int v1]) (H' := (c0 :: bk0 zag zy zw zai zz zh zc zaa zab zae zo zm zu zt zv zx zb zl zg za zd zf zah zaf zp zn zaj zak ze zr zs zac zad zj zi zq zk po)) rfl ?_
  by_cases hc119 : v1 < za
  · simp only [if_pos hc119] at h
    refine OEnds.icmpF hm_34 rfl ((tlt hc119).2.1) ?_
    refine OEnds.adv hm_34 3 (pc' := 49) (L' := [qr 1, qi v1, qu, qu, qu]) (S' := [.int zl, .int v1]) (H' := (c0 :: bk0 zag zy zw zai zz zh zc zaa zab zae zo zm zu zt zv zx zb zl zg za zd zf zah zaf zp zn zaj zak ze zr zs zac zad zj zi zq zk po)) rfl ?_
    by_cases hc120 : v1 < zl
    · simp only [if_pos hc120] at h
      refine OEnds.icmpT hm_34 rfl (q := 55) rfl ((tlt hc120).1) ?_
      show OEnds own_P 34 55 [qr 1, qi v1, qu, qu, qu] [] (c0 :: bk0 zag zy zw zai zz zh zc zaa zab zae zo zm zu zt zv zx zb zl zg za zd zf zah zaf zp zn zaj zak ze zr zs zac zad zj zi zq zk po) _
      exact ok_handleCode_55 h
    · simp only [if_neg hc120] at h
      refine OEnds.icmpF hm_34 rfl ((flt hc120).1) ?_
      refine OEnds.adv hm_34 1 (pc' := 54) (L' := [qr 1, qi v1, qu, qu, qu]) (S' := [.int (-6)]) (H' := (c0 :: bk0 zag zy zw zai zz zh zc zaa zab zae zo zm zu zt zv zx zb zl zg za zd zf zah zaf zp zn zaj zak ze zr zs zac zad zj zi zq zk po)) rfl ?_
      cases h
      exact OEnds.iret hm_34 rfl rfl
  · simp only [if_neg hc119] at h
    refine OEnds.icmpT hm_34 rfl (q := 55) rfl ((flt hc119).2.1) ?_
    show OEnds own_P 34 55 [qr 1, qi v1, qu, qu, qu] [] (c0 :: bk0 zag zy zw zai zz zh zc zaa zab zae zo zm zu zt zv zx zb zl zg za zd zf zah zaf zp zn zaj zak ze zr zs zac zad zj zi zq zk po) _
    exact ok_handleCode_55 h
theorem ok_handleCode_18 {zag zy zw zai zz zc zaa zab zae : List Int32} {zv zx zb zl zg za zd zf zah zaf zp zn zaj zak ze zr zs zac zad : Int32} {c0 : ACell} {po : List ACell} : ∀ {zh zo zm zu zt : List Int32} {zj zi zq zk v1 : Int32} {d2 d3 d4 : Slot} {res : Int32} {w_o_streamBuf w_o_prefix w_o_suffix w_o_firstPix w_o_strLen : List Int32} {w_o_decWidth w_o_decNext w_o_decPrev : Int32} {w_o_decCount : Int32}, f_handleCode_18 zb zl za zd zf zh zo zm zu zt zj zi zq zk v1 = some (res, w_o_streamBuf, w_o_prefix, w_o_suffix, w_o_firstPix, w_o_strLen, w_o_decWidth, w_o_decNext, w_o_decPrev, w_o_decCount) → OEnds own_P 34 18 [qr 1, qi v1, d2, d3, d4] [] (c0 :: bk0 zag zy zw zai zz zh zc zaa zab zae zo zm zu zt zv zx zb zl zg za zd zf zah zaf zp zn zaj zak ze zr zs zac zad zj zi zq zk po) (some (.int res), (c0 :: bk0 zag zy zw zai zz w_o_streamBuf zc zaa zab zae w_o_prefix w_o_suffix w_o_firstPix w_o_strLen zv zx zb zl zg za zd zf zah zaf zp zn zaj zak ze zr zs zac zad w_o_decWidth w_o_decNext w_o_decPrev w_o_decCount po), 0, 0) := by
  intro zh zo zm zu zt zj zi zq zk v1 d2 d3 d4 res w_o_streamBuf w_o_prefix w_o_suffix w_o_firstPix w_o_strLen w_o_decWidth w_o_decNext w_o_decPrev w_o_decCount h
  unfold f_handleCode_18 at h
  refine OEnds.adv hm_34 2 (pc' := 22) (L' := [qr 1, qi v1, qu, qu, qu]) (S' := [.int zq]) (H' := (c0 :: bk0 zag zy zw zai zz zh zc zaa zab zae zo zm zu zt zv zx zb zl zg za zd zf zah zaf zp zn zaj zak ze zr zs zac zad zj zi zq zk po)) rfl ?_
  by_cases hc121 : zq < (0 : Int32)
  · simp only [if_pos hc121] at h
    refine OEnds.ifT hm_34 rfl (q := 36) rfl ((tlt hc121).1) ?_
    show OEnds own_P 34 36 [qr 1, qi v1, qu, qu, qu] [] (c0 :: bk0 zag zy zw zai zz zh zc zaa zab zae zo zm zu zt zv zx zb zl zg za zd zf zah zaf zp zn zaj zak ze zr zs zac zad zj zi zq zk po) _
    exact ok_handleCode_36 h
  · simp only [if_neg hc121] at h
    refine OEnds.ifF hm_34 rfl ((flt hc121).1) ?_
    refine OEnds.adv hm_34 3 (pc' := 30) (L' := [qr 1, qi v1, qu, qu, qu]) (S' := [.int zi, .int v1]) (H' := (c0 :: bk0 zag zy zw zai zz zh zc zaa zab zae zo zm zu zt zv zx zb zl zg za zd zf zah zaf zp zn zaj zak ze zr zs zac zad zj zi zq zk po)) rfl ?_
    by_cases hc122 : zi < v1
    · simp only [if_pos hc122] at h
      refine OEnds.icmpF hm_34 rfl ((tlt hc122).2.2.2) ?_
      refine OEnds.adv hm_34 1 (pc' := 35) (L' := [qr 1, qi v1, qu, qu, qu]) (S' := [.int (-5)]) (H' := (c0 :: bk0 zag zy zw zai zz zh zc zaa zab zae zo zm zu zt zv zx zb zl zg za zd zf zah zaf zp zn zaj zak ze zr zs zac zad zj zi zq zk po)) rfl ?_
      cases h
      exact OEnds.iret hm_34 rfl rfl
    · simp only [if_neg hc122] at h
      refine OEnds.icmpT hm_34 rfl (q := 36) rfl ((flt hc122).2.2.2) ?_
      show OEnds own_P 34 36 [qr 1, qi v1, qu, qu, qu] [] (c0 :: bk0 zag zy zw zai zz zh zc zaa zab zae zo zm zu zt zv zx zb zl zg za zd zf zah zaf zp zn zaj zak ze zr zs zac zad zj zi zq zk po) _
      exact ok_handleCode_36 h
theorem ok_handleCode {zag zy zw zai zz zc zaa zab zae : List Int32} {zv zx zb zl zg za zd zf zah zaf zp zn zaj zak ze zr zs zac zad : Int32} {c0 : ACell} {po : List ACell} {zh zo zm zu zt : List Int32} {zj zi zq zk v1 res : Int32} {w_o_streamBuf w_o_prefix w_o_suffix w_o_firstPix w_o_strLen : List Int32} {w_o_decWidth w_o_decNext w_o_decPrev w_o_decCount : Int32} (h : f_handleCode zb zl za zd zf zh zo zm zu zt zj zi zq zk v1 = some (res, w_o_streamBuf, w_o_prefix, w_o_suffix, w_o_firstPix, w_o_strLen, w_o_decWidth, w_o_decNext, w_o_decPrev, w_o_decCount)) : OEnds own_P 34 0 [qr 1, qi v1, qu, qu, qu] [] (c0 :: bk0 zag zy zw zai zz zh zc zaa zab zae zo zm zu zt zv zx zb zl zg za zd zf zah zaf zp zn zaj zak ze zr zs zac zad zj zi zq zk po) (some (.int res), (c0 :: bk0 zag zy zw zai zz w_o_streamBuf zc zaa zab zae w_o_prefix w_o_suffix w_o_firstPix w_o_strLen zv zx zb zl zg za zd zf zah zaf zp zn zaj zak ze zr zs zac zad w_o_decWidth w_o_decNext w_o_decPrev w_o_decCount po), 0, 0) := by
  unfold f_handleCode at h
  refine OEnds.adv hm_34 2 (pc' := 4) (L' := [qr 1, qi v1, qu, qu, qu]) (S' := [.int zq]) (H' := (c0 :: bk0 zag zy zw zai zz zh zc zaa zab zae zo zm zu zt zv zx zb zl zg za zd zf zah zaf zp zn zaj zak ze zr zs zac zad zj zi zq zk po)) rfl ?_
  by_cases hc123 : zq < (0 : Int32)
  · simp only [if_pos hc123] at h
    refine OEnds.ifF hm_34 rfl ((tlt hc123).2.1) ?_
    refine OEnds.adv hm_34 3 (pc' := 12) (L' := [qr 1, qi v1, qu, qu, qu]) (S' := [.int za, .int v1]) (H' := (c0 :: bk0 zag zy zw zai zz zh zc zaa zab zae zo zm zu zt zv zx zb zl zg za zd zf zah zaf zp zn zaj zak ze zr zs zac zad zj zi zq zk po)) rfl ?_
    by_cases hc124 : v1 < za
    · simp only [if_pos hc124] at h
      refine OEnds.icmpT hm_34 rfl (q := 18) rfl ((tlt hc124).1) ?_
      show OEnds own_P 34 18 [qr 1, qi v1, qu, qu, qu] [] (c0 :: bk0 zag zy zw zai zz zh zc zaa zab zae zo zm zu zt zv zx zb zl zg za zd zf zah zaf zp zn zaj zak ze zr zs zac zad zj zi zq zk po) _
      exact ok_handleCode_18 h
    · simp only [if_neg hc124] at h
      refine OEnds.icmpF hm_34 rfl ((flt hc124).1) ?_
      refine OEnds.adv hm_34 1 (pc' := 17) (L' := [qr 1, qi v1, qu, qu, qu]) (S' := [.int (-5)]) (H' := (c0 :: bk0 zag zy zw zai zz zh zc zaa zab zae zo zm zu zt zv zx zb zl zg za zd zf zah zaf zp zn zaj zak ze zr zs zac zad zj zi zq zk po)) rfl ?_
      cases h
      exact OEnds.iret hm_34 rfl rfl
  · simp only [if_neg hc123] at h
    refine OEnds.ifT hm_34 rfl (q := 18) rfl ((flt hc123).2.1) ?_
    show OEnds own_P 34 18 [qr 1, qi v1, qu, qu, qu] [] (c0 :: bk0 zag zy zw zai zz zh zc zaa zab zae zo zm zu zt zv zx zb zl zg za zd zf zah zaf zp zn zaj zak ze zr zs zac zad zj zi zq zk po) _
    exact ok_handleCode_18 h
theorem ok_decompress_45 {zag zy zw zai zz zc zaa zab zae : List Int32} {zv zx zb zl zg za zd zf zah zaf zp zn zaj zak ze zr zs zac : Int32} {c0 : ACell} {po : List ACell} : ∀ (n : Nat), ∀ {zh zo zm zu zt : List Int32} {zad zj zi zq zk v1 v2 : Int32} {d3 d4 : Slot} {res : Int32} {w_o_streamBuf w_o_prefix w_o_suffix w_o_firstPix w_o_strLen : List Int32} {w_o_readPos w_o_decWidth w_o_decNext w_o_decPrev : Int32} {w_o_decCount : Int32}, f_decompress_45 zc zb zl zg za zd zf zac n zh zo zm zu zt zad zj zi zq zk v1 v2 = some (res, w_o_streamBuf, w_o_prefix, w_o_suffix, w_o_firstPix, w_o_strLen, w_o_readPos, w_o_decWidth, w_o_decNext, w_o_decPrev, w_o_decCount) → OEnds own_P 32 45 [qr 1, qi v1, qi v2, d3, d4] [] (c0 :: bk0 zag zy zw zai zz zh zc zaa zab zae zo zm zu zt zv zx zb zl zg za zd zf zah zaf zp zn zaj zak ze zr zs zac zad zj zi zq zk po) (some (.int res), (c0 :: bk0 zag zy zw zai zz w_o_streamBuf zc zaa zab zae w_o_prefix w_o_suffix w_o_firstPix w_o_strLen zv zx zb zl zg za zd zf zah zaf zp zn zaj zak ze zr zs zac w_o_readPos w_o_decWidth w_o_decNext w_o_decPrev w_o_decCount po), 0, 0) := by
  intro n
  induction n with
  | zero => intro zh zo zm zu zt zad zj zi zq zk v1 v2 d3 d4 res w_o_streamBuf w_o_prefix w_o_suffix w_o_firstPix w_o_strLen w_o_readPos w_o_decWidth w_o_decNext w_o_decPrev w_o_decCount h; cases h
  | succ n ih =>
    intro zh zo zm zu zt zad zj zi zq zk v1 v2 d3 d4 res w_o_streamBuf w_o_prefix w_o_suffix w_o_firstPix w_o_strLen w_o_readPos w_o_decWidth w_o_decNext w_o_decPrev w_o_decCount h
    unfold f_decompress_45 at h
    refine OEnds.adv hm_32 2 (pc' := 49) (L' := [qr 1, qi v1, qi v2, qu, qu]) (S' := [.int 5000, .int v2]) (H' := (c0 :: bk0 zag zy zw zai zz zh zc zaa zab zae zo zm zu zt zv zx zb zl zg za zd zf zah zaf zp zn zaj zak ze zr zs zac zad zj zi zq zk po)) rfl ?_
    by_cases hc125 : v2 < (5000 : Int32)
    · simp only [if_pos hc125] at h
      refine OEnds.icmpF hm_32 rfl ((tlt hc125).2.1) ?_
      refine OEnds.adv hm_32 6 (pc' := 62) (L' := [qr 1, qi v1, qi v2, qu, qu]) (S' := [.int zj, .int (v1 - zad)]) (H' := (c0 :: bk0 zag zy zw zai zz zh zc zaa zab zae zo zm zu zt zv zx zb zl zg za zd zf zah zaf zp zn zaj zak ze zr zs zac zad zj zi zq zk po)) rfl ?_
      by_cases hc126 : (v1 - zad) < zj
      · simp only [if_pos hc126] at h
        refine OEnds.icmpF hm_32 rfl ((tlt hc126).2.1) ?_
        refine OEnds.adv hm_32 1 (pc' := 67) (L' := [qr 1, qi v1, qi v2, qu, qu]) (S' := [.int (-4)]) (H' := (c0 :: bk0 zag zy zw zai zz zh zc zaa zab zae zo zm zu zt zv zx zb zl zg za zd zf zah zaf zp zn zaj zak ze zr zs zac zad zj zi zq zk po)) rfl ?_
        cases h
        exact OEnds.iret hm_32 rfl rfl
      · simp only [if_neg hc126] at h
        refine OEnds.icmpT hm_32 rfl (q := 68) rfl ((flt hc126).2.1) ?_
        refine OEnds.adv hm_32 1 (pc' := 69) (L' := [qr 1, qi v1, qi v2, qu, qu]) (S' := [.ref 1]) (H' := (c0 :: bk0 zag zy zw zai zz zh zc zaa zab zae zo zm zu zt zv zx zb zl zg za zd zf zah zaf zp zn zaj zak ze zr zs zac zad zj zi zq zk po)) rfl ?_
        obtain ⟨⟨r109, s110⟩, hq127, h⟩ := bnd h
        refine OEnds.call0 hm_32 rfl rfl (by decide) rfl (as := [.ref 1]) (rest := []) rfl rfl (ok_readCode hq127) ?_
        refine OEnds.adv hm_32 4 (pc' := 78) (L' := [qr 1, qi v1, qi v2, qi r109, qu]) (S' := [.int za, .int r109]) (H' := (c0 :: bk0 zag zy zw zai zz zh zc zaa zab zae zo zm zu zt zv zx zb zl zg za zd zf zah zaf zp zn zaj zak ze zr zs zac s110 zj zi zq zk po)) rfl ?_
        by_cases hc128 : r109 = za
        · simp only [if_pos hc128] at h
          refine OEnds.icmpF hm_32 rfl ((teq hc128).2) ?_
          refine OEnds.adv hm_32 18 (pc' := 45) (L' := [qr 1, qi v1, qi (v2 + (1 : Int32)), qi r109, qu]) (S' := []) (H' := (c0 :: bk0 zag zy zw zai zz zh zc zaa zab zae zo zm zu zt zv zx zb zl zg za zd zf zah zaf zp zn zaj zak ze zr zs zac s110 (zg + (1 : Int32)) (za + (2 : Int32)) (-1) zk po)) rfl ?_
          exact ih h
        · simp only [if_neg hc128] at h
          refine OEnds.icmpT hm_32 rfl (q := 109) rfl ((feq hc128).2) ?_
          refine OEnds.adv hm_32 5 (pc' := 116) (L' := [qr 1, qi v1, qi v2, qi r109, qu]) (S' := [.int (za + (1 : Int32)), .int r109]) (H' := (c0 :: bk0 zag zy zw zai zz zh zc zaa zab zae zo zm zu zt zv zx zb zl zg za zd zf zah zaf zp zn zaj zak ze zr zs zac s110 zj zi zq zk po)) rfl ?_
          by_cases hc129 : r109 = (za + (1 : Int32))
          · simp only [if_pos hc129] at h
            refine OEnds.icmpF hm_32 rfl ((teq hc129).2) ?_
            refine OEnds.adv hm_32 1 (pc' := 120) (L' := [qr 1, qi v1, qi v2, qi r109, qu]) (S' := [.int 0]) (H' := (c0 :: bk0 zag zy zw zai zz zh zc zaa zab zae zo zm zu zt zv zx zb zl zg za zd zf zah zaf zp zn zaj zak ze zr zs zac s110 zj zi zq zk po)) rfl ?_
            cases h
            exact OEnds.iret hm_32 rfl rfl
          · simp only [if_neg hc129] at h
            refine OEnds.icmpT hm_32 rfl (q := 121) rfl ((feq hc129).2) ?_
            refine OEnds.adv hm_32 2 (pc' := 123) (L' := [qr 1, qi v1, qi v2, qi r109, qu]) (S' := [.int r109, .ref 1]) (H' := (c0 :: bk0 zag zy zw zai zz zh zc zaa zab zae zo zm zu zt zv zx zb zl zg za zd zf zah zaf zp zn zaj zak ze zr zs zac s110 zj zi zq zk po)) rfl ?_
            obtain ⟨⟨r111, s112, s113, s114, s115, s116, s117, s118, s119, s120⟩, hq130, h⟩ := bnd h
            refine OEnds.call0 hm_32 rfl rfl (by decide) rfl (as := [.ref 1, .int r109]) (rest := []) rfl rfl (ok_handleCode hq130) ?_
            refine OEnds.adv hm_32 2 (pc' := 130) (L' := [qr 1, qi v1, qi v2, qi r109, qi r111]) (S' := [.int r111]) (H' := (c0 :: bk0 zag zy zw zai zz s112 zc zaa zab zae s113 s114 s115 s116 zv zx zb zl zg za zd zf zah zaf zp zn zaj zak ze zr zs zac s110 s117 s118 s119 s120 po)) rfl ?_
            by_cases hc131 : r111 = (0 : Int32)
            · simp only [if_pos hc131] at h
              refine OEnds.ifT hm_32 rfl (q := 136) rfl ((teq hc131).1) ?_
              refine OEnds.adv hm_32 2 (pc' := 45) (L' := [qr 1, qi v1, qi (v2 + (1 : Int32)), qi r109, qi r111]) (S' := []) (H' := (c0 :: bk0 zag zy zw zai zz s112 zc zaa zab zae s113 s114 s115 s116 zv zx zb zl zg za zd zf zah zaf zp zn zaj zak ze zr zs zac s110 s117 s118 s119 s120 po)) rfl ?_
              exact ih h
            · simp only [if_neg hc131] at h
              refine OEnds.ifF hm_32 rfl ((feq hc131).1) ?_
              refine OEnds.adv hm_32 1 (pc' := 135) (L' := [qr 1, qi v1, qi v2, qi r109, qi r111]) (S' := [.int r111]) (H' := (c0 :: bk0 zag zy zw zai zz s112 zc zaa zab zae s113 s114 s115 s116 zv zx zb zl zg za zd zf zah zaf zp zn zaj zak ze zr zs zac s110 s117 s118 s119 s120 po)) rfl ?_
              cases h
              exact OEnds.iret hm_32 rfl rfl
    · simp only [if_neg hc125] at h
      refine OEnds.icmpT hm_32 rfl (q := 142) rfl ((flt hc125).2.1) ?_
      refine OEnds.adv hm_32 1 (pc' := 144) (L' := [qr 1, qi v1, qi v2, qu, qu]) (S' := [.int (-4)]) (H' := (c0 :: bk0 zag zy zw zai zz zh zc zaa zab zae zo zm zu zt zv zx zb zl zg za zd zf zah zaf zp zn zaj zak ze zr zs zac zad zj zi zq zk po)) rfl ?_
      cases h
      exact OEnds.iret hm_32 rfl rfl
theorem ok_decompress {zag zy zw zai zz zc zaa zab zae : List Int32} {zv zx zb zl zg za zd zf zah zaf zp zn zaj zak ze zr zs zac : Int32} {c0 : ACell} {po : List ACell} {zh zo zm zu zt : List Int32} {zad zj zi zq zk res : Int32} {w_o_streamBuf w_o_prefix w_o_suffix w_o_firstPix w_o_strLen : List Int32} {w_o_readPos w_o_decWidth w_o_decNext w_o_decPrev w_o_decCount : Int32} (h : f_decompress zc zb zl zg za zd zf zac zh zo zm zu zt zad zj zi zq zk = some (res, w_o_streamBuf, w_o_prefix, w_o_suffix, w_o_firstPix, w_o_strLen, w_o_readPos, w_o_decWidth, w_o_decNext, w_o_decPrev, w_o_decCount)) : OEnds own_P 32 0 [qr 1, qu, qu, qu, qu] [] (c0 :: bk0 zag zy zw zai zz zh zc zaa zab zae zo zm zu zt zv zx zb zl zg za zd zf zah zaf zp zn zaj zak ze zr zs zac zad zj zi zq zk po) (some (.int res), (c0 :: bk0 zag zy zw zai zz w_o_streamBuf zc zaa zab zae w_o_prefix w_o_suffix w_o_firstPix w_o_strLen zv zx zb zl zg za zd zf zah zaf zp zn zaj zak ze zr zs zac w_o_readPos w_o_decWidth w_o_decNext w_o_decPrev w_o_decCount po), 0, 0) := by
  unfold f_decompress at h
  refine OEnds.adv hm_32 28 (pc' := 45) (L' := [qr 1, qi (zac * (8 : Int32)), qi 0, qu, qu]) (S' := []) (H' := (c0 :: bk0 zag zy zw zai zz zh zc zaa zab zae zo zm zu zt zv zx zb zl zg za zd zf zah zaf zp zn zaj zak ze zr zs zac 0 (zg + (1 : Int32)) (za + (2 : Int32)) (-1) 0 po)) rfl ?_
  exact ok_decompress_45 100000 h
theorem ok_decodeSteps {zag zy zw zai zz zaa zab zae : List Int32} {zv zx zb zl zg za zd zf zah zaf zp zn zaj zak ze zr zs : Int32} {c0 : ACell} {po : List ACell} {zh zc zo zm zu zt : List Int32} {zac zad zj zi zq zk res : Int32} {w_o_streamBuf w_o_data w_o_prefix w_o_suffix w_o_firstPix w_o_strLen : List Int32} {w_o_dataLen w_o_readPos w_o_decWidth w_o_decNext w_o_decPrev w_o_decCount : Int32} (h : f_decodeSteps zw zb zl zg za zd zf zn zh zc zo zm zu zt zac zad zj zi zq zk = some (res, w_o_streamBuf, w_o_data, w_o_prefix, w_o_suffix, w_o_firstPix, w_o_strLen, w_o_dataLen, w_o_readPos, w_o_decWidth, w_o_decNext, w_o_decPrev, w_o_decCount)) : OEnds own_P 26 0 [qr 1, qu] [] (c0 :: bk0 zag zy zw zai zz zh zc zaa zab zae zo zm zu zt zv zx zb zl zg za zd zf zah zaf zp zn zaj zak ze zr zs zac zad zj zi zq zk po) (some (.int res), (c0 :: bk0 zag zy zw zai zz w_o_streamBuf w_o_data zaa zab zae w_o_prefix w_o_suffix w_o_firstPix w_o_strLen zv zx zb zl zg za zd zf zah zaf zp zn zaj zak ze zr zs w_o_dataLen w_o_readPos w_o_decWidth w_o_decNext w_o_decPrev w_o_decCount po), 0, 0) := by
  unfold f_decodeSteps at h
  refine OEnds.adv hm_26 2 (pc' := 4) (L' := [qr 1, qu]) (S' := [.int zn]) (H' := (c0 :: bk0 zag zy zw zai zz zh zc zaa zab zae zo zm zu zt zv zx zb zl zg za zd zf zah zaf zp zn zaj zak ze zr zs zac zad zj zi zq zk po)) rfl ?_
  by_cases hc132 : zn = (0 : Int32)
  · simp only [if_pos hc132] at h
    refine OEnds.ifF hm_26 rfl ((teq hc132).2) ?_
    refine OEnds.adv hm_26 1 (pc' := 8) (L' := [qr 1, qu]) (S' := [.int (-1)]) (H' := (c0 :: bk0 zag zy zw zai zz zh zc zaa zab zae zo zm zu zt zv zx zb zl zg za zd zf zah zaf zp zn zaj zak ze zr zs zac zad zj zi zq zk po)) rfl ?_
    cases h
    exact OEnds.iret hm_26 rfl rfl
  · simp only [if_neg hc132] at h
    refine OEnds.ifT hm_26 rfl (q := 9) rfl ((feq hc132).2) ?_
    refine OEnds.adv hm_26 3 (pc' := 14) (L' := [qr 1, qu]) (S' := [.int 0, .ref 4]) (H' := (c0 :: bk0 zag zy zw zai zz zh zc zaa zab zae zo zm zu zt zv zx zb zl zg za zd zf zah zaf zp zn zaj zak ze zr zs zac zad zj zi zq zk po)) rfl ?_
    obtain ⟨x121, hx121, h⟩ := bnd h
    refine OEnds.plain hm_26 rfl rfl (x_iaload rfl hx121) ?_
    refine OEnds.adv hm_26 2 (pc' := 19) (L' := [qr 1, qu]) (S' := [.int zg, .int x121]) (H' := (c0 :: bk0 zag zy zw zai zz zh zc zaa zab zae zo zm zu zt zv zx zb zl zg za zd zf zah zaf zp zn zaj zak ze zr zs zac zad zj zi zq zk po)) rfl ?_
    by_cases hc133 : x121 = zg
    · simp only [if_pos hc133] at h
      refine OEnds.icmpT hm_26 rfl (q := 25) rfl ((teq hc133).1) ?_
      refine OEnds.adv hm_26 1 (pc' := 26) (L' := [qr 1, qu]) (S' := [.ref 1]) (H' := (c0 :: bk0 zag zy zw zai zz zh zc zaa zab zae zo zm zu zt zv zx zb zl zg za zd zf zah zaf zp zn zaj zak ze zr zs zac zad zj zi zq zk po)) rfl ?_
      obtain ⟨⟨r122, s123, s124⟩, hq134, h⟩ := bnd h
      refine OEnds.call0 hm_26 rfl rfl (by decide) rfl (as := [.ref 1]) (rest := []) rfl rfl (ok_gatherBlocks hq134) ?_
      show OEnds own_P 26 29 [qr 1, qu] [.int r122] (c0 :: bk0 zag zy zw zai zz zh s123 zaa zab zae zo zm zu zt zv zx zb zl zg za zd zf zah zaf zp zn zaj zak ze zr zs s124 zad zj zi zq zk po) _
      by_cases hc135 : r122 = (0 : Int32)
      · simp only [if_pos hc135] at h
        refine OEnds.ifF hm_26 rfl ((teq hc135).2) ?_
        refine OEnds.adv hm_26 1 (pc' := 34) (L' := [qr 1, qu]) (S' := [.int (-3)]) (H' := (c0 :: bk0 zag zy zw zai zz zh s123 zaa zab zae zo zm zu zt zv zx zb zl zg za zd zf zah zaf zp zn zaj zak ze zr zs s124 zad zj zi zq zk po)) rfl ?_
        cases h
        exact OEnds.iret hm_26 rfl rfl
      · simp only [if_neg hc135] at h
        refine OEnds.ifT hm_26 rfl (q := 35) rfl ((feq hc135).2) ?_
        refine OEnds.adv hm_26 1 (pc' := 36) (L' := [qr 1, qu]) (S' := [.ref 1]) (H' := (c0 :: bk0 zag zy zw zai zz zh s123 zaa zab zae zo zm zu zt zv zx zb zl zg za zd zf zah zaf zp zn zaj zak ze zr zs s124 zad zj zi zq zk po)) rfl ?_
        obtain ⟨⟨r125, s126, s127, s128, s129, s130, s131, s132, s133, s134, s135⟩, hq136, h⟩ := bnd h
        refine OEnds.call0 hm_26 rfl rfl (by decide) rfl (as := [.ref 1]) (rest := []) rfl rfl (ok_decompress hq136) ?_
        refine OEnds.adv hm_26 2 (pc' := 41) (L' := [qr 1, qi r125]) (S' := [.int r125]) (H' := (c0 :: bk0 zag zy zw zai zz s126 s123 zaa zab zae s127 s128 s129 s130 zv zx zb zl zg za zd zf zah zaf zp zn zaj zak ze zr zs s124 s131 s132 s133 s134 s135 po)) rfl ?_
        by_cases hc137 : r125 = (0 : Int32)
        · simp only [if_pos hc137] at h
          refine OEnds.ifT hm_26 rfl (q := 46) rfl ((teq hc137).1) ?_
          refine OEnds.adv hm_26 4 (pc' := 54) (L' := [qr 1, qi r125]) (S' := [.int zb, .int s135]) (H' := (c0 :: bk0 zag zy zw zai zz s126 s123 zaa zab zae s127 s128 s129 s130 zv zx zb zl zg za zd zf zah zaf zp zn zaj zak ze zr zs s124 s131 s132 s133 s134 s135 po)) rfl ?_
          by_cases hc138 : s135 < zb
          · simp only [if_pos hc138] at h
            refine OEnds.icmpF hm_26 rfl ((tlt hc138).2.1) ?_
            refine OEnds.adv hm_26 1 (pc' := 59) (L' := [qr 1, qi r125]) (S' := [.int (-8)]) (H' := (c0 :: bk0 zag zy zw zai zz s126 s123 zaa zab zae s127 s128 s129 s130 zv zx zb zl zg za zd zf zah zaf zp zn zaj zak ze zr zs s124 s131 s132 s133 s134 s135 po)) rfl ?_
            cases h
            exact OEnds.iret hm_26 rfl rfl
          · simp only [if_neg hc138] at h
            refine OEnds.icmpT hm_26 rfl (q := 60) rfl ((flt hc138).2.1) ?_
            refine OEnds.adv hm_26 1 (pc' := 61) (L' := [qr 1, qi r125]) (S' := [.int 0]) (H' := (c0 :: bk0 zag zy zw zai zz s126 s123 zaa zab zae s127 s128 s129 s130 zv zx zb zl zg za zd zf zah zaf zp zn zaj zak ze zr zs s124 s131 s132 s133 s134 s135 po)) rfl ?_
            cases h
            exact OEnds.iret hm_26 rfl rfl
        · simp only [if_neg hc137] at h
          refine OEnds.ifF hm_26 rfl ((feq hc137).1) ?_
          refine OEnds.adv hm_26 1 (pc' := 45) (L' := [qr 1, qi r125]) (S' := [.int r125]) (H' := (c0 :: bk0 zag zy zw zai zz s126 s123 zaa zab zae s127 s128 s129 s130 zv zx zb zl zg za zd zf zah zaf zp zn zaj zak ze zr zs s124 s131 s132 s133 s134 s135 po)) rfl ?_
          cases h
          exact OEnds.iret hm_26 rfl rfl
    · simp only [if_neg hc133] at h
      refine OEnds.icmpF hm_26 rfl ((feq hc133).1) ?_
      refine OEnds.adv hm_26 1 (pc' := 24) (L' := [qr 1, qu]) (S' := [.int (-2)]) (H' := (c0 :: bk0 zag zy zw zai zz zh zc zaa zab zae zo zm zu zt zv zx zb zl zg za zd zf zah zaf zp zn zaj zak ze zr zs zac zad zj zi zq zk po)) rfl ?_
      cases h
      exact OEnds.iret hm_26 rfl rfl
theorem ok_decode_63 {zag zy zw zaa zab zae : List Int32} {zv zx zb zl zg za zd zf zah zaf zp zn ze zr zs : Int32} {c0 : ACell} {po : List ACell} : ∀ {zai zz zh zc zo zm zu zt : List Int32} {zaj zak zac zad zj zi zq zk v1 : Int32} {d2 d3 : Slot} {res : Int32} {w_o_decodedPix w_o_rowOrder w_o_streamBuf w_o_data w_o_prefix w_o_suffix w_o_firstPix w_o_strLen : List Int32} {w_o_hasDecoded w_o_status w_o_dataLen w_o_readPos w_o_decWidth w_o_decNext w_o_decPrev : Int32} {w_o_decCount : Int32}, f_decode_63 zw zv zx zb zl zg za zd zf zah zn zai zz zh zc zo zm zu zt zaj zak zac zad zj zi zq zk v1 = some (res, w_o_decodedPix, w_o_rowOrder, w_o_streamBuf, w_o_data, w_o_prefix, w_o_suffix, w_o_firstPix, w_o_strLen, w_o_hasDecoded, w_o_status, w_o_dataLen, w_o_readPos, w_o_decWidth, w_o_decNext, w_o_decPrev, w_o_decCount) → OEnds own_P 25 63 [qr 1, qi v1, d2, d3] [] (c0 :: bk0 zag zy zw zai zz zh zc zaa zab zae zo zm zu zt zv zx zb zl zg za zd zf zah zaf zp zn zaj zak ze zr zs zac zad zj zi zq zk po) (some (.int res), (c0 :: bk0 zag zy zw w_o_decodedPix w_o_rowOrder w_o_streamBuf w_o_data zaa zab zae w_o_prefix w_o_suffix w_o_firstPix w_o_strLen zv zx zb zl zg za zd zf zah zaf zp zn w_o_hasDecoded w_o_status ze zr zs w_o_dataLen w_o_readPos w_o_decWidth w_o_decNext w_o_decPrev w_o_decCount po), 0, 0) := by
  intro zai zz zh zc zo zm zu zt zaj zak zac zad zj zi zq zk v1 d2 d3 res w_o_decodedPix w_o_rowOrder w_o_streamBuf w_o_data w_o_prefix w_o_suffix w_o_firstPix w_o_strLen w_o_hasDecoded w_o_status w_o_dataLen w_o_readPos w_o_decWidth w_o_decNext w_o_decPrev w_o_decCount h
  unfold f_decode_63 at h
  refine OEnds.adv hm_25 5 (pc' := 77) (L' := [qr 1, qi v1, qu, qu]) (S' := [.int v1]) (H' := (c0 :: bk0 zag zy zw zai zz zh zc zaa zab zae zo zm zu zt zv zx zb zl zg za zd zf zah zaf zp zn 1 zak ze zr zs zac zad zj zi zq zk po)) rfl ?_
  cases h
  exact OEnds.iret hm_25 rfl rfl
theorem ok_decode_20 {zag zy zw zaa zab zae : List Int32} {zv zx zb zl zg za zd zf zah zaf zp zn ze zr zs : Int32} {c0 : ACell} {po : List ACell} {k63 : List Int32 → List Int32 → List Int32 → List Int32 → List Int32 → List Int32 → List Int32 → List Int32 → Int32 → Int32 → Int32 → Int32 → Int32 → Int32 → Int32 → Int32 → Int32 → Option (Int32 × List Int32 × List Int32 × List Int32 × List Int32 × List Int32 × List Int32 × List Int32 × List Int32 × Int32 × Int32 × Int32 × Int32 × Int32 × Int32 × Int32 × Int32)} (hk63 : ∀ {zai zz zh zc zo zm zu zt : List Int32} {zaj zak zac zad zj zi zq zk v1 : Int32} {d2 d3 : Slot} {res : Int32} {w_o_decodedPix w_o_rowOrder w_o_streamBuf w_o_data w_o_prefix w_o_suffix w_o_firstPix w_o_strLen : List Int32} {w_o_hasDecoded w_o_status w_o_dataLen w_o_readPos w_o_decWidth w_o_decNext w_o_decPrev : Int32} {w_o_decCount : Int32}, k63 zai zz zh zc zo zm zu zt zaj zak zac zad zj zi zq zk v1 = some (res, w_o_decodedPix, w_o_rowOrder, w_o_streamBuf, w_o_data, w_o_prefix, w_o_suffix, w_o_firstPix, w_o_strLen, w_o_hasDecoded, w_o_status, w_o_dataLen, w_o_readPos, w_o_decWidth, w_o_decNext, w_o_decPrev, w_o_decCount) → OEnds own_P 25 63 [qr 1, qi v1, d2, d3] [] (c0 :: bk0 zag zy zw zai zz zh zc zaa zab zae zo zm zu zt zv zx zb zl zg za zd zf zah zaf zp zn zaj zak ze zr zs zac zad zj zi zq zk po) (some (.int res), (c0 :: bk0 zag zy zw w_o_decodedPix w_o_rowOrder w_o_streamBuf w_o_data zaa zab zae w_o_prefix w_o_suffix w_o_firstPix w_o_strLen zv zx zb zl zg za zd zf zah zaf zp zn w_o_hasDecoded w_o_status ze zr zs w_o_dataLen w_o_readPos w_o_decWidth w_o_decNext w_o_decPrev w_o_decCount po), 0, 0)) : ∀ (n : Nat), ∀ {zai zz zh zc zo zm zu zt : List Int32} {zaj zak zac zad zj zi zq zk v1 v2 : Int32} {d3 : Slot} {res : Int32} {w_o_decodedPix w_o_rowOrder w_o_streamBuf w_o_data w_o_prefix w_o_suffix w_o_firstPix w_o_strLen : List Int32} {w_o_hasDecoded w_o_status w_o_dataLen w_o_readPos w_o_decWidth w_o_decNext w_o_decPrev : Int32} {w_o_decCount : Int32}, f_decode_20 k63 zw zv zx zb zl zg za zd zf zah zn n zai zz zh zc zo zm zu zt zaj zak zac zad zj zi zq zk v1 v2 = some (res, w_o_decodedPix, w_o_rowOrder, w_o_streamBuf, w_o_data, w_o_prefix, w_o_suffix, w_o_firstPix, w_o_strLen, w_o_hasDecoded, w_o_status, w_o_dataLen, w_o_readPos, w_o_decWidth, w_o_decNext, w_o_decPrev, w_o_decCount) → OEnds own_P 25 20 [qr 1, qi v1, qi v2, d3] [] (c0 :: bk0 zag zy zw zai zz zh zc zaa zab zae zo zm zu zt zv zx zb zl zg za zd zf zah zaf zp zn zaj zak ze zr zs zac zad zj zi zq zk po) (some (.int res), (c0 :: bk0 zag zy zw w_o_decodedPix w_o_rowOrder w_o_streamBuf w_o_data zaa zab zae w_o_prefix w_o_suffix w_o_firstPix w_o_strLen zv zx zb zl zg za zd zf zah zaf zp zn w_o_hasDecoded w_o_status ze zr zs w_o_dataLen w_o_readPos w_o_decWidth w_o_decNext w_o_decPrev w_o_decCount po), 0, 0) := by
  intro n
  induction n with
  | zero => intro zai zz zh zc zo zm zu zt zaj zak zac zad zj zi zq zk v1 v2 d3 res w_o_decodedPix w_o_rowOrder w_o_streamBuf w_o_data w_o_prefix w_o_suffix w_o_firstPix w_o_strLen w_o_hasDecoded w_o_status w_o_dataLen w_o_readPos w_o_decWidth w_o_decNext w_o_decPrev w_o_decCount h; cases h
  | succ n ih =>
    intro zai zz zh zc zo zm zu zt zaj zak zac zad zj zi zq zk v1 v2 d3 res w_o_decodedPix w_o_rowOrder w_o_streamBuf w_o_data w_o_prefix w_o_suffix w_o_firstPix w_o_strLen w_o_hasDecoded w_o_status w_o_dataLen w_o_readPos w_o_decWidth w_o_decNext w_o_decPrev w_o_decCount h
    unfold f_decode_20 at h
    refine OEnds.adv hm_25 3 (pc' := 25) (L' := [qr 1, qi v1, qi v2, qu]) (S' := [.int zb, .int v2]) (H' := (c0 :: bk0 zag zy zw zai zz zh zc zaa zab zae zo zm zu zt zv zx zb zl zg za zd zf zah zaf zp zn zaj zak ze zr zs zac zad zj zi zq zk po)) rfl ?_
    by_cases hc139 : v2 < zb
    · simp only [if_pos hc139] at h
      refine OEnds.icmpF hm_25 rfl ((tlt hc139).2.1) ?_
      refine OEnds.adv hm_25 2 (pc' := 30) (L' := [qr 1, qi v1, qi v2, qu]) (S' := [.int v2, .ref 1]) (H' := (c0 :: bk0 zag zy zw zai zz zh zc zaa zab zae zo zm zu zt zv zx zb zl zg za zd zf zah zaf zp zn zaj zak ze zr zs zac zad zj zi zq zk po)) rfl ?_
      obtain ⟨r150, hq140, h⟩ := bnd h
      refine OEnds.call0 hm_25 rfl rfl (by decide) rfl (as := [.ref 1, .int v2]) (rest := []) rfl rfl (ok_rasterOf hq140) ?_
      refine OEnds.adv hm_25 2 (pc' := 35) (L' := [qr 1, qi v1, qi v2, qi r150]) (S' := [.int r150]) (H' := (c0 :: bk0 zag zy zw zai zz zh zc zaa zab zae zo zm zu zt zv zx zb zl zg za zd zf zah zaf zp zn zaj zak ze zr zs zac zad zj zi zq zk po)) rfl ?_
      by_cases hc141 : r150 < (0 : Int32)
      · simp only [if_pos hc141] at h
        refine OEnds.ifT hm_25 rfl (q := 57) rfl ((tlt hc141).1) ?_
        refine OEnds.adv hm_25 2 (pc' := 20) (L' := [qr 1, qi v1, qi (v2 + (1 : Int32)), qi r150]) (S' := []) (H' := (c0 :: bk0 zag zy zw zai zz zh zc zaa zab zae zo zm zu zt zv zx zb zl zg za zd zf zah zaf zp zn zaj zak ze zr zs zac zad zj zi zq zk po)) rfl ?_
        exact ih h
      · simp only [if_neg hc141] at h
        refine OEnds.ifF hm_25 rfl ((flt hc141).1) ?_
        refine OEnds.adv hm_25 2 (pc' := 42) (L' := [qr 1, qi v1, qi v2, qi r150]) (S' := [.int 256, .int r150]) (H' := (c0 :: bk0 zag zy zw zai zz zh zc zaa zab zae zo zm zu zt zv zx zb zl zg za zd zf zah zaf zp zn zaj zak ze zr zs zac zad zj zi zq zk po)) rfl ?_
        by_cases hc142 : r150 < (256 : Int32)
        · simp only [if_pos hc142] at h
          refine OEnds.icmpF hm_25 rfl ((tlt hc142).2.1) ?_
          refine OEnds.adv hm_25 6 (pc' := 55) (L' := [qr 1, qi v1, qi v2, qi r150]) (S' := [.int v2, .ref 7, .int r150, .ref 5]) (H' := (c0 :: bk0 zag zy zw zai zz zh zc zaa zab zae zo zm zu zt zv zx zb zl zg za zd zf zah zaf zp zn zaj zak ze zr zs zac zad zj zi zq zk po)) rfl ?_
          obtain ⟨x151, hx151, h⟩ := bnd h
          refine OEnds.plain hm_25 rfl rfl (x_iaload rfl hx151) ?_
          show OEnds own_P 25 56 [qr 1, qi v1, qi v2, qi r150] [.int x151, .int r150, .ref 5] (c0 :: bk0 zag zy zw zai zz zh zc zaa zab zae zo zm zu zt zv zx zb zl zg za zd zf zah zaf zp zn zaj zak ze zr zs zac zad zj zi zq zk po) _
          obtain ⟨A152, hA152, h⟩ := bnd h
          refine OEnds.plain hm_25 rfl rfl (x_iastore rfl (Nat.le_of_ble_eq_true rfl) hA152) ?_
          refine OEnds.adv hm_25 2 (pc' := 20) (L' := [qr 1, qi v1, qi (v2 + (1 : Int32)), qi r150]) (S' := []) (H' := (c0 :: bk0 zag zy zw A152 zz zh zc zaa zab zae zo zm zu zt zv zx zb zl zg za zd zf zah zaf zp zn zaj zak ze zr zs zac zad zj zi zq zk po)) rfl ?_
          exact ih h
        · simp only [if_neg hc142] at h
          refine OEnds.icmpT hm_25 rfl (q := 57) rfl ((flt hc142).2.1) ?_
          refine OEnds.adv hm_25 2 (pc' := 20) (L' := [qr 1, qi v1, qi (v2 + (1 : Int32)), qi r150]) (S' := []) (H' := (c0 :: bk0 zag zy zw zai zz zh zc zaa zab zae zo zm zu zt zv zx zb zl zg za zd zf zah zaf zp zn zaj zak ze zr zs zac zad zj zi zq zk po)) rfl ?_
          exact ih h
    · simp only [if_neg hc139] at h
      refine OEnds.icmpT hm_25 rfl (q := 63) rfl ((flt hc139).2.1) ?_
      show OEnds own_P 25 63 [qr 1, qi v1, qi v2, qu] [] (c0 :: bk0 zag zy zw zai zz zh zc zaa zab zae zo zm zu zt zv zx zb zl zg za zd zf zah zaf zp zn zaj zak ze zr zs zac zad zj zi zq zk po) _
      exact hk63 h
theorem ok_decode {zag zy zw zaa zab zae : List Int32} {zv zx zb zl zg za zd zf zah zaf zp zn ze zr zs : Int32} {c0 : ACell} {po : List ACell} {zai zz zh zc zo zm zu zt : List Int32} {zaj zak zac zad zj zi zq zk res : Int32} {w_o_decodedPix w_o_rowOrder w_o_streamBuf w_o_data w_o_prefix w_o_suffix w_o_firstPix w_o_strLen : List Int32} {w_o_hasDecoded w_o_status w_o_dataLen w_o_readPos w_o_decWidth w_o_decNext w_o_decPrev w_o_decCount : Int32} (h : f_decode zw zv zx zb zl zg za zd zf zah zn zai zz zh zc zo zm zu zt zaj zak zac zad zj zi zq zk = some (res, w_o_decodedPix, w_o_rowOrder, w_o_streamBuf, w_o_data, w_o_prefix, w_o_suffix, w_o_firstPix, w_o_strLen, w_o_hasDecoded, w_o_status, w_o_dataLen, w_o_readPos, w_o_decWidth, w_o_decNext, w_o_decPrev, w_o_decCount)) : OEnds own_P 25 0 [qr 1, qu, qu, qu] [] (c0 :: bk0 zag zy zw zai zz zh zc zaa zab zae zo zm zu zt zv zx zb zl zg za zd zf zah zaf zp zn zaj zak ze zr zs zac zad zj zi zq zk po) (some (.int res), (c0 :: bk0 zag zy zw w_o_decodedPix w_o_rowOrder w_o_streamBuf w_o_data zaa zab zae w_o_prefix w_o_suffix w_o_firstPix w_o_strLen zv zx zb zl zg za zd zf zah zaf zp zn w_o_hasDecoded w_o_status ze zr zs w_o_dataLen w_o_readPos w_o_decWidth w_o_decNext w_o_decPrev w_o_decCount po), 0, 0) := by
  unfold f_decode at h
  refine OEnds.adv hm_25 1 (pc' := 1) (L' := [qr 1, qu, qu, qu]) (S' := [.ref 1]) (H' := (c0 :: bk0 zag zy zw zai zz zh zc zaa zab zae zo zm zu zt zv zx zb zl zg za zd zf zah zaf zp zn zaj zak ze zr zs zac zad zj zi zq zk po)) rfl ?_
  obtain ⟨⟨r136, s137, s138, s139, s140, s141, s142, s143, s144, s145, s146, s147, s148⟩, hq143, h⟩ := bnd h
  refine OEnds.call0 hm_25 rfl rfl (by decide) rfl (as := [.ref 1]) (rest := []) rfl rfl (ok_decodeSteps hq143) ?_
  refine OEnds.adv hm_25 5 (pc' := 11) (L' := [qr 1, qi r136, qu, qu]) (S' := [.int r136]) (H' := (c0 :: bk0 zag zy zw zai zz s137 s138 zaa zab zae s139 s140 s141 s142 zv zx zb zl zg za zd zf zah zaf zp zn zaj r136 ze zr zs s143 s144 s145 s146 s147 s148 po)) rfl ?_
  by_cases hc144 : r136 = (0 : Int32)
  · simp only [if_pos hc144] at h
    refine OEnds.ifF hm_25 rfl ((teq hc144).2) ?_
    refine OEnds.adv hm_25 1 (pc' := 15) (L' := [qr 1, qi r136, qu, qu]) (S' := [.ref 1]) (H' := (c0 :: bk0 zag zy zw zai zz s137 s138 zaa zab zae s139 s140 s141 s142 zv zx zb zl zg za zd zf zah zaf zp zn zaj r136 ze zr zs s143 s144 s145 s146 s147 s148 po)) rfl ?_
    obtain ⟨s149, hq145, h⟩ := bnd h
    refine OEnds.call0 hm_25 rfl rfl (by decide) rfl (as := [.ref 1]) (rest := []) rfl rfl (ok_buildRowOrder hq145) ?_
    refine OEnds.adv hm_25 2 (pc' := 20) (L' := [qr 1, qi r136, qi 0, qu]) (S' := []) (H' := (c0 :: bk0 zag zy zw zai s149 s137 s138 zaa zab zae s139 s140 s141 s142 zv zx zb zl zg za zd zf zah zaf zp zn zaj r136 ze zr zs s143 s144 s145 s146 s147 s148 po)) rfl ?_
    exact ok_decode_20 (k63 := f_decode_63 zw zv zx zb zl zg za zd zf zah zn) ok_decode_63 100000 h
  · simp only [if_neg hc144] at h
    refine OEnds.ifT hm_25 rfl (q := 71) rfl ((feq hc144).2) ?_
    refine OEnds.adv hm_25 4 (pc' := 77) (L' := [qr 1, qi r136, qu, qu]) (S' := [.int r136]) (H' := (c0 :: bk0 zag zy zw zai zz s137 s138 zaa zab zae s139 s140 s141 s142 zv zx zb zl zg za zd zf zah zaf zp zn 0 r136 ze zr zs s143 s144 s145 s146 s147 s148 po)) rfl ?_
    cases h
    exact OEnds.iret hm_25 rfl rfl
theorem ok_setInterlaced {zag zy zw zai zz zh zc zaa zab zae zo zm zu zt : List Int32} {zv zx zb zl zg za zd zf zaf zp zn zaj zak ze zr zs zac zad zj zi zq zk : Int32} {c0 : ACell} {po : List ACell} {zah v1 w_o_interlaced : Int32} (h : f_setInterlaced zah v1 = some w_o_interlaced) : OEnds own_P 11 0 [qr 1, qi v1] [] (c0 :: bk0 zag zy zw zai zz zh zc zaa zab zae zo zm zu zt zv zx zb zl zg za zd zf zah zaf zp zn zaj zak ze zr zs zac zad zj zi zq zk po) (none, (c0 :: bk0 zag zy zw zai zz zh zc zaa zab zae zo zm zu zt zv zx zb zl zg za zd zf w_o_interlaced zaf zp zn zaj zak ze zr zs zac zad zj zi zq zk po), 0, 0) := by
  unfold f_setInterlaced at h
  refine OEnds.adv hm_11 2 (pc' := 2) (L' := [qr 1, qi v1]) (S' := [.int v1, .ref 1]) (H' := (c0 :: bk0 zag zy zw zai zz zh zc zaa zab zae zo zm zu zt zv zx zb zl zg za zd zf zah zaf zp zn zaj zak ze zr zs zac zad zj zi zq zk po)) rfl ?_
  by_cases hz146 : v1 = 0 ∨ v1 = 1
  · simp only [if_pos hz146] at h
    refine OEnds.plain hm_11 rfl rfl (x_putZ rfl (Nat.le_of_ble_eq_true rfl) rfl hz146) ?_
    show OEnds own_P 11 5 [qr 1, qi v1] [] (c0 :: bk0 zag zy zw zai zz zh zc zaa zab zae zo zm zu zt zv zx zb zl zg za zd zf v1 zaf zp zn zaj zak ze zr zs zac zad zj zi zq zk po) _
    cases h
    exact OEnds.vret hm_11 rfl rfl
  · simp only [if_neg hz146] at h
    cases h
theorem ok_setBlockSize {zag zy zw zai zz zh zc zaa zab zae zo zm zu zt : List Int32} {zv zx zb zl zg za zd zf zah zp zn zaj zak ze zr zs zac zad zj zi zq zk : Int32} {c0 : ACell} {po : List ACell} {zaf v1 res w_o_blockSize : Int32} (h : f_setBlockSize zaf v1 = some (res, w_o_blockSize)) : OEnds own_P 10 0 [qr 1, qi v1] [] (c0 :: bk0 zag zy zw zai zz zh zc zaa zab zae zo zm zu zt zv zx zb zl zg za zd zf zah zaf zp zn zaj zak ze zr zs zac zad zj zi zq zk po) (some (.int res), (c0 :: bk0 zag zy zw zai zz zh zc zaa zab zae zo zm zu zt zv zx zb zl zg za zd zf zah w_o_blockSize zp zn zaj zak ze zr zs zac zad zj zi zq zk po), 0, 0) := by
  unfold f_setBlockSize at h
  refine OEnds.adv hm_10 5 (pc' := 7) (L' := [qr 1, qi v1]) (S' := [.int 255, .int 4, .int v1, .ref 1, .ref 1]) (H' := (c0 :: bk0 zag zy zw zai zz zh zc zaa zab zae zo zm zu zt zv zx zb zl zg za zd zf zah zaf zp zn zaj zak ze zr zs zac zad zj zi zq zk po)) rfl ?_
  obtain ⟨r5, hq147, h⟩ := bnd h
  refine OEnds.call0 hm_10 rfl rfl (by decide) rfl (as := [.ref 1, .int v1, .int 4, .int 255]) (rest := [.ref 1]) rfl rfl (ok_clamp hq147) ?_
  refine OEnds.adv hm_10 3 (pc' := 17) (L' := [qr 1, qi v1]) (S' := [.int r5]) (H' := (c0 :: bk0 zag zy zw zai zz zh zc zaa zab zae zo zm zu zt zv zx zb zl zg za zd zf zah r5 zp zn zaj zak ze zr zs zac zad zj zi zq zk po)) rfl ?_
  cases h
  exact OEnds.iret hm_10 rfl rfl
theorem ok_setPixel {zy zw zai zz zh zc zaa zab zae zo zm zu zt : List Int32} {zv zx zb zl zg za zd zf zah zaf zp zn zaj zak ze zr zs zac zad zj zi zq zk : Int32} {c0 : ACell} {po : List ACell} {zag : List Int32} {v1 v2 res : Int32} {w_o_pixels : List Int32} (h : f_setPixel zb zl zag v1 v2 = some (res, w_o_pixels)) : OEnds own_P 12 0 [qr 1, qi v1, qi v2] [] (c0 :: bk0 zag zy zw zai zz zh zc zaa zab zae zo zm zu zt zv zx zb zl zg za zd zf zah zaf zp zn zaj zak ze zr zs zac zad zj zi zq zk po) (some (.int res), (c0 :: bk0 w_o_pixels zy zw zai zz zh zc zaa zab zae zo zm zu zt zv zx zb zl zg za zd zf zah zaf zp zn zaj zak ze zr zs zac zad zj zi zq zk po), 0, 0) := by
  unfold f_setPixel at h
  refine OEnds.adv hm_12 1 (pc' := 1) (L' := [qr 1, qi v1, qi v2]) (S' := [.int v1]) (H' := (c0 :: bk0 zag zy zw zai zz zh zc zaa zab zae zo zm zu zt zv zx zb zl zg za zd zf zah zaf zp zn zaj zak ze zr zs zac zad zj zi zq zk po)) rfl ?_
  by_cases hc148 : v1 < (0 : Int32)
  · simp only [if_pos hc148] at h
    refine OEnds.ifT hm_12 rfl (q := 24) rfl ((tlt hc148).1) ?_
    refine OEnds.adv hm_12 1 (pc' := 25) (L' := [qr 1, qi v1, qi v2]) (S' := [.int 0]) (H' := (c0 :: bk0 zag zy zw zai zz zh zc zaa zab zae zo zm zu zt zv zx zb zl zg za zd zf zah zaf zp zn zaj zak ze zr zs zac zad zj zi zq zk po)) rfl ?_
    cases h
    exact OEnds.iret hm_12 rfl rfl
  · simp only [if_neg hc148] at h
    refine OEnds.ifF hm_12 rfl ((flt hc148).1) ?_
    refine OEnds.adv hm_12 3 (pc' := 9) (L' := [qr 1, qi v1, qi v2]) (S' := [.int zb, .int v1]) (H' := (c0 :: bk0 zag zy zw zai zz zh zc zaa zab zae zo zm zu zt zv zx zb zl zg za zd zf zah zaf zp zn zaj zak ze zr zs zac zad zj zi zq zk po)) rfl ?_
    by_cases hc149 : v1 < zb
    · simp only [if_pos hc149] at h
      refine OEnds.icmpF hm_12 rfl ((tlt hc149).2.1) ?_
      refine OEnds.adv hm_12 1 (pc' := 13) (L' := [qr 1, qi v1, qi v2]) (S' := [.int v2]) (H' := (c0 :: bk0 zag zy zw zai zz zh zc zaa zab zae zo zm zu zt zv zx zb zl zg za zd zf zah zaf zp zn zaj zak ze zr zs zac zad zj zi zq zk po)) rfl ?_
      by_cases hc150 : v2 < (0 : Int32)
      · simp only [if_pos hc150] at h
        refine OEnds.ifT hm_12 rfl (q := 24) rfl ((tlt hc150).1) ?_
        refine OEnds.adv hm_12 1 (pc' := 25) (L' := [qr 1, qi v1, qi v2]) (S' := [.int 0]) (H' := (c0 :: bk0 zag zy zw zai zz zh zc zaa zab zae zo zm zu zt zv zx zb zl zg za zd zf zah zaf zp zn zaj zak ze zr zs zac zad zj zi zq zk po)) rfl ?_
        cases h
        exact OEnds.iret hm_12 rfl rfl
      · simp only [if_neg hc150] at h
        refine OEnds.ifF hm_12 rfl ((flt hc150).1) ?_
        refine OEnds.adv hm_12 3 (pc' := 21) (L' := [qr 1, qi v1, qi v2]) (S' := [.int zl, .int v2]) (H' := (c0 :: bk0 zag zy zw zai zz zh zc zaa zab zae zo zm zu zt zv zx zb zl zg za zd zf zah zaf zp zn zaj zak ze zr zs zac zad zj zi zq zk po)) rfl ?_
        by_cases hc151 : v2 < zl
        · simp only [if_pos hc151] at h
          refine OEnds.icmpT hm_12 rfl (q := 26) rfl ((tlt hc151).1) ?_
          refine OEnds.adv hm_12 4 (pc' := 32) (L' := [qr 1, qi v1, qi v2]) (S' := [.int v2, .int v1, .ref 2]) (H' := (c0 :: bk0 zag zy zw zai zz zh zc zaa zab zae zo zm zu zt zv zx zb zl zg za zd zf zah zaf zp zn zaj zak ze zr zs zac zad zj zi zq zk po)) rfl ?_
          obtain ⟨A6, hA6, h⟩ := bnd h
          refine OEnds.plain hm_12 rfl rfl (x_iastore rfl (Nat.le_of_ble_eq_true rfl) hA6) ?_
          refine OEnds.adv hm_12 1 (pc' := 34) (L' := [qr 1, qi v1, qi v2]) (S' := [.int 1]) (H' := (c0 :: bk0 A6 zy zw zai zz zh zc zaa zab zae zo zm zu zt zv zx zb zl zg za zd zf zah zaf zp zn zaj zak ze zr zs zac zad zj zi zq zk po)) rfl ?_
          cases h
          exact OEnds.iret hm_12 rfl rfl
        · simp only [if_neg hc151] at h
          refine OEnds.icmpF hm_12 rfl ((flt hc151).1) ?_
          refine OEnds.adv hm_12 1 (pc' := 25) (L' := [qr 1, qi v1, qi v2]) (S' := [.int 0]) (H' := (c0 :: bk0 zag zy zw zai zz zh zc zaa zab zae zo zm zu zt zv zx zb zl zg za zd zf zah zaf zp zn zaj zak ze zr zs zac zad zj zi zq zk po)) rfl ?_
          cases h
          exact OEnds.iret hm_12 rfl rfl
    · simp only [if_neg hc149] at h
      refine OEnds.icmpT hm_12 rfl (q := 24) rfl ((flt hc149).2.1) ?_
      refine OEnds.adv hm_12 1 (pc' := 25) (L' := [qr 1, qi v1, qi v2]) (S' := [.int 0]) (H' := (c0 :: bk0 zag zy zw zai zz zh zc zaa zab zae zo zm zu zt zv zx zb zl zg za zd zf zah zaf zp zn zaj zak ze zr zs zac zad zj zi zq zk po)) rfl ?_
      cases h
      exact OEnds.iret hm_12 rfl rfl
theorem ok_L_put {c0 : ACell} {po : List ACell} {v0 v1 v2 res : Int32} (h : f_L_put v0 v1 v2 = some res) : OEnds own_P 4 0 [qi v0, qi v1, qi v2] [] (c0 :: po) (some (.int res), (c0 :: po), 0, 0) := by
  unfold f_L_put at h
  refine OEnds.adv hm_4 15 (pc' := 15) (L' := [qi v0, qi v1, qi v2]) (S' := [.int ((v0 &&& (((3 : Int32) <<< (((2 : Int32) * v1) &&& 31)) ^^^ (-1 : Int32))) ||| (v2 <<< (((2 : Int32) * v1) &&& 31)))]) (H' := (c0 :: po)) rfl ?_
  cases h
  exact OEnds.iret hm_4 rfl rfl
theorem ok_fill_46 {zy zw zai zz zh zc zaa zab zae zo zm zu zt : List Int32} {zv zx zb zl zg za zd zf zah zaf zp zn zaj zak ze zr zs zac zad zj zi zq zk : Int32} {c0 : ACell} {po : List ACell} : ∀ (n : Nat), ∀ {zag : List Int32} {v1 v2 v3 v4 res : Int32} {w_o_pixels : List Int32}, f_fill_46 zb zl n zag v1 v2 v3 v4 = some (res, w_o_pixels) → OEnds own_P 3 46 [qr 1, qi v1, qi v2, qi v3, qi v4] [] (c0 :: bk0 zag zy zw zai zz zh zc zaa zab zae zo zm zu zt zv zx zb zl zg za zd zf zah zaf zp zn zaj zak ze zr zs zac zad zj zi zq zk po) (some (.int res), (c0 :: bk0 w_o_pixels zy zw zai zz zh zc zaa zab zae zo zm zu zt zv zx zb zl zg za zd zf zah zaf zp zn zaj zak ze zr zs zac zad zj zi zq zk po), 0, 0) := by
  intro n
  induction n with
  | zero => intro zag v1 v2 v3 v4 res w_o_pixels h; cases h
  | succ n ih =>
    intro zag v1 v2 v3 v4 res w_o_pixels h
    unfold f_fill_46 at h
    refine OEnds.adv hm_3 4 (pc' := 51) (L' := [qr 1, qi v1, qi v2, qi v3, qi v4]) (S' := [.int (v1 + v2), .int v4]) (H' := (c0 :: bk0 zag zy zw zai zz zh zc zaa zab zae zo zm zu zt zv zx zb zl zg za zd zf zah zaf zp zn zaj zak ze zr zs zac zad zj zi zq zk po)) rfl ?_
    by_cases hc152 : v4 < (v1 + v2)
    · simp only [if_pos hc152] at h
      refine OEnds.icmpF hm_3 rfl ((tlt hc152).2.1) ?_
      refine OEnds.adv hm_3 2 (pc' := 59) (L' := [qr 1, qi v1, qi v2, qi v3, qi v4]) (S' := [.int 256, .int v4]) (H' := (c0 :: bk0 zag zy zw zai zz zh zc zaa zab zae zo zm zu zt zv zx zb zl zg za zd zf zah zaf zp zn zaj zak ze zr zs zac zad zj zi zq zk po)) rfl ?_
      by_cases hc153 : v4 < (256 : Int32)
      · simp only [if_pos hc153] at h
        refine OEnds.icmpF hm_3 rfl ((tlt hc153).2.1) ?_
        refine OEnds.adv hm_3 4 (pc' := 69) (L' := [qr 1, qi v1, qi v2, qi v3, qi v4]) (S' := [.int v3, .int v4, .ref 2]) (H' := (c0 :: bk0 zag zy zw zai zz zh zc zaa zab zae zo zm zu zt zv zx zb zl zg za zd zf zah zaf zp zn zaj zak ze zr zs zac zad zj zi zq zk po)) rfl ?_
        obtain ⟨A7, hA7, h⟩ := bnd h
        refine OEnds.plain hm_3 rfl rfl (x_iastore rfl (Nat.le_of_ble_eq_true rfl) hA7) ?_
        refine OEnds.adv hm_3 2 (pc' := 46) (L' := [qr 1, qi v1, qi v2, qi v3, qi (v4 + (1 : Int32))]) (S' := []) (H' := (c0 :: bk0 A7 zy zw zai zz zh zc zaa zab zae zo zm zu zt zv zx zb zl zg za zd zf zah zaf zp zn zaj zak ze zr zs zac zad zj zi zq zk po)) rfl ?_
        exact ih h
      · simp only [if_neg hc153] at h
        refine OEnds.icmpT hm_3 rfl (q := 76) rfl ((flt hc153).2.1) ?_
        refine OEnds.adv hm_3 1 (pc' := 77) (L' := [qr 1, qi v1, qi v2, qi v3, qi v4]) (S' := [.int 1]) (H' := (c0 :: bk0 zag zy zw zai zz zh zc zaa zab zae zo zm zu zt zv zx zb zl zg za zd zf zah zaf zp zn zaj zak ze zr zs zac zad zj zi zq zk po)) rfl ?_
        cases h
        exact OEnds.iret hm_3 rfl rfl
    · simp only [if_neg hc152] at h
      refine OEnds.icmpT hm_3 rfl (q := 76) rfl ((flt hc152).2.1) ?_
      refine OEnds.adv hm_3 1 (pc' := 77) (L' := [qr 1, qi v1, qi v2, qi v3, qi v4]) (S' := [.int 1]) (H' := (c0 :: bk0 zag zy zw zai zz zh zc zaa zab zae zo zm zu zt zv zx zb zl zg za zd zf zah zaf zp zn zaj zak ze zr zs zac zad zj zi zq zk po)) rfl ?_
      cases h
      exact OEnds.iret hm_3 rfl rfl
theorem ok_fill {zy zw zai zz zh zc zaa zab zae zo zm zu zt : List Int32} {zv zx zb zl zg za zd zf zah zaf zp zn zaj zak ze zr zs zac zad zj zi zq zk : Int32} {c0 : ACell} {po : List ACell} {zag : List Int32} {v1 v2 v3 res : Int32} {w_o_pixels : List Int32} (h : f_fill zb zl zag v1 v2 v3 = some (res, w_o_pixels)) : OEnds own_P 3 0 [qr 1, qi v1, qi v2, qi v3, qu] [] (c0 :: bk0 zag zy zw zai zz zh zc zaa zab zae zo zm zu zt zv zx zb zl zg za zd zf zah zaf zp zn zaj zak ze zr zs zac zad zj zi zq zk po) (some (.int res), (c0 :: bk0 w_o_pixels zy zw zai zz zh zc zaa zab zae zo zm zu zt zv zx zb zl zg za zd zf zah zaf zp zn zaj zak ze zr zs zac zad zj zi zq zk po), 0, 0) := by
  unfold f_fill at h
  refine OEnds.adv hm_3 1 (pc' := 1) (L' := [qr 1, qi v1, qi v2, qi v3, qu]) (S' := [.int v3]) (H' := (c0 :: bk0 zag zy zw zai zz zh zc zaa zab zae zo zm zu zt zv zx zb zl zg za zd zf zah zaf zp zn zaj zak ze zr zs zac zad zj zi zq zk po)) rfl ?_
  by_cases hc154 : v3 < (0 : Int32)
  · simp only [if_pos hc154] at h
    refine OEnds.ifT hm_3 rfl (q := 24) rfl ((tlt hc154).1) ?_
    refine OEnds.adv hm_3 1 (pc' := 25) (L' := [qr 1, qi v1, qi v2, qi v3, qu]) (S' := [.int 0]) (H' := (c0 :: bk0 zag zy zw zai zz zh zc zaa zab zae zo zm zu zt zv zx zb zl zg za zd zf zah zaf zp zn zaj zak ze zr zs zac zad zj zi zq zk po)) rfl ?_
    cases h
    exact OEnds.iret hm_3 rfl rfl
  · simp only [if_neg hc154] at h
    refine OEnds.ifF hm_3 rfl ((flt hc154).1) ?_
    refine OEnds.adv hm_3 3 (pc' := 9) (L' := [qr 1, qi v1, qi v2, qi v3, qu]) (S' := [.int zl, .int v3]) (H' := (c0 :: bk0 zag zy zw zai zz zh zc zaa zab zae zo zm zu zt zv zx zb zl zg za zd zf zah zaf zp zn zaj zak ze zr zs zac zad zj zi zq zk po)) rfl ?_
    by_cases hc155 : v3 < zl
    · simp only [if_pos hc155] at h
      refine OEnds.icmpF hm_3 rfl ((tlt hc155).2.1) ?_
      refine OEnds.adv hm_3 1 (pc' := 13) (L' := [qr 1, qi v1, qi v2, qi v3, qu]) (S' := [.int v1]) (H' := (c0 :: bk0 zag zy zw zai zz zh zc zaa zab zae zo zm zu zt zv zx zb zl zg za zd zf zah zaf zp zn zaj zak ze zr zs zac zad zj zi zq zk po)) rfl ?_
      by_cases hc156 : v1 < (0 : Int32)
      · simp only [if_pos hc156] at h
        refine OEnds.ifT hm_3 rfl (q := 24) rfl ((tlt hc156).1) ?_
        refine OEnds.adv hm_3 1 (pc' := 25) (L' := [qr 1, qi v1, qi v2, qi v3, qu]) (S' := [.int 0]) (H' := (c0 :: bk0 zag zy zw zai zz zh zc zaa zab zae zo zm zu zt zv zx zb zl zg za zd zf zah zaf zp zn zaj zak ze zr zs zac zad zj zi zq zk po)) rfl ?_
        cases h
        exact OEnds.iret hm_3 rfl rfl
      · simp only [if_neg hc156] at h
        refine OEnds.ifF hm_3 rfl ((flt hc156).1) ?_
        refine OEnds.adv hm_3 3 (pc' := 21) (L' := [qr 1, qi v1, qi v2, qi v3, qu]) (S' := [.int zb, .int v1]) (H' := (c0 :: bk0 zag zy zw zai zz zh zc zaa zab zae zo zm zu zt zv zx zb zl zg za zd zf zah zaf zp zn zaj zak ze zr zs zac zad zj zi zq zk po)) rfl ?_
        by_cases hc157 : v1 < zb
        · simp only [if_pos hc157] at h
          refine OEnds.icmpT hm_3 rfl (q := 26) rfl ((tlt hc157).1) ?_
          refine OEnds.adv hm_3 2 (pc' := 28) (L' := [qr 1, qi v1, qi v2, qi v3, qu]) (S' := [.int 1, .int v2]) (H' := (c0 :: bk0 zag zy zw zai zz zh zc zaa zab zae zo zm zu zt zv zx zb zl zg za zd zf zah zaf zp zn zaj zak ze zr zs zac zad zj zi zq zk po)) rfl ?_
          by_cases hc158 : v2 < (1 : Int32)
          · simp only [if_pos hc158] at h
            refine OEnds.icmpT hm_3 rfl (q := 41) rfl ((tlt hc158).1) ?_
            refine OEnds.adv hm_3 1 (pc' := 42) (L' := [qr 1, qi v1, qi v2, qi v3, qu]) (S' := [.int 0]) (H' := (c0 :: bk0 zag zy zw zai zz zh zc zaa zab zae zo zm zu zt zv zx zb zl zg za zd zf zah zaf zp zn zaj zak ze zr zs zac zad zj zi zq zk po)) rfl ?_
            cases h
            exact OEnds.iret hm_3 rfl rfl
          · simp only [if_neg hc158] at h
            refine OEnds.icmpF hm_3 rfl ((flt hc158).1) ?_
            refine OEnds.adv hm_3 5 (pc' := 38) (L' := [qr 1, qi v1, qi v2, qi v3, qu]) (S' := [.int (zb - v1), .int v2]) (H' := (c0 :: bk0 zag zy zw zai zz zh zc zaa zab zae zo zm zu zt zv zx zb zl zg za zd zf zah zaf zp zn zaj zak ze zr zs zac zad zj zi zq zk po)) rfl ?_
            by_cases hc159 : (zb - v1) < v2
            · simp only [if_pos hc159] at h
              refine OEnds.icmpF hm_3 rfl ((tlt hc159).2.2.2) ?_
              refine OEnds.adv hm_3 1 (pc' := 42) (L' := [qr 1, qi v1, qi v2, qi v3, qu]) (S' := [.int 0]) (H' := (c0 :: bk0 zag zy zw zai zz zh zc zaa zab zae zo zm zu zt zv zx zb zl zg za zd zf zah zaf zp zn zaj zak ze zr zs zac zad zj zi zq zk po)) rfl ?_
              cases h
              exact OEnds.iret hm_3 rfl rfl
            · simp only [if_neg hc159] at h
              refine OEnds.icmpT hm_3 rfl (q := 43) rfl ((flt hc159).2.2.2) ?_
              refine OEnds.adv hm_3 2 (pc' := 46) (L' := [qr 1, qi v1, qi v2, qi v3, qi v1]) (S' := []) (H' := (c0 :: bk0 zag zy zw zai zz zh zc zaa zab zae zo zm zu zt zv zx zb zl zg za zd zf zah zaf zp zn zaj zak ze zr zs zac zad zj zi zq zk po)) rfl ?_
              exact ok_fill_46 100000 h
        · simp only [if_neg hc157] at h
          refine OEnds.icmpF hm_3 rfl ((flt hc157).1) ?_
          refine OEnds.adv hm_3 1 (pc' := 25) (L' := [qr 1, qi v1, qi v2, qi v3, qu]) (S' := [.int 0]) (H' := (c0 :: bk0 zag zy zw zai zz zh zc zaa zab zae zo zm zu zt zv zx zb zl zg za zd zf zah zaf zp zn zaj zak ze zr zs zac zad zj zi zq zk po)) rfl ?_
          cases h
          exact OEnds.iret hm_3 rfl rfl
    · simp only [if_neg hc155] at h
      refine OEnds.icmpT hm_3 rfl (q := 24) rfl ((flt hc155).2.1) ?_
      refine OEnds.adv hm_3 1 (pc' := 25) (L' := [qr 1, qi v1, qi v2, qi v3, qu]) (S' := [.int 0]) (H' := (c0 :: bk0 zag zy zw zai zz zh zc zaa zab zae zo zm zu zt zv zx zb zl zg za zd zf zah zaf zp zn zaj zak ze zr zs zac zad zj zi zq zk po)) rfl ?_
      cases h
      exact OEnds.iret hm_3 rfl rfl
theorem ok_putInByte {zag zy zai zz zh zc zaa zab zae zo zm zu zt : List Int32} {zv zx zb zl zg za zd zf zah zaf zp zaj zak ze zr zs zac zad zj zi zq zk : Int32} {c0 : ACell} {po : List ACell} {zw : List Int32} {zn v1 res : Int32} {w_o_in : List Int32} {w_o_inLen : Int32} (h : f_putInByte zw zn v1 = some (res, w_o_in, w_o_inLen)) : OEnds own_P 28 0 [qr 1, qi v1] [] (c0 :: bk0 zag zy zw zai zz zh zc zaa zab zae zo zm zu zt zv zx zb zl zg za zd zf zah zaf zp zn zaj zak ze zr zs zac zad zj zi zq zk po) (some (.int res), (c0 :: bk0 zag zy w_o_in zai zz zh zc zaa zab zae zo zm zu zt zv zx zb zl zg za zd zf zah zaf zp w_o_inLen zaj zak ze zr zs zac zad zj zi zq zk po), 0, 0) := by
  unfold f_putInByte at h
  refine OEnds.adv hm_28 1 (pc' := 1) (L' := [qr 1, qi v1]) (S' := [.int v1]) (H' := (c0 :: bk0 zag zy zw zai zz zh zc zaa zab zae zo zm zu zt zv zx zb zl zg za zd zf zah zaf zp zn zaj zak ze zr zs zac zad zj zi zq zk po)) rfl ?_
  by_cases hc160 : v1 < (0 : Int32)
  · simp only [if_pos hc160] at h
    refine OEnds.ifT hm_28 rfl (q := 21) rfl ((tlt hc160).1) ?_
    refine OEnds.adv hm_28 1 (pc' := 22) (L' := [qr 1, qi v1]) (S' := [.int 0]) (H' := (c0 :: bk0 zag zy zw zai zz zh zc zaa zab zae zo zm zu zt zv zx zb zl zg za zd zf zah zaf zp zn zaj zak ze zr zs zac zad zj zi zq zk po)) rfl ?_
    cases h
    exact OEnds.iret hm_28 rfl rfl
  · simp only [if_neg hc160] at h
    refine OEnds.ifF hm_28 rfl ((flt hc160).1) ?_
    refine OEnds.adv hm_28 2 (pc' := 8) (L' := [qr 1, qi v1]) (S' := [.int 255, .int v1]) (H' := (c0 :: bk0 zag zy zw zai zz zh zc zaa zab zae zo zm zu zt zv zx zb zl zg za zd zf zah zaf zp zn zaj zak ze zr zs zac zad zj zi zq zk po)) rfl ?_
    by_cases hc161 : (255 : Int32) < v1
    · simp only [if_pos hc161] at h
      refine OEnds.icmpT hm_28 rfl (q := 21) rfl ((tlt hc161).2.2.1) ?_
      refine OEnds.adv hm_28 1 (pc' := 22) (L' := [qr 1, qi v1]) (S' := [.int 0]) (H' := (c0 :: bk0 zag zy zw zai zz zh zc zaa zab zae zo zm zu zt zv zx zb zl zg za zd zf zah zaf zp zn zaj zak ze zr zs zac zad zj zi zq zk po)) rfl ?_
      cases h
      exact OEnds.iret hm_28 rfl rfl
    · simp only [if_neg hc161] at h
      refine OEnds.icmpF hm_28 rfl ((flt hc161).2.2.1) ?_
      refine OEnds.adv hm_28 3 (pc' := 18) (L' := [qr 1, qi v1]) (S' := [.int 512, .int zn]) (H' := (c0 :: bk0 zag zy zw zai zz zh zc zaa zab zae zo zm zu zt zv zx zb zl zg za zd zf zah zaf zp zn zaj zak ze zr zs zac zad zj zi zq zk po)) rfl ?_
      by_cases hc162 : zn < (512 : Int32)
      · simp only [if_pos hc162] at h
        refine OEnds.icmpT hm_28 rfl (q := 23) rfl ((tlt hc162).1) ?_
        refine OEnds.adv hm_28 5 (pc' := 32) (L' := [qr 1, qi v1]) (S' := [.int v1, .int zn, .ref 4]) (H' := (c0 :: bk0 zag zy zw zai zz zh zc zaa zab zae zo zm zu zt zv zx zb zl zg za zd zf zah zaf zp zn zaj zak ze zr zs zac zad zj zi zq zk po)) rfl ?_
        obtain ⟨A77, hA77, h⟩ := bnd h
        refine OEnds.plain hm_28 rfl rfl (x_iastore rfl (Nat.le_of_ble_eq_true rfl) hA77) ?_
        refine OEnds.adv hm_28 7 (pc' := 44) (L' := [qr 1, qi v1]) (S' := [.int 1]) (H' := (c0 :: bk0 zag zy A77 zai zz zh zc zaa zab zae zo zm zu zt zv zx zb zl zg za zd zf zah zaf zp (zn + (1 : Int32)) zaj zak ze zr zs zac zad zj zi zq zk po)) rfl ?_
        cases h
        exact OEnds.iret hm_28 rfl rfl
      · simp only [if_neg hc162] at h
        refine OEnds.icmpF hm_28 rfl ((flt hc162).1) ?_
        refine OEnds.adv hm_28 1 (pc' := 22) (L' := [qr 1, qi v1]) (S' := [.int 0]) (H' := (c0 :: bk0 zag zy zw zai zz zh zc zaa zab zae zo zm zu zt zv zx zb zl zg za zd zf zah zaf zp zn zaj zak ze zr zs zac zad zj zi zq zk po)) rfl ?_
        cases h
        exact OEnds.iret hm_28 rfl rfl
theorem ok_setInByte {zag zy zai zz zh zc zaa zab zae zo zm zu zt : List Int32} {zv zx zb zl zg za zd zf zah zaf zp zn zaj zak ze zr zs zac zad zj zi zq zk : Int32} {c0 : ACell} {po : List ACell} {zw : List Int32} {v1 v2 res : Int32} {w_o_in : List Int32} (h : f_setInByte zn zw v1 v2 = some (res, w_o_in)) : OEnds own_P 24 0 [qr 1, qi v1, qi v2] [] (c0 :: bk0 zag zy zw zai zz zh zc zaa zab zae zo zm zu zt zv zx zb zl zg za zd zf zah zaf zp zn zaj zak ze zr zs zac zad zj zi zq zk po) (some (.int res), (c0 :: bk0 zag zy w_o_in zai zz zh zc zaa zab zae zo zm zu zt zv zx zb zl zg za zd zf zah zaf zp zn zaj zak ze zr zs zac zad zj zi zq zk po), 0, 0) := by
  unfold f_setInByte at h
  refine OEnds.adv hm_24 1 (pc' := 1) (L' := [qr 1, qi v1, qi v2]) (S' := [.int v1]) (H' := (c0 :: bk0 zag zy zw zai zz zh zc zaa zab zae zo zm zu zt zv zx zb zl zg za zd zf zah zaf zp zn zaj zak ze zr zs zac zad zj zi zq zk po)) rfl ?_
  by_cases hc163 : v1 < (0 : Int32)
  · simp only [if_pos hc163] at h
    refine OEnds.ifT hm_24 rfl (q := 23) rfl ((tlt hc163).1) ?_
    refine OEnds.adv hm_24 1 (pc' := 24) (L' := [qr 1, qi v1, qi v2]) (S' := [.int 0]) (H' := (c0 :: bk0 zag zy zw zai zz zh zc zaa zab zae zo zm zu zt zv zx zb zl zg za zd zf zah zaf zp zn zaj zak ze zr zs zac zad zj zi zq zk po)) rfl ?_
    cases h
    exact OEnds.iret hm_24 rfl rfl
  · simp only [if_neg hc163] at h
    refine OEnds.ifF hm_24 rfl ((flt hc163).1) ?_
    refine OEnds.adv hm_24 3 (pc' := 9) (L' := [qr 1, qi v1, qi v2]) (S' := [.int zn, .int v1]) (H' := (c0 :: bk0 zag zy zw zai zz zh zc zaa zab zae zo zm zu zt zv zx zb zl zg za zd zf zah zaf zp zn zaj zak ze zr zs zac zad zj zi zq zk po)) rfl ?_
    by_cases hc164 : v1 < zn
    · simp only [if_pos hc164] at h
      refine OEnds.icmpF hm_24 rfl ((tlt hc164).2.1) ?_
      refine OEnds.adv hm_24 1 (pc' := 13) (L' := [qr 1, qi v1, qi v2]) (S' := [.int v2]) (H' := (c0 :: bk0 zag zy zw zai zz zh zc zaa zab zae zo zm zu zt zv zx zb zl zg za zd zf zah zaf zp zn zaj zak ze zr zs zac zad zj zi zq zk po)) rfl ?_
      by_cases hc165 : v2 < (0 : Int32)
      · simp only [if_pos hc165] at h
        refine OEnds.ifT hm_24 rfl (q := 23) rfl ((tlt hc165).1) ?_
        refine OEnds.adv hm_24 1 (pc' := 24) (L' := [qr 1, qi v1, qi v2]) (S' := [.int 0]) (H' := (c0 :: bk0 zag zy zw zai zz zh zc zaa zab zae zo zm zu zt zv zx zb zl zg za zd zf zah zaf zp zn zaj zak ze zr zs zac zad zj zi zq zk po)) rfl ?_
        cases h
        exact OEnds.iret hm_24 rfl rfl
      · simp only [if_neg hc165] at h
        refine OEnds.ifF hm_24 rfl ((flt hc165).1) ?_
        refine OEnds.adv hm_24 2 (pc' := 20) (L' := [qr 1, qi v1, qi v2]) (S' := [.int 255, .int v2]) (H' := (c0 :: bk0 zag zy zw zai zz zh zc zaa zab zae zo zm zu zt zv zx zb zl zg za zd zf zah zaf zp zn zaj zak ze zr zs zac zad zj zi zq zk po)) rfl ?_
        by_cases hc166 : (255 : Int32) < v2
        · simp only [if_pos hc166] at h
          refine OEnds.icmpF hm_24 rfl ((tlt hc166).2.2.2) ?_
          refine OEnds.adv hm_24 1 (pc' := 24) (L' := [qr 1, qi v1, qi v2]) (S' := [.int 0]) (H' := (c0 :: bk0 zag zy zw zai zz zh zc zaa zab zae zo zm zu zt zv zx zb zl zg za zd zf zah zaf zp zn zaj zak ze zr zs zac zad zj zi zq zk po)) rfl ?_
          cases h
          exact OEnds.iret hm_24 rfl rfl
        · simp only [if_neg hc166] at h
          refine OEnds.icmpT hm_24 rfl (q := 25) rfl ((flt hc166).2.2.2) ?_
          refine OEnds.adv hm_24 4 (pc' := 31) (L' := [qr 1, qi v1, qi v2]) (S' := [.int v2, .int v1, .ref 4]) (H' := (c0 :: bk0 zag zy zw zai zz zh zc zaa zab zae zo zm zu zt zv zx zb zl zg za zd zf zah zaf zp zn zaj zak ze zr zs zac zad zj zi zq zk po)) rfl ?_
          obtain ⟨A78, hA78, h⟩ := bnd h
          refine OEnds.plain hm_24 rfl rfl (x_iastore rfl (Nat.le_of_ble_eq_true rfl) hA78) ?_
          refine OEnds.adv hm_24 1 (pc' := 33) (L' := [qr 1, qi v1, qi v2]) (S' := [.int 1]) (H' := (c0 :: bk0 zag zy A78 zai zz zh zc zaa zab zae zo zm zu zt zv zx zb zl zg za zd zf zah zaf zp zn zaj zak ze zr zs zac zad zj zi zq zk po)) rfl ?_
          cases h
          exact OEnds.iret hm_24 rfl rfl
    · simp only [if_neg hc164] at h
      refine OEnds.icmpT hm_24 rfl (q := 23) rfl ((flt hc164).2.1) ?_
      refine OEnds.adv hm_24 1 (pc' := 24) (L' := [qr 1, qi v1, qi v2]) (S' := [.int 0]) (H' := (c0 :: bk0 zag zy zw zai zz zh zc zaa zab zae zo zm zu zt zv zx zb zl zg za zd zf zah zaf zp zn zaj zak ze zr zs zac zad zj zi zq zk po)) rfl ?_
      cases h
      exact OEnds.iret hm_24 rfl rfl
theorem ok_getInLength {zag zy zw zai zz zh zc zaa zab zae zo zm zu zt : List Int32} {zv zx zb zl zg za zd zf zah zaf zp zn zaj zak ze zr zs zac zad zj zi zq zk : Int32} {c0 : ACell} {po : List ACell} {res : Int32} (h : f_getInLength zn = some res) : OEnds own_P 5 0 [qr 1] [] (c0 :: bk0 zag zy zw zai zz zh zc zaa zab zae zo zm zu zt zv zx zb zl zg za zd zf zah zaf zp zn zaj zak ze zr zs zac zad zj zi zq zk po) (some (.int res), (c0 :: bk0 zag zy zw zai zz zh zc zaa zab zae zo zm zu zt zv zx zb zl zg za zd zf zah zaf zp zn zaj zak ze zr zs zac zad zj zi zq zk po), 0, 0) := by
  unfold f_getInLength at h
  refine OEnds.adv hm_5 2 (pc' := 4) (L' := [qr 1]) (S' := [.int zn]) (H' := (c0 :: bk0 zag zy zw zai zz zh zc zaa zab zae zo zm zu zt zv zx zb zl zg za zd zf zah zaf zp zn zaj zak ze zr zs zac zad zj zi zq zk po)) rfl ?_
  cases h
  exact OEnds.iret hm_5 rfl rfl
theorem ok_getOutLength {zag zy zw zai zz zh zc zaa zab zae zo zm zu zt : List Int32} {zv zx zb zl zg za zd zf zah zaf zp zn zaj zak ze zr zs zac zad zj zi zq zk : Int32} {c0 : ACell} {po : List ACell} {res : Int32} (h : f_getOutLength zp = some res) : OEnds own_P 6 0 [qr 1] [] (c0 :: bk0 zag zy zw zai zz zh zc zaa zab zae zo zm zu zt zv zx zb zl zg za zd zf zah zaf zp zn zaj zak ze zr zs zac zad zj zi zq zk po) (some (.int res), (c0 :: bk0 zag zy zw zai zz zh zc zaa zab zae zo zm zu zt zv zx zb zl zg za zd zf zah zaf zp zn zaj zak ze zr zs zac zad zj zi zq zk po), 0, 0) := by
  unfold f_getOutLength at h
  refine OEnds.adv hm_6 2 (pc' := 4) (L' := [qr 1]) (S' := [.int zp]) (H' := (c0 :: bk0 zag zy zw zai zz zh zc zaa zab zae zo zm zu zt zv zx zb zl zg za zd zf zah zaf zp zn zaj zak ze zr zs zac zad zj zi zq zk po)) rfl ?_
  cases h
  exact OEnds.iret hm_6 rfl rfl
theorem ok_getStatus {zag zy zw zai zz zh zc zaa zab zae zo zm zu zt : List Int32} {zv zx zb zl zg za zd zf zah zaf zp zn zaj zak ze zr zs zac zad zj zi zq zk : Int32} {c0 : ACell} {po : List ACell} {res : Int32} (h : f_getStatus zak = some res) : OEnds own_P 7 0 [qr 1] [] (c0 :: bk0 zag zy zw zai zz zh zc zaa zab zae zo zm zu zt zv zx zb zl zg za zd zf zah zaf zp zn zaj zak ze zr zs zac zad zj zi zq zk po) (some (.int res), (c0 :: bk0 zag zy zw zai zz zh zc zaa zab zae zo zm zu zt zv zx zb zl zg za zd zf zah zaf zp zn zaj zak ze zr zs zac zad zj zi zq zk po), 0, 0) := by
  unfold f_getStatus at h
  refine OEnds.adv hm_7 2 (pc' := 4) (L' := [qr 1]) (S' := [.int zak]) (H' := (c0 :: bk0 zag zy zw zai zz zh zc zaa zab zae zo zm zu zt zv zx zb zl zg za zd zf zah zaf zp zn zaj zak ze zr zs zac zad zj zi zq zk po)) rfl ?_
  cases h
  exact OEnds.iret hm_7 rfl rfl
theorem ok_getPixel {zag zy zw zai zz zh zc zaa zab zae zo zm zu zt : List Int32} {zv zx zb zl zg za zd zf zah zaf zp zn zaj zak ze zr zs zac zad zj zi zq zk : Int32} {c0 : ACell} {po : List ACell} {v1 res : Int32} (h : f_getPixel zag zb v1 = some res) : OEnds own_P 8 0 [qr 1, qi v1] [] (c0 :: bk0 zag zy zw zai zz zh zc zaa zab zae zo zm zu zt zv zx zb zl zg za zd zf zah zaf zp zn zaj zak ze zr zs zac zad zj zi zq zk po) (some (.int res), (c0 :: bk0 zag zy zw zai zz zh zc zaa zab zae zo zm zu zt zv zx zb zl zg za zd zf zah zaf zp zn zaj zak ze zr zs zac zad zj zi zq zk po), 0, 0) := by
  unfold f_getPixel at h
  refine OEnds.adv hm_8 1 (pc' := 1) (L' := [qr 1, qi v1]) (S' := [.int v1]) (H' := (c0 :: bk0 zag zy zw zai zz zh zc zaa zab zae zo zm zu zt zv zx zb zl zg za zd zf zah zaf zp zn zaj zak ze zr zs zac zad zj zi zq zk po)) rfl ?_
  by_cases hc167 : v1 < (0 : Int32)
  · simp only [if_pos hc167] at h
    refine OEnds.ifT hm_8 rfl (q := 12) rfl ((tlt hc167).1) ?_
    refine OEnds.adv hm_8 1 (pc' := 13) (L' := [qr 1, qi v1]) (S' := [.int (-1)]) (H' := (c0 :: bk0 zag zy zw zai zz zh zc zaa zab zae zo zm zu zt zv zx zb zl zg za zd zf zah zaf zp zn zaj zak ze zr zs zac zad zj zi zq zk po)) rfl ?_
    cases h
    exact OEnds.iret hm_8 rfl rfl
  · simp only [if_neg hc167] at h
    refine OEnds.ifF hm_8 rfl ((flt hc167).1) ?_
    refine OEnds.adv hm_8 3 (pc' := 9) (L' := [qr 1, qi v1]) (S' := [.int zb, .int v1]) (H' := (c0 :: bk0 zag zy zw zai zz zh zc zaa zab zae zo zm zu zt zv zx zb zl zg za zd zf zah zaf zp zn zaj zak ze zr zs zac zad zj zi zq zk po)) rfl ?_
    by_cases hc168 : v1 < zb
    · simp only [if_pos hc168] at h
      refine OEnds.icmpT hm_8 rfl (q := 14) rfl ((tlt hc168).1) ?_
      refine OEnds.adv hm_8 3 (pc' := 19) (L' := [qr 1, qi v1]) (S' := [.int v1, .ref 2]) (H' := (c0 :: bk0 zag zy zw zai zz zh zc zaa zab zae zo zm zu zt zv zx zb zl zg za zd zf zah zaf zp zn zaj zak ze zr zs zac zad zj zi zq zk po)) rfl ?_
      obtain ⟨x154, hx154, h⟩ := bnd h
      refine OEnds.plain hm_8 rfl rfl (x_iaload rfl hx154) ?_
      show OEnds own_P 8 20 [qr 1, qi v1] [.int x154] (c0 :: bk0 zag zy zw zai zz zh zc zaa zab zae zo zm zu zt zv zx zb zl zg za zd zf zah zaf zp zn zaj zak ze zr zs zac zad zj zi zq zk po) _
      cases h
      exact OEnds.iret hm_8 rfl rfl
    · simp only [if_neg hc168] at h
      refine OEnds.icmpF hm_8 rfl ((flt hc168).1) ?_
      refine OEnds.adv hm_8 1 (pc' := 13) (L' := [qr 1, qi v1]) (S' := [.int (-1)]) (H' := (c0 :: bk0 zag zy zw zai zz zh zc zaa zab zae zo zm zu zt zv zx zb zl zg za zd zf zah zaf zp zn zaj zak ze zr zs zac zad zj zi zq zk po)) rfl ?_
      cases h
      exact OEnds.iret hm_8 rfl rfl
theorem ok_getDecodedPixel {zag zy zw zai zz zh zc zaa zab zae zo zm zu zt : List Int32} {zv zx zb zl zg za zd zf zah zaf zp zn zaj zak ze zr zs zac zad zj zi zq zk : Int32} {c0 : ACell} {po : List ACell} {v1 res : Int32} (h : f_getDecodedPixel zai zb zaj v1 = some res) : OEnds own_P 27 0 [qr 1, qi v1] [] (c0 :: bk0 zag zy zw zai zz zh zc zaa zab zae zo zm zu zt zv zx zb zl zg za zd zf zah zaf zp zn zaj zak ze zr zs zac zad zj zi zq zk po) (some (.int res), (c0 :: bk0 zag zy zw zai zz zh zc zaa zab zae zo zm zu zt zv zx zb zl zg za zd zf zah zaf zp zn zaj zak ze zr zs zac zad zj zi zq zk po), 0, 0) := by
  unfold f_getDecodedPixel at h
  refine OEnds.adv hm_27 2 (pc' := 4) (L' := [qr 1, qi v1]) (S' := [.int zaj]) (H' := (c0 :: bk0 zag zy zw zai zz zh zc zaa zab zae zo zm zu zt zv zx zb zl zg za zd zf zah zaf zp zn zaj zak ze zr zs zac zad zj zi zq zk po)) rfl ?_
  by_cases hc169 : zaj = (0 : Int32)
  · simp only [if_pos hc169] at h
    refine OEnds.ifT hm_27 rfl (q := 19) rfl ((teq hc169).1) ?_
    refine OEnds.adv hm_27 1 (pc' := 20) (L' := [qr 1, qi v1]) (S' := [.int (-1)]) (H' := (c0 :: bk0 zag zy zw zai zz zh zc zaa zab zae zo zm zu zt zv zx zb zl zg za zd zf zah zaf zp zn zaj zak ze zr zs zac zad zj zi zq zk po)) rfl ?_
    cases h
    exact OEnds.iret hm_27 rfl rfl
  · simp only [if_neg hc169] at h
    refine OEnds.ifF hm_27 rfl ((feq hc169).1) ?_
    refine OEnds.adv hm_27 1 (pc' := 8) (L' := [qr 1, qi v1]) (S' := [.int v1]) (H' := (c0 :: bk0 zag zy zw zai zz zh zc zaa zab zae zo zm zu zt zv zx zb zl zg za zd zf zah zaf zp zn zaj zak ze zr zs zac zad zj zi zq zk po)) rfl ?_
    by_cases hc170 : v1 < (0 : Int32)
    · simp only [if_pos hc170] at h
      refine OEnds.ifT hm_27 rfl (q := 19) rfl ((tlt hc170).1) ?_
      refine OEnds.adv hm_27 1 (pc' := 20) (L' := [qr 1, qi v1]) (S' := [.int (-1)]) (H' := (c0 :: bk0 zag zy zw zai zz zh zc zaa zab zae zo zm zu zt zv zx zb zl zg za zd zf zah zaf zp zn zaj zak ze zr zs zac zad zj zi zq zk po)) rfl ?_
      cases h
      exact OEnds.iret hm_27 rfl rfl
    · simp only [if_neg hc170] at h
      refine OEnds.ifF hm_27 rfl ((flt hc170).1) ?_
      refine OEnds.adv hm_27 3 (pc' := 16) (L' := [qr 1, qi v1]) (S' := [.int zb, .int v1]) (H' := (c0 :: bk0 zag zy zw zai zz zh zc zaa zab zae zo zm zu zt zv zx zb zl zg za zd zf zah zaf zp zn zaj zak ze zr zs zac zad zj zi zq zk po)) rfl ?_
      by_cases hc171 : v1 < zb
      · simp only [if_pos hc171] at h
        refine OEnds.icmpT hm_27 rfl (q := 21) rfl ((tlt hc171).1) ?_
        refine OEnds.adv hm_27 3 (pc' := 26) (L' := [qr 1, qi v1]) (S' := [.int v1, .ref 5]) (H' := (c0 :: bk0 zag zy zw zai zz zh zc zaa zab zae zo zm zu zt zv zx zb zl zg za zd zf zah zaf zp zn zaj zak ze zr zs zac zad zj zi zq zk po)) rfl ?_
        obtain ⟨x153, hx153, h⟩ := bnd h
        refine OEnds.plain hm_27 rfl rfl (x_iaload rfl hx153) ?_
        show OEnds own_P 27 27 [qr 1, qi v1] [.int x153] (c0 :: bk0 zag zy zw zai zz zh zc zaa zab zae zo zm zu zt zv zx zb zl zg za zd zf zah zaf zp zn zaj zak ze zr zs zac zad zj zi zq zk po) _
        cases h
        exact OEnds.iret hm_27 rfl rfl
      · simp only [if_neg hc171] at h
        refine OEnds.icmpF hm_27 rfl ((flt hc171).1) ?_
        refine OEnds.adv hm_27 1 (pc' := 20) (L' := [qr 1, qi v1]) (S' := [.int (-1)]) (H' := (c0 :: bk0 zag zy zw zai zz zh zc zaa zab zae zo zm zu zt zv zx zb zl zg za zd zf zah zaf zp zn zaj zak ze zr zs zac zad zj zi zq zk po)) rfl ?_
        cases h
        exact OEnds.iret hm_27 rfl rfl
theorem ok_L_law_767 {scr : List Int32} {kb : List Int32 → List Int32 → List Int32 → List Int32 → List Int32 → List Int32 → List Int32 → List Int32 → List Int32 → List Int32 → List Int32 → List Int32 → List Int32 → List Int32 → Int32 → Int32 → Int32 → Int32 → Int32 → Int32 → Int32 → Int32 → Int32 → Int32 → Int32 → Int32 → Int32 → Int32 → Int32 → Int32 → Int32 → Int32 → Int32 → Int32 → Int32 → Int32 → Int32 → Int32 → Int32 → Int32 → Int32 → Int32 → Int32 → Option (Int32)} (hkb : ∀ {zaw zbm zba zax zbt zbu zbv zbn zbo zbp zbb zbc zbd zbe : List Int32} {zan zao zal zam zap zaq zar zas zat zau zbl zav zay zaz zbq zbr zbs zbf zbg zbh zbi zbj zbk v2 v3 v4 v5 v6 v7 : Int32} {d8 d9 d10 d11 d12 d13 d14 d15 d16 d17 : Slot} {res : Int32}, kb zaw zbm zba zax zbt zbu zbv zbn zbo zbp zbb zbc zbd zbe zan zao zal zam zap zaq zar zas zat zau zbl zav zay zaz zbq zbr zbs zbf zbg zbh zbi zbj zbk v2 v3 v4 v5 v6 v7 = some res → OEndsQ own_P 0 32 [qr 0, qr 1, qi v2, qi v3, qi v4, qi v5, qi v6, qi v7, d8, d9, d10, d11, d12, d13, d14, d15, d16, d17] [] (qa scr :: bk0 zaw zbm zba zax zbt zbu zbv zbn zbo zbp zbb zbc zbd zbe zan zao zal zam zap zaq zar zas zat zau zbl zav zay zaz zbq zbr zbs zbf zbg zbh zbi zbj zbk []) (LawQ res 0 0)) : ∀ {zaw zbm zba zax zbt zbu zbv zbn zbo zbp zbb zbc zbd zbe : List Int32} {zan zao zal zam zap zaq zar zas zat zau zbl zav zay zaz zbq zbr zbs zbf zbg zbh zbi zbj zbk v2 v3 v4 v5 v6 v7 : Int32} {d8 d9 d10 d11 d12 d13 d14 d15 d16 d17 : Slot} {res : Int32}, f_L_law_767 kb scr zaw zbm zba zax zbt zbu zbv zbn zbo zbp zbb zbc zbd zbe zan zao zal zam zap zaq zar zas zat zau zbl zav zay zaz zbq zbr zbs zbf zbg zbh zbi zbj zbk v2 v3 v4 v5 v6 v7 = some res → OEndsQ own_P 0 767 [qr 0, qr 1, qi v2, qi v3, qi v4, qi v5, qi v6, qi v7, d8, d9, d10, d11, d12, d13, d14, d15, d16, d17] [] (qa scr :: bk0 zaw zbm zba zax zbt zbu zbv zbn zbo zbp zbb zbc zbd zbe zan zao zal zam zap zaq zar zas zat zau zbl zav zay zaz zbq zbr zbs zbf zbg zbh zbi zbj zbk []) (LawQ res 0 0) := by
  intro zaw zbm zba zax zbt zbu zbv zbn zbo zbp zbb zbc zbd zbe zan zao zal zam zap zaq zar zas zat zau zbl zav zay zaz zbq zbr zbs zbf zbg zbh zbi zbj zbk v2 v3 v4 v5 v6 v7 d8 d9 d10 d11 d12 d13 d14 d15 d16 d17 res h
  unfold f_L_law_767 at h
  refine OEndsQ.adv hm_0 2 (pc' := 770) (L' := [qr 0, qr 1, qi v2, qi v3, qi v4, qi v5, qi v6, qi v7, qu, qu, qu, qu, qu, qu, qu, qu, qu, qu]) (S' := [.int 8, .ref 1]) (H' := (qa scr :: bk0 zaw zbm zba zax zbt zbu zbv zbn zbo zbp zbb zbc zbd zbe zan zao zal zam zap zaq zar zas zat zau zbl zav zay zaz zbq zbr zbs zbf zbg zbh zbi zbj zbk [])) rfl ?_
  obtain ⟨r250, hq172, h⟩ := bnd h
  refine OEndsQ.call0 hm_0 rfl rfl (by decide) rfl (as := [.ref 1, .int 8]) (rest := []) rfl rfl (ok_getPixel hq172) ?_
  refine OEndsQ.adv hm_0 1 (pc' := 774) (L' := [qr 0, qr 1, qi v2, qi v3, qi v4, qi v5, qi v6, qi v7, qu, qu, qu, qu, qu, qu, qu, qu, qu, qu]) (S' := [.int (-1), .int r250]) (H' := (qa scr :: bk0 zaw zbm zba zax zbt zbu zbv zbn zbo zbp zbb zbc zbd zbe zan zao zal zam zap zaq zar zas zat zau zbl zav zay zaz zbq zbr zbs zbf zbg zbh zbi zbj zbk [])) rfl ?_
  by_cases hc173 : r250 = (-1 : Int32)
  · simp only [if_pos hc173] at h
    refine OEndsQ.icmpF hm_0 rfl ((teq hc173).2) ?_
    refine OEndsQ.adv hm_0 2 (pc' := 779) (L' := [qr 0, qr 1, qi v2, qi v3, qi v4, qi v5, qi v6, qi v7, qu, qu, qu, qu, qu, qu, qu, qu, qu, qu]) (S' := [.int (-1), .ref 1]) (H' := (qa scr :: bk0 zaw zbm zba zax zbt zbu zbv zbn zbo zbp zbb zbc zbd zbe zan zao zal zam zap zaq zar zas zat zau zbl zav zay zaz zbq zbr zbs zbf zbg zbh zbi zbj zbk [])) rfl ?_
    obtain ⟨r251, hq174, h⟩ := bnd h
    refine OEndsQ.call0 hm_0 rfl rfl (by decide) rfl (as := [.ref 1, .int (-1)]) (rest := []) rfl rfl (ok_getPixel hq174) ?_
    refine OEndsQ.adv hm_0 1 (pc' := 783) (L' := [qr 0, qr 1, qi v2, qi v3, qi v4, qi v5, qi v6, qi v7, qu, qu, qu, qu, qu, qu, qu, qu, qu, qu]) (S' := [.int (-1), .int r251]) (H' := (qa scr :: bk0 zaw zbm zba zax zbt zbu zbv zbn zbo zbp zbb zbc zbd zbe zan zao zal zam zap zaq zar zas zat zau zbl zav zay zaz zbq zbr zbs zbf zbg zbh zbi zbj zbk [])) rfl ?_
    by_cases hc175 : r251 = (-1 : Int32)
    · simp only [if_pos hc175] at h
      refine OEndsQ.icmpT hm_0 rfl (q := 788) rfl ((teq hc175).1) ?_
      refine OEndsQ.adv hm_0 2 (pc' := 791) (L' := [qr 0, qr 1, qi v2, qi v3, qi v4, qi v5, qi v6, qi v7, qu, qu, qu, qu, qu, qu, qu, qu, qu, qu]) (S' := [.int v4, .ref 1]) (H' := (qa scr :: bk0 zaw zbm zba zax zbt zbu zbv zbn zbo zbp zbb zbc zbd zbe zan zao zal zam zap zaq zar zas zat zau zbl zav zay zaz zbq zbr zbs zbf zbg zbh zbi zbj zbk [])) rfl ?_
      obtain ⟨r252, hq176, h⟩ := bnd h
      refine OEndsQ.call0 hm_0 rfl rfl (by decide) rfl (as := [.ref 1, .int v4]) (rest := []) rfl rfl (ok_getOutByte hq176) ?_
      refine OEndsQ.adv hm_0 1 (pc' := 795) (L' := [qr 0, qr 1, qi v2, qi v3, qi v4, qi v5, qi v6, qi v7, qu, qu, qu, qu, qu, qu, qu, qu, qu, qu]) (S' := [.int (-1), .int r252]) (H' := (qa scr :: bk0 zaw zbm zba zax zbt zbu zbv zbn zbo zbp zbb zbc zbd zbe zan zao zal zam zap zaq zar zas zat zau zbl zav zay zaz zbq zbr zbs zbf zbg zbh zbi zbj zbk [])) rfl ?_
      by_cases hc177 : r252 = (-1 : Int32)
      · simp only [if_pos hc177] at h
        refine OEndsQ.icmpT hm_0 rfl (q := 800) rfl ((teq hc177).1) ?_
        refine OEndsQ.adv hm_0 2 (pc' := 32) (L' := [qr 0, qr 1, qi v2, qi v3, qi v4, qi v5, qi v6, qi (v7 + (1 : Int32)), qu, qu, qu, qu, qu, qu, qu, qu, qu, qu]) (S' := []) (H' := (qa scr :: bk0 zaw zbm zba zax zbt zbu zbv zbn zbo zbp zbb zbc zbd zbe zan zao zal zam zap zaq zar zas zat zau zbl zav zay zaz zbq zbr zbs zbf zbg zbh zbi zbj zbk [])) rfl ?_
        exact hkb h
      · simp only [if_neg hc177] at h
        refine OEndsQ.icmpF hm_0 rfl ((feq hc177).1) ?_
        refine OEndsQ.adv hm_0 1 (pc' := 799) (L' := [qr 0, qr 1, qi v2, qi v3, qi v4, qi v5, qi v6, qi v7, qu, qu, qu, qu, qu, qu, qu, qu, qu, qu]) (S' := [.int 0]) (H' := (qa scr :: bk0 zaw zbm zba zax zbt zbu zbv zbn zbo zbp zbb zbc zbd zbe zan zao zal zam zap zaq zar zas zat zau zbl zav zay zaz zbq zbr zbs zbf zbg zbh zbi zbj zbk [])) rfl ?_
        cases h
        exact OEndsQ.iret hm_0 rfl rfl
    · simp only [if_neg hc175] at h
      refine OEndsQ.icmpF hm_0 rfl ((feq hc175).1) ?_
      refine OEndsQ.adv hm_0 1 (pc' := 787) (L' := [qr 0, qr 1, qi v2, qi v3, qi v4, qi v5, qi v6, qi v7, qu, qu, qu, qu, qu, qu, qu, qu, qu, qu]) (S' := [.int 0]) (H' := (qa scr :: bk0 zaw zbm zba zax zbt zbu zbv zbn zbo zbp zbb zbc zbd zbe zan zao zal zam zap zaq zar zas zat zau zbl zav zay zaz zbq zbr zbs zbf zbg zbh zbi zbj zbk [])) rfl ?_
      cases h
      exact OEndsQ.iret hm_0 rfl rfl
  · simp only [if_neg hc173] at h
    refine OEndsQ.icmpT hm_0 rfl (q := 786) rfl ((feq hc173).2) ?_
    refine OEndsQ.adv hm_0 1 (pc' := 787) (L' := [qr 0, qr 1, qi v2, qi v3, qi v4, qi v5, qi v6, qi v7, qu, qu, qu, qu, qu, qu, qu, qu, qu, qu]) (S' := [.int 0]) (H' := (qa scr :: bk0 zaw zbm zba zax zbt zbu zbv zbn zbo zbp zbb zbc zbd zbe zan zao zal zam zap zaq zar zas zat zau zbl zav zay zaz zbq zbr zbs zbf zbg zbh zbi zbj zbk [])) rfl ?_
    cases h
    exact OEndsQ.iret hm_0 rfl rfl
theorem ok_L_law_735 {scr : List Int32} {k767 : List Int32 → List Int32 → List Int32 → List Int32 → List Int32 → List Int32 → List Int32 → List Int32 → List Int32 → List Int32 → List Int32 → List Int32 → List Int32 → List Int32 → Int32 → Int32 → Int32 → Int32 → Int32 → Int32 → Int32 → Int32 → Int32 → Int32 → Int32 → Int32 → Int32 → Int32 → Int32 → Int32 → Int32 → Int32 → Int32 → Int32 → Int32 → Int32 → Int32 → Int32 → Int32 → Int32 → Int32 → Int32 → Int32 → Option (Int32)} (hk767 : ∀ {zaw zbm zba zax zbt zbu zbv zbn zbo zbp zbb zbc zbd zbe : List Int32} {zan zao zal zam zap zaq zar zas zat zau zbl zav zay zaz zbq zbr zbs zbf zbg zbh zbi zbj zbk v2 v3 v4 v5 v6 v7 : Int32} {d8 d9 d10 d11 d12 d13 d14 d15 d16 d17 : Slot} {res : Int32}, k767 zaw zbm zba zax zbt zbu zbv zbn zbo zbp zbb zbc zbd zbe zan zao zal zam zap zaq zar zas zat zau zbl zav zay zaz zbq zbr zbs zbf zbg zbh zbi zbj zbk v2 v3 v4 v5 v6 v7 = some res → OEndsQ own_P 0 767 [qr 0, qr 1, qi v2, qi v3, qi v4, qi v5, qi v6, qi v7, d8, d9, d10, d11, d12, d13, d14, d15, d16, d17] [] (qa scr :: bk0 zaw zbm zba zax zbt zbu zbv zbn zbo zbp zbb zbc zbd zbe zan zao zal zam zap zaq zar zas zat zau zbl zav zay zaz zbq zbr zbs zbf zbg zbh zbi zbj zbk []) (LawQ res 0 0)) : ∀ (n : Nat), ∀ {zaw zbm zba zax zbt zbu zbv zbn zbo zbp zbb zbc zbd zbe : List Int32} {zan zao zal zam zap zaq zar zas zat zau zbl zav zay zaz zbq zbr zbs zbf zbg zbh zbi zbj zbk v2 v3 v4 v5 v6 v7 v12 : Int32} {d8 d9 d10 d11 d13 d14 d15 d16 d17 : Slot} {res : Int32}, f_L_law_735 k767 scr n zaw zbm zba zax zbt zbu zbv zbn zbo zbp zbb zbc zbd zbe zan zao zal zam zap zaq zar zas zat zau zbl zav zay zaz zbq zbr zbs zbf zbg zbh zbi zbj zbk v2 v3 v4 v5 v6 v7 v12 = some res → OEndsQ own_P 0 735 [qr 0, qr 1, qi v2, qi v3, qi v4, qi v5, qi v6, qi v7, d8, d9, d10, d11, qi v12, d13, d14, d15, d16, d17] [] (qa scr :: bk0 zaw zbm zba zax zbt zbu zbv zbn zbo zbp zbb zbc zbd zbe zan zao zal zam zap zaq zar zas zat zau zbl zav zay zaz zbq zbr zbs zbf zbg zbh zbi zbj zbk []) (LawQ res 0 0) := by
  intro n
  induction n with
  | zero => intro zaw zbm zba zax zbt zbu zbv zbn zbo zbp zbb zbc zbd zbe zan zao zal zam zap zaq zar zas zat zau zbl zav zay zaz zbq zbr zbs zbf zbg zbh zbi zbj zbk v2 v3 v4 v5 v6 v7 v12 d8 d9 d10 d11 d13 d14 d15 d16 d17 res h; cases h
  | succ n ih =>
    intro zaw zbm zba zax zbt zbu zbv zbn zbo zbp zbb zbc zbd zbe zan zao zal zam zap zaq zar zas zat zau zbl zav zay zaz zbq zbr zbs zbf zbg zbh zbi zbj zbk v2 v3 v4 v5 v6 v7 v12 d8 d9 d10 d11 d13 d14 d15 d16 d17 res h
    unfold f_L_law_735 at h
    refine OEndsQ.adv hm_0 2 (pc' := 739) (L' := [qr 0, qr 1, qi v2, qi v3, qi v4, qi v5, qi v6, qi v7, qu, qu, qu, qu, qi v12, qu, qu, qu, qu, qu]) (S' := [.int 8, .int v12]) (H' := (qa scr :: bk0 zaw zbm zba zax zbt zbu zbv zbn zbo zbp zbb zbc zbd zbe zan zao zal zam zap zaq zar zas zat zau zbl zav zay zaz zbq zbr zbs zbf zbg zbh zbi zbj zbk [])) rfl ?_
    by_cases hc178 : v12 < (8 : Int32)
    · simp only [if_pos hc178] at h
      refine OEndsQ.icmpF hm_0 rfl ((tlt hc178).2.1) ?_
      refine OEndsQ.adv hm_0 2 (pc' := 745) (L' := [qr 0, qr 1, qi v2, qi v3, qi v4, qi v5, qi v6, qi v7, qu, qu, qu, qu, qi v12, qu, qu, qu, qu, qu]) (S' := [.int v12, .ref 1]) (H' := (qa scr :: bk0 zaw zbm zba zax zbt zbu zbv zbn zbo zbp zbb zbc zbd zbe zan zao zal zam zap zaq zar zas zat zau zbl zav zay zaz zbq zbr zbs zbf zbg zbh zbi zbj zbk [])) rfl ?_
      obtain ⟨r249, hq179, h⟩ := bnd h
      refine OEndsQ.call0 hm_0 rfl rfl (by decide) rfl (as := [.ref 1, .int v12]) (rest := []) rfl rfl (ok_getPixel hq179) ?_
      refine OEndsQ.adv hm_0 7 (pc' := 756) (L' := [qr 0, qr 1, qi v2, qi v3, qi v4, qi v5, qi v6, qi v7, qu, qu, qu, qu, qi v12, qu, qu, qu, qu, qu]) (S' := [.int ((XT.ushr v2 ((2 : Int32) * v12)) &&& (3 : Int32)), .int r249]) (H' := (qa scr :: bk0 zaw zbm zba zax zbt zbu zbv zbn zbo zbp zbb zbc zbd zbe zan zao zal zam zap zaq zar zas zat zau zbl zav zay zaz zbq zbr zbs zbf zbg zbh zbi zbj zbk [])) rfl ?_
      by_cases hc180 : r249 = ((XT.ushr v2 ((2 : Int32) * v12)) &&& (3 : Int32))
      · simp only [if_pos hc180] at h
        refine OEndsQ.icmpT hm_0 rfl (q := 761) rfl ((teq hc180).1) ?_
        refine OEndsQ.adv hm_0 2 (pc' := 735) (L' := [qr 0, qr 1, qi v2, qi v3, qi v4, qi v5, qi v6, qi v7, qu, qu, qu, qu, qi (v12 + (1 : Int32)), qu, qu, qu, qu, qu]) (S' := []) (H' := (qa scr :: bk0 zaw zbm zba zax zbt zbu zbv zbn zbo zbp zbb zbc zbd zbe zan zao zal zam zap zaq zar zas zat zau zbl zav zay zaz zbq zbr zbs zbf zbg zbh zbi zbj zbk [])) rfl ?_
        exact ih h
      · simp only [if_neg hc180] at h
        refine OEndsQ.icmpF hm_0 rfl ((feq hc180).1) ?_
        refine OEndsQ.adv hm_0 1 (pc' := 760) (L' := [qr 0, qr 1, qi v2, qi v3, qi v4, qi v5, qi v6, qi v7, qu, qu, qu, qu, qi v12, qu, qu, qu, qu, qu]) (S' := [.int 0]) (H' := (qa scr :: bk0 zaw zbm zba zax zbt zbu zbv zbn zbo zbp zbb zbc zbd zbe zan zao zal zam zap zaq zar zas zat zau zbl zav zay zaz zbq zbr zbs zbf zbg zbh zbi zbj zbk [])) rfl ?_
        cases h
        exact OEndsQ.iret hm_0 rfl rfl
    · simp only [if_neg hc178] at h
      refine OEndsQ.icmpT hm_0 rfl (q := 767) rfl ((flt hc178).2.1) ?_
      show OEndsQ own_P 0 767 [qr 0, qr 1, qi v2, qi v3, qi v4, qi v5, qi v6, qi v7, qu, qu, qu, qu, qi v12, qu, qu, qu, qu, qu] [] (qa scr :: bk0 zaw zbm zba zax zbt zbu zbv zbn zbo zbp zbb zbc zbd zbe zan zao zal zam zap zaq zar zas zat zau zbl zav zay zaz zbq zbr zbs zbf zbg zbh zbi zbj zbk []) _
      exact hk767 h
theorem ok_L_law_702 {scr : List Int32} {kb : List Int32 → List Int32 → List Int32 → List Int32 → List Int32 → List Int32 → List Int32 → List Int32 → List Int32 → List Int32 → List Int32 → List Int32 → List Int32 → List Int32 → Int32 → Int32 → Int32 → Int32 → Int32 → Int32 → Int32 → Int32 → Int32 → Int32 → Int32 → Int32 → Int32 → Int32 → Int32 → Int32 → Int32 → Int32 → Int32 → Int32 → Int32 → Int32 → Int32 → Int32 → Int32 → Int32 → Int32 → Int32 → Int32 → Option (Int32)} (hkb : ∀ {zaw zbm zba zax zbt zbu zbv zbn zbo zbp zbb zbc zbd zbe : List Int32} {zan zao zal zam zap zaq zar zas zat zau zbl zav zay zaz zbq zbr zbs zbf zbg zbh zbi zbj zbk v2 v3 v4 v5 v6 v7 : Int32} {d8 d9 d10 d11 d12 d13 d14 d15 d16 d17 : Slot} {res : Int32}, kb zaw zbm zba zax zbt zbu zbv zbn zbo zbp zbb zbc zbd zbe zan zao zal zam zap zaq zar zas zat zau zbl zav zay zaz zbq zbr zbs zbf zbg zbh zbi zbj zbk v2 v3 v4 v5 v6 v7 = some res → OEndsQ own_P 0 32 [qr 0, qr 1, qi v2, qi v3, qi v4, qi v5, qi v6, qi v7, d8, d9, d10, d11, d12, d13, d14, d15, d16, d17] [] (qa scr :: bk0 zaw zbm zba zax zbt zbu zbv zbn zbo zbp zbb zbc zbd zbe zan zao zal zam zap zaq zar zas zat zau zbl zav zay zaz zbq zbr zbs zbf zbg zbh zbi zbj zbk []) (LawQ res 0 0)) : ∀ {zaw zbm zba zax zbt zbu zbv zbn zbo zbp zbb zbc zbd zbe : List Int32} {zan zao zal zam zap zaq zar zas zat zau zbl zav zay zaz zbq zbr zbs zbf zbg zbh zbi zbj zbk v2 v3 v4 v5 v6 v7 : Int32} {d8 d9 d10 d11 d12 d13 d14 d15 d16 d17 : Slot} {res : Int32}, f_L_law_702 kb scr zaw zbm zba zax zbt zbu zbv zbn zbo zbp zbb zbc zbd zbe zan zao zal zam zap zaq zar zas zat zau zbl zav zay zaz zbq zbr zbs zbf zbg zbh zbi zbj zbk v2 v3 v4 v5 v6 v7 = some res → OEndsQ own_P 0 702 [qr 0, qr 1, qi v2, qi v3, qi v4, qi v5, qi v6, qi v7, d8, d9, d10, d11, d12, d13, d14, d15, d16, d17] [] (qa scr :: bk0 zaw zbm zba zax zbt zbu zbv zbn zbo zbp zbb zbc zbd zbe zan zao zal zam zap zaq zar zas zat zau zbl zav zay zaz zbq zbr zbs zbf zbg zbh zbi zbj zbk []) (LawQ res 0 0) := by
  intro zaw zbm zba zax zbt zbu zbv zbn zbo zbp zbb zbc zbd zbe zan zao zal zam zap zaq zar zas zat zau zbl zav zay zaz zbq zbr zbs zbf zbg zbh zbi zbj zbk v2 v3 v4 v5 v6 v7 d8 d9 d10 d11 d12 d13 d14 d15 d16 d17 res h
  unfold f_L_law_702 at h
  refine OEndsQ.adv hm_0 1 (pc' := 703) (L' := [qr 0, qr 1, qi v2, qi v3, qi v4, qi v5, qi v6, qi v7, qu, qu, qu, qu, qu, qu, qu, qu, qu, qu]) (S' := [.ref 1]) (H' := (qa scr :: bk0 zaw zbm zba zax zbt zbu zbv zbn zbo zbp zbb zbc zbd zbe zan zao zal zam zap zaq zar zas zat zau zbl zav zay zaz zbq zbr zbs zbf zbg zbh zbi zbj zbk [])) rfl ?_
  obtain ⟨r246, hq181, h⟩ := bnd h
  refine OEndsQ.call0 hm_0 rfl rfl (by decide) rfl (as := [.ref 1]) (rest := []) rfl rfl (ok_getInLength hq181) ?_
  refine OEndsQ.adv hm_0 1 (pc' := 707) (L' := [qr 0, qr 1, qi v2, qi v3, qi v4, qi v5, qi v6, qi v7, qu, qu, qu, qu, qu, qu, qu, qu, qu, qu]) (S' := [.int v3, .int r246]) (H' := (qa scr :: bk0 zaw zbm zba zax zbt zbu zbv zbn zbo zbp zbb zbc zbd zbe zan zao zal zam zap zaq zar zas zat zau zbl zav zay zaz zbq zbr zbs zbf zbg zbh zbi zbj zbk [])) rfl ?_
  by_cases hc182 : r246 = v3
  · simp only [if_pos hc182] at h
    refine OEndsQ.icmpF hm_0 rfl ((teq hc182).2) ?_
    refine OEndsQ.adv hm_0 1 (pc' := 711) (L' := [qr 0, qr 1, qi v2, qi v3, qi v4, qi v5, qi v6, qi v7, qu, qu, qu, qu, qu, qu, qu, qu, qu, qu]) (S' := [.ref 1]) (H' := (qa scr :: bk0 zaw zbm zba zax zbt zbu zbv zbn zbo zbp zbb zbc zbd zbe zan zao zal zam zap zaq zar zas zat zau zbl zav zay zaz zbq zbr zbs zbf zbg zbh zbi zbj zbk [])) rfl ?_
    obtain ⟨r247, hq183, h⟩ := bnd h
    refine OEndsQ.call0 hm_0 rfl rfl (by decide) rfl (as := [.ref 1]) (rest := []) rfl rfl (ok_getOutLength hq183) ?_
    refine OEndsQ.adv hm_0 1 (pc' := 716) (L' := [qr 0, qr 1, qi v2, qi v3, qi v4, qi v5, qi v6, qi v7, qu, qu, qu, qu, qu, qu, qu, qu, qu, qu]) (S' := [.int v4, .int r247]) (H' := (qa scr :: bk0 zaw zbm zba zax zbt zbu zbv zbn zbo zbp zbb zbc zbd zbe zan zao zal zam zap zaq zar zas zat zau zbl zav zay zaz zbq zbr zbs zbf zbg zbh zbi zbj zbk [])) rfl ?_
    by_cases hc184 : r247 = v4
    · simp only [if_pos hc184] at h
      refine OEndsQ.icmpT hm_0 rfl (q := 721) rfl ((teq hc184).1) ?_
      refine OEndsQ.adv hm_0 1 (pc' := 722) (L' := [qr 0, qr 1, qi v2, qi v3, qi v4, qi v5, qi v6, qi v7, qu, qu, qu, qu, qu, qu, qu, qu, qu, qu]) (S' := [.ref 1]) (H' := (qa scr :: bk0 zaw zbm zba zax zbt zbu zbv zbn zbo zbp zbb zbc zbd zbe zan zao zal zam zap zaq zar zas zat zau zbl zav zay zaz zbq zbr zbs zbf zbg zbh zbi zbj zbk [])) rfl ?_
      obtain ⟨r248, hq185, h⟩ := bnd h
      refine OEndsQ.call0 hm_0 rfl rfl (by decide) rfl (as := [.ref 1]) (rest := []) rfl rfl (ok_getStatus hq185) ?_
      refine OEndsQ.adv hm_0 1 (pc' := 727) (L' := [qr 0, qr 1, qi v2, qi v3, qi v4, qi v5, qi v6, qi v7, qu, qu, qu, qu, qu, qu, qu, qu, qu, qu]) (S' := [.int v5, .int r248]) (H' := (qa scr :: bk0 zaw zbm zba zax zbt zbu zbv zbn zbo zbp zbb zbc zbd zbe zan zao zal zam zap zaq zar zas zat zau zbl zav zay zaz zbq zbr zbs zbf zbg zbh zbi zbj zbk [])) rfl ?_
      by_cases hc186 : r248 = v5
      · simp only [if_pos hc186] at h
        refine OEndsQ.icmpT hm_0 rfl (q := 732) rfl ((teq hc186).1) ?_
        refine OEndsQ.adv hm_0 2 (pc' := 735) (L' := [qr 0, qr 1, qi v2, qi v3, qi v4, qi v5, qi v6, qi v7, qu, qu, qu, qu, qi 0, qu, qu, qu, qu, qu]) (S' := []) (H' := (qa scr :: bk0 zaw zbm zba zax zbt zbu zbv zbn zbo zbp zbb zbc zbd zbe zan zao zal zam zap zaq zar zas zat zau zbl zav zay zaz zbq zbr zbs zbf zbg zbh zbi zbj zbk [])) rfl ?_
        exact ok_L_law_735 (k767 := f_L_law_767 kb scr) (ok_L_law_767 hkb) 100000 h
      · simp only [if_neg hc186] at h
        refine OEndsQ.icmpF hm_0 rfl ((feq hc186).1) ?_
        refine OEndsQ.adv hm_0 1 (pc' := 731) (L' := [qr 0, qr 1, qi v2, qi v3, qi v4, qi v5, qi v6, qi v7, qu, qu, qu, qu, qu, qu, qu, qu, qu, qu]) (S' := [.int 0]) (H' := (qa scr :: bk0 zaw zbm zba zax zbt zbu zbv zbn zbo zbp zbb zbc zbd zbe zan zao zal zam zap zaq zar zas zat zau zbl zav zay zaz zbq zbr zbs zbf zbg zbh zbi zbj zbk [])) rfl ?_
        cases h
        exact OEndsQ.iret hm_0 rfl rfl
    · simp only [if_neg hc184] at h
      refine OEndsQ.icmpF hm_0 rfl ((feq hc184).1) ?_
      refine OEndsQ.adv hm_0 1 (pc' := 720) (L' := [qr 0, qr 1, qi v2, qi v3, qi v4, qi v5, qi v6, qi v7, qu, qu, qu, qu, qu, qu, qu, qu, qu, qu]) (S' := [.int 0]) (H' := (qa scr :: bk0 zaw zbm zba zax zbt zbu zbv zbn zbo zbp zbb zbc zbd zbe zan zao zal zam zap zaq zar zas zat zau zbl zav zay zaz zbq zbr zbs zbf zbg zbh zbi zbj zbk [])) rfl ?_
      cases h
      exact OEndsQ.iret hm_0 rfl rfl
  · simp only [if_neg hc182] at h
    refine OEndsQ.icmpT hm_0 rfl (q := 719) rfl ((feq hc182).2) ?_
    refine OEndsQ.adv hm_0 1 (pc' := 720) (L' := [qr 0, qr 1, qi v2, qi v3, qi v4, qi v5, qi v6, qi v7, qu, qu, qu, qu, qu, qu, qu, qu, qu, qu]) (S' := [.int 0]) (H' := (qa scr :: bk0 zaw zbm zba zax zbt zbu zbv zbn zbo zbp zbb zbc zbd zbe zan zao zal zam zap zaq zar zas zat zau zbl zav zay zaz zbq zbr zbs zbf zbg zbh zbi zbj zbk [])) rfl ?_
    cases h
    exact OEndsQ.iret hm_0 rfl rfl
theorem ok_L_law_684 {scr : List Int32} {kb : List Int32 → List Int32 → List Int32 → List Int32 → List Int32 → List Int32 → List Int32 → List Int32 → List Int32 → List Int32 → List Int32 → List Int32 → List Int32 → List Int32 → Int32 → Int32 → Int32 → Int32 → Int32 → Int32 → Int32 → Int32 → Int32 → Int32 → Int32 → Int32 → Int32 → Int32 → Int32 → Int32 → Int32 → Int32 → Int32 → Int32 → Int32 → Int32 → Int32 → Int32 → Int32 → Int32 → Int32 → Int32 → Int32 → Option (Int32)} (hkb : ∀ {zaw zbm zba zax zbt zbu zbv zbn zbo zbp zbb zbc zbd zbe : List Int32} {zan zao zal zam zap zaq zar zas zat zau zbl zav zay zaz zbq zbr zbs zbf zbg zbh zbi zbj zbk v2 v3 v4 v5 v6 v7 : Int32} {d8 d9 d10 d11 d12 d13 d14 d15 d16 d17 : Slot} {res : Int32}, kb zaw zbm zba zax zbt zbu zbv zbn zbo zbp zbb zbc zbd zbe zan zao zal zam zap zaq zar zas zat zau zbl zav zay zaz zbq zbr zbs zbf zbg zbh zbi zbj zbk v2 v3 v4 v5 v6 v7 = some res → OEndsQ own_P 0 32 [qr 0, qr 1, qi v2, qi v3, qi v4, qi v5, qi v6, qi v7, d8, d9, d10, d11, d12, d13, d14, d15, d16, d17] [] (qa scr :: bk0 zaw zbm zba zax zbt zbu zbv zbn zbo zbp zbb zbc zbd zbe zan zao zal zam zap zaq zar zas zat zau zbl zav zay zaz zbq zbr zbs zbf zbg zbh zbi zbj zbk []) (LawQ res 0 0)) : ∀ {zaw zbm zba zax zbt zbu zbv zbn zbo zbp zbb zbc zbd zbe : List Int32} {zan zao zal zam zap zaq zar zas zat zau zbl zav zay zaz zbq zbr zbs zbf zbg zbh zbi zbj zbk v2 v3 v4 v5 v6 v7 v12 v13 : Int32} {d8 d9 d10 d11 d14 d15 d16 d17 : Slot} {res : Int32}, f_L_law_684 kb scr zaw zbm zba zax zbt zbu zbv zbn zbo zbp zbb zbc zbd zbe zan zao zal zam zap zaq zar zas zat zau zbl zav zay zaz zbq zbr zbs zbf zbg zbh zbi zbj zbk v2 v3 v4 v5 v6 v7 v12 v13 = some res → OEndsQ own_P 0 684 [qr 0, qr 1, qi v2, qi v3, qi v4, qi v5, qi v6, qi v7, d8, d9, d10, d11, qi v12, qi v13, d14, d15, d16, d17] [] (qa scr :: bk0 zaw zbm zba zax zbt zbu zbv zbn zbo zbp zbb zbc zbd zbe zan zao zal zam zap zaq zar zas zat zau zbl zav zay zaz zbq zbr zbs zbf zbg zbh zbi zbj zbk []) (LawQ res 0 0) := by
  intro zaw zbm zba zax zbt zbu zbv zbn zbo zbp zbb zbc zbd zbe zan zao zal zam zap zaq zar zas zat zau zbl zav zay zaz zbq zbr zbs zbf zbg zbh zbi zbj zbk v2 v3 v4 v5 v6 v7 v12 v13 d8 d9 d10 d11 d14 d15 d16 d17 res h
  unfold f_L_law_684 at h
  refine OEndsQ.adv hm_0 1 (pc' := 686) (L' := [qr 0, qr 1, qi v2, qi v3, qi v4, qi v5, qi v6, qi v7, qu, qu, qu, qu, qi v12, qi v13, qu, qu, qu, qu]) (S' := [.int v12]) (H' := (qa scr :: bk0 zaw zbm zba zax zbt zbu zbv zbn zbo zbp zbb zbc zbd zbe zan zao zal zam zap zaq zar zas zat zau zbl zav zay zaz zbq zbr zbs zbf zbg zbh zbi zbj zbk [])) rfl ?_
  by_cases hc187 : v12 = (0 : Int32)
  · simp only [if_pos hc187] at h
    refine OEndsQ.ifF hm_0 rfl ((teq hc187).2) ?_
    refine OEndsQ.adv hm_0 1 (pc' := 691) (L' := [qr 0, qr 1, qi v2, qi v3, qi v4, qi v5, qi v6, qi v7, qu, qu, qu, qu, qi v12, qi v13, qu, qu, qu, qu]) (S' := [.int v13]) (H' := (qa scr :: bk0 zaw zbm zba zax zbt zbu zbv zbn zbo zbp zbb zbc zbd zbe zan zao zal zam zap zaq zar zas zat zau zbl zav zay zaz zbq zbr zbs zbf zbg zbh zbi zbj zbk [])) rfl ?_
    by_cases hc188 : v13 < (0 : Int32)
    · simp only [if_pos hc188] at h
      refine OEndsQ.ifT hm_0 rfl (q := 700) rfl ((tlt hc188).1) ?_
      refine OEndsQ.adv hm_0 1 (pc' := 701) (L' := [qr 0, qr 1, qi v2, qi v3, qi v4, qi v5, qi v6, qi v7, qu, qu, qu, qu, qi v12, qi v13, qu, qu, qu, qu]) (S' := [.int 0]) (H' := (qa scr :: bk0 zaw zbm zba zax zbt zbu zbv zbn zbo zbp zbb zbc zbd zbe zan zao zal zam zap zaq zar zas zat zau zbl zav zay zaz zbq zbr zbs zbf zbg zbh zbi zbj zbk [])) rfl ?_
      cases h
      exact OEndsQ.iret hm_0 rfl rfl
    · simp only [if_neg hc188] at h
      refine OEndsQ.ifF hm_0 rfl ((flt hc188).1) ?_
      refine OEndsQ.adv hm_0 2 (pc' := 697) (L' := [qr 0, qr 1, qi v2, qi v3, qi v4, qi v5, qi v6, qi v7, qu, qu, qu, qu, qi v12, qi v13, qu, qu, qu, qu]) (S' := [.int 3, .int v13]) (H' := (qa scr :: bk0 zaw zbm zba zax zbt zbu zbv zbn zbo zbp zbb zbc zbd zbe zan zao zal zam zap zaq zar zas zat zau zbl zav zay zaz zbq zbr zbs zbf zbg zbh zbi zbj zbk [])) rfl ?_
      by_cases hc189 : (3 : Int32) < v13
      · simp only [if_pos hc189] at h
        refine OEndsQ.icmpF hm_0 rfl ((tlt hc189).2.2.2) ?_
        refine OEndsQ.adv hm_0 1 (pc' := 701) (L' := [qr 0, qr 1, qi v2, qi v3, qi v4, qi v5, qi v6, qi v7, qu, qu, qu, qu, qi v12, qi v13, qu, qu, qu, qu]) (S' := [.int 0]) (H' := (qa scr :: bk0 zaw zbm zba zax zbt zbu zbv zbn zbo zbp zbb zbc zbd zbe zan zao zal zam zap zaq zar zas zat zau zbl zav zay zaz zbq zbr zbs zbf zbg zbh zbi zbj zbk [])) rfl ?_
        cases h
        exact OEndsQ.iret hm_0 rfl rfl
      · simp only [if_neg hc189] at h
        refine OEndsQ.icmpT hm_0 rfl (q := 702) rfl ((flt hc189).2.2.2) ?_
        show OEndsQ own_P 0 702 [qr 0, qr 1, qi v2, qi v3, qi v4, qi v5, qi v6, qi v7, qu, qu, qu, qu, qi v12, qi v13, qu, qu, qu, qu] [] (qa scr :: bk0 zaw zbm zba zax zbt zbu zbv zbn zbo zbp zbb zbc zbd zbe zan zao zal zam zap zaq zar zas zat zau zbl zav zay zaz zbq zbr zbs zbf zbg zbh zbi zbj zbk []) _
        exact ok_L_law_702 hkb h
  · simp only [if_neg hc187] at h
    refine OEndsQ.ifT hm_0 rfl (q := 702) rfl ((feq hc187).2) ?_
    show OEndsQ own_P 0 702 [qr 0, qr 1, qi v2, qi v3, qi v4, qi v5, qi v6, qi v7, qu, qu, qu, qu, qi v12, qi v13, qu, qu, qu, qu] [] (qa scr :: bk0 zaw zbm zba zax zbt zbu zbv zbn zbo zbp zbb zbc zbd zbe zan zao zal zam zap zaq zar zas zat zau zbl zav zay zaz zbq zbr zbs zbf zbg zbh zbi zbj zbk []) _
    exact ok_L_law_702 hkb h
theorem ok_L_law_664 {scr : List Int32} {kb : List Int32 → List Int32 → List Int32 → List Int32 → List Int32 → List Int32 → List Int32 → List Int32 → List Int32 → List Int32 → List Int32 → List Int32 → List Int32 → List Int32 → Int32 → Int32 → Int32 → Int32 → Int32 → Int32 → Int32 → Int32 → Int32 → Int32 → Int32 → Int32 → Int32 → Int32 → Int32 → Int32 → Int32 → Int32 → Int32 → Int32 → Int32 → Int32 → Int32 → Int32 → Int32 → Int32 → Int32 → Int32 → Int32 → Option (Int32)} (hkb : ∀ {zaw zbm zba zax zbt zbu zbv zbn zbo zbp zbb zbc zbd zbe : List Int32} {zan zao zal zam zap zaq zar zas zat zau zbl zav zay zaz zbq zbr zbs zbf zbg zbh zbi zbj zbk v2 v3 v4 v5 v6 v7 : Int32} {d8 d9 d10 d11 d12 d13 d14 d15 d16 d17 : Slot} {res : Int32}, kb zaw zbm zba zax zbt zbu zbv zbn zbo zbp zbb zbc zbd zbe zan zao zal zam zap zaq zar zas zat zau zbl zav zay zaz zbq zbr zbs zbf zbg zbh zbi zbj zbk v2 v3 v4 v5 v6 v7 = some res → OEndsQ own_P 0 32 [qr 0, qr 1, qi v2, qi v3, qi v4, qi v5, qi v6, qi v7, d8, d9, d10, d11, d12, d13, d14, d15, d16, d17] [] (qa scr :: bk0 zaw zbm zba zax zbt zbu zbv zbn zbo zbp zbb zbc zbd zbe zan zao zal zam zap zaq zar zas zat zau zbl zav zay zaz zbq zbr zbs zbf zbg zbh zbi zbj zbk []) (LawQ res 0 0)) : ∀ {zaw zbm zba zax zbt zbu zbv zbn zbo zbp zbb zbc zbd zbe : List Int32} {zan zao zal zam zap zaq zar zas zat zau zbl zav zay zaz zbq zbr zbs zbf zbg zbh zbi zbj zbk v2 v3 v4 v5 v6 v7 v12 : Int32} {d8 d9 d10 d11 d13 d14 d15 d16 d17 : Slot} {res : Int32}, f_L_law_664 kb scr zaw zbm zba zax zbt zbu zbv zbn zbo zbp zbb zbc zbd zbe zan zao zal zam zap zaq zar zas zat zau zbl zav zay zaz zbq zbr zbs zbf zbg zbh zbi zbj zbk v2 v3 v4 v5 v6 v7 v12 = some res → OEndsQ own_P 0 664 [qr 0, qr 1, qi v2, qi v3, qi v4, qi v5, qi v6, qi v7, d8, d9, d10, d11, qi v12, d13, d14, d15, d16, d17] [] (qa scr :: bk0 zaw zbm zba zax zbt zbu zbv zbn zbo zbp zbb zbc zbd zbe zan zao zal zam zap zaq zar zas zat zau zbl zav zay zaz zbq zbr zbs zbf zbg zbh zbi zbj zbk []) (LawQ res 0 0) := by
  intro zaw zbm zba zax zbt zbu zbv zbn zbo zbp zbb zbc zbd zbe zan zao zal zam zap zaq zar zas zat zau zbl zav zay zaz zbq zbr zbs zbf zbg zbh zbi zbj zbk v2 v3 v4 v5 v6 v7 v12 d8 d9 d10 d11 d13 d14 d15 d16 d17 res h
  unfold f_L_law_664 at h
  refine OEndsQ.adv hm_0 2 (pc' := 666) (L' := [qr 0, qr 1, qi v2, qi v3, qi v4, qi v5, qi v6, qi v7, qu, qu, qu, qu, qi v12, qu, qu, qu, qu, qu]) (S' := [.int 0, .ref 1]) (H' := (qa scr :: bk0 zaw zbm zba zax zbt zbu zbv zbn zbo zbp zbb zbc zbd zbe zan zao zal zam zap zaq zar zas zat zau zbl zav zay zaz zbq zbr zbs zbf zbg zbh zbi zbj zbk [])) rfl ?_
  obtain ⟨r253, hq190, h⟩ := bnd h
  refine OEndsQ.call0 hm_0 rfl rfl (by decide) rfl (as := [.ref 1, .int 0]) (rest := []) rfl rfl (ok_getDecodedPixel hq190) ?_
  refine OEndsQ.adv hm_0 2 (pc' := 673) (L' := [qr 0, qr 1, qi v2, qi v3, qi v4, qi v5, qi v6, qi v7, qu, qu, qu, qu, qi v12, qi r253, qu, qu, qu, qu]) (S' := [.int v12]) (H' := (qa scr :: bk0 zaw zbm zba zax zbt zbu zbv zbn zbo zbp zbb zbc zbd zbe zan zao zal zam zap zaq zar zas zat zau zbl zav zay zaz zbq zbr zbs zbf zbg zbh zbi zbj zbk [])) rfl ?_
  by_cases hc191 : v12 = (0 : Int32)
  · simp only [if_pos hc191] at h
    refine OEndsQ.ifT hm_0 rfl (q := 684) rfl ((teq hc191).1) ?_
    show OEndsQ own_P 0 684 [qr 0, qr 1, qi v2, qi v3, qi v4, qi v5, qi v6, qi v7, qu, qu, qu, qu, qi v12, qi r253, qu, qu, qu, qu] [] (qa scr :: bk0 zaw zbm zba zax zbt zbu zbv zbn zbo zbp zbb zbc zbd zbe zan zao zal zam zap zaq zar zas zat zau zbl zav zay zaz zbq zbr zbs zbf zbg zbh zbi zbj zbk []) _
    exact ok_L_law_684 hkb h
  · simp only [if_neg hc191] at h
    refine OEndsQ.ifF hm_0 rfl ((feq hc191).1) ?_
    refine OEndsQ.adv hm_0 2 (pc' := 679) (L' := [qr 0, qr 1, qi v2, qi v3, qi v4, qi v5, qi v6, qi v7, qu, qu, qu, qu, qi v12, qi r253, qu, qu, qu, qu]) (S' := [.int (-1), .int r253]) (H' := (qa scr :: bk0 zaw zbm zba zax zbt zbu zbv zbn zbo zbp zbb zbc zbd zbe zan zao zal zam zap zaq zar zas zat zau zbl zav zay zaz zbq zbr zbs zbf zbg zbh zbi zbj zbk [])) rfl ?_
    by_cases hc192 : r253 = (-1 : Int32)
    · simp only [if_pos hc192] at h
      refine OEndsQ.icmpT hm_0 rfl (q := 684) rfl ((teq hc192).1) ?_
      show OEndsQ own_P 0 684 [qr 0, qr 1, qi v2, qi v3, qi v4, qi v5, qi v6, qi v7, qu, qu, qu, qu, qi v12, qi r253, qu, qu, qu, qu] [] (qa scr :: bk0 zaw zbm zba zax zbt zbu zbv zbn zbo zbp zbb zbc zbd zbe zan zao zal zam zap zaq zar zas zat zau zbl zav zay zaz zbq zbr zbs zbf zbg zbh zbi zbj zbk []) _
      exact ok_L_law_684 hkb h
    · simp only [if_neg hc192] at h
      refine OEndsQ.icmpF hm_0 rfl ((feq hc192).1) ?_
      refine OEndsQ.adv hm_0 1 (pc' := 683) (L' := [qr 0, qr 1, qi v2, qi v3, qi v4, qi v5, qi v6, qi v7, qu, qu, qu, qu, qi v12, qi r253, qu, qu, qu, qu]) (S' := [.int 0]) (H' := (qa scr :: bk0 zaw zbm zba zax zbt zbu zbv zbn zbo zbp zbb zbc zbd zbe zan zao zal zam zap zaq zar zas zat zau zbl zav zay zaz zbq zbr zbs zbf zbg zbh zbi zbj zbk [])) rfl ?_
      cases h
      exact OEndsQ.iret hm_0 rfl rfl
theorem ok_L_law_576 {scr : List Int32} {kb : List Int32 → List Int32 → List Int32 → List Int32 → List Int32 → List Int32 → List Int32 → List Int32 → List Int32 → List Int32 → List Int32 → List Int32 → List Int32 → List Int32 → Int32 → Int32 → Int32 → Int32 → Int32 → Int32 → Int32 → Int32 → Int32 → Int32 → Int32 → Int32 → Int32 → Int32 → Int32 → Int32 → Int32 → Int32 → Int32 → Int32 → Int32 → Int32 → Int32 → Int32 → Int32 → Int32 → Int32 → Int32 → Int32 → Option (Int32)} (hkb : ∀ {zaw zbm zba zax zbt zbu zbv zbn zbo zbp zbb zbc zbd zbe : List Int32} {zan zao zal zam zap zaq zar zas zat zau zbl zav zay zaz zbq zbr zbs zbf zbg zbh zbi zbj zbk v2 v3 v4 v5 v6 v7 : Int32} {d8 d9 d10 d11 d12 d13 d14 d15 d16 d17 : Slot} {res : Int32}, kb zaw zbm zba zax zbt zbu zbv zbn zbo zbp zbb zbc zbd zbe zan zao zal zam zap zaq zar zas zat zau zbl zav zay zaz zbq zbr zbs zbf zbg zbh zbi zbj zbk v2 v3 v4 v5 v6 v7 = some res → OEndsQ own_P 0 32 [qr 0, qr 1, qi v2, qi v3, qi v4, qi v5, qi v6, qi v7, d8, d9, d10, d11, d12, d13, d14, d15, d16, d17] [] (qa scr :: bk0 zaw zbm zba zax zbt zbu zbv zbn zbo zbp zbb zbc zbd zbe zan zao zal zam zap zaq zar zas zat zau zbl zav zay zaz zbq zbr zbs zbf zbg zbh zbi zbj zbk []) (LawQ res 0 0)) : ∀ {zaw zbm zba zax zbt zbu zbv zbn zbo zbp zbb zbc zbd zbe : List Int32} {zan zao zal zam zap zaq zar zas zat zau zbl zav zay zaz zbq zbr zbs zbf zbg zbh zbi zbj zbk v2 v3 v4 v5 v6 v7 v12 v13 t0 : Int32} {d8 d9 d10 d11 d14 d15 d16 d17 : Slot} {res : Int32}, f_L_law_576 kb scr zaw zbm zba zax zbt zbu zbv zbn zbo zbp zbb zbc zbd zbe zan zao zal zam zap zaq zar zas zat zau zbl zav zay zaz zbq zbr zbs zbf zbg zbh zbi zbj zbk v2 v3 v4 v5 v6 v7 v12 v13 t0 = some res → OEndsQ own_P 0 576 [qr 0, qr 1, qi v2, qi v3, qi v4, qi v5, qi v6, qi v7, d8, d9, d10, d11, qi v12, qi v13, d14, d15, d16, d17] [.int t0] (qa scr :: bk0 zaw zbm zba zax zbt zbu zbv zbn zbo zbp zbb zbc zbd zbe zan zao zal zam zap zaq zar zas zat zau zbl zav zay zaz zbq zbr zbs zbf zbg zbh zbi zbj zbk []) (LawQ res 0 0) := by
  intro zaw zbm zba zax zbt zbu zbv zbn zbo zbp zbb zbc zbd zbe zan zao zal zam zap zaq zar zas zat zau zbl zav zay zaz zbq zbr zbs zbf zbg zbh zbi zbj zbk v2 v3 v4 v5 v6 v7 v12 v13 t0 d8 d9 d10 d11 d14 d15 d16 d17 res h
  unfold f_L_law_576 at h
  refine OEndsQ.adv hm_0 4 (pc' := 583) (L' := [qr 0, qr 1, qi v2, qi v3, qi v4, qi v5, qi v6, qi v7, qu, qu, qu, qu, qi v12, qi v13, qi t0, qu, qu, qu]) (S' := [.int v13, .int v12, .ref 1]) (H' := (qa scr :: bk0 zaw zbm zba zax zbt zbu zbv zbn zbo zbp zbb zbc zbd zbe zan zao zal zam zap zaq zar zas zat zau zbl zav zay zaz zbq zbr zbs zbf zbg zbh zbi zbj zbk [])) rfl ?_
  obtain ⟨⟨r244, s245⟩, hq193, h⟩ := bnd h
  refine OEndsQ.call0 hm_0 rfl rfl (by decide) rfl (as := [.ref 1, .int v12, .int v13]) (rest := []) rfl rfl (ok_setInByte hq193) ?_
  refine OEndsQ.adv hm_0 3 (pc' := 592) (L' := [qr 0, qr 1, qi v2, qi v3, qi v4, qi v5, qi v6, qi v7, qu, qu, qu, qu, qi v12, qi v13, qi t0, qi r244, qu, qu]) (S' := [.int t0, .int r244]) (H' := (qa scr :: bk0 zaw zbm s245 zax zbt zbu zbv zbn zbo zbp zbb zbc zbd zbe zan zao zal zam zap zaq zar zas zat zau zbl zav zay zaz zbq zbr zbs zbf zbg zbh zbi zbj zbk [])) rfl ?_
  by_cases hc194 : r244 = t0
  · simp only [if_pos hc194] at h
    refine OEndsQ.icmpT hm_0 rfl (q := 597) rfl ((teq hc194).1) ?_
    refine OEndsQ.adv hm_0 1 (pc' := 702) (L' := [qr 0, qr 1, qi v2, qi v3, qi v4, qi v5, qi v6, qi v7, qu, qu, qu, qu, qi v12, qi v13, qi t0, qi r244, qu, qu]) (S' := []) (H' := (qa scr :: bk0 zaw zbm s245 zax zbt zbu zbv zbn zbo zbp zbb zbc zbd zbe zan zao zal zam zap zaq zar zas zat zau zbl zav zay zaz zbq zbr zbs zbf zbg zbh zbi zbj zbk [])) rfl ?_
    exact ok_L_law_702 hkb h
  · simp only [if_neg hc194] at h
    refine OEndsQ.icmpF hm_0 rfl ((feq hc194).1) ?_
    refine OEndsQ.adv hm_0 1 (pc' := 596) (L' := [qr 0, qr 1, qi v2, qi v3, qi v4, qi v5, qi v6, qi v7, qu, qu, qu, qu, qi v12, qi v13, qi t0, qi r244, qu, qu]) (S' := [.int 0]) (H' := (qa scr :: bk0 zaw zbm s245 zax zbt zbu zbv zbn zbo zbp zbb zbc zbd zbe zan zao zal zam zap zaq zar zas zat zau zbl zav zay zaz zbq zbr zbs zbf zbg zbh zbi zbj zbk [])) rfl ?_
    cases h
    exact OEndsQ.iret hm_0 rfl rfl
theorem ok_L_law_504 {scr : List Int32} {kb : List Int32 → List Int32 → List Int32 → List Int32 → List Int32 → List Int32 → List Int32 → List Int32 → List Int32 → List Int32 → List Int32 → List Int32 → List Int32 → List Int32 → Int32 → Int32 → Int32 → Int32 → Int32 → Int32 → Int32 → Int32 → Int32 → Int32 → Int32 → Int32 → Int32 → Int32 → Int32 → Int32 → Int32 → Int32 → Int32 → Int32 → Int32 → Int32 → Int32 → Int32 → Int32 → Int32 → Int32 → Int32 → Int32 → Option (Int32)} (hkb : ∀ {zaw zbm zba zax zbt zbu zbv zbn zbo zbp zbb zbc zbd zbe : List Int32} {zan zao zal zam zap zaq zar zas zat zau zbl zav zay zaz zbq zbr zbs zbf zbg zbh zbi zbj zbk v2 v3 v4 v5 v6 v7 : Int32} {d8 d9 d10 d11 d12 d13 d14 d15 d16 d17 : Slot} {res : Int32}, kb zaw zbm zba zax zbt zbu zbv zbn zbo zbp zbb zbc zbd zbe zan zao zal zam zap zaq zar zas zat zau zbl zav zay zaz zbq zbr zbs zbf zbg zbh zbi zbj zbk v2 v3 v4 v5 v6 v7 = some res → OEndsQ own_P 0 32 [qr 0, qr 1, qi v2, qi v3, qi v4, qi v5, qi v6, qi v7, d8, d9, d10, d11, d12, d13, d14, d15, d16, d17] [] (qa scr :: bk0 zaw zbm zba zax zbt zbu zbv zbn zbo zbp zbb zbc zbd zbe zan zao zal zam zap zaq zar zas zat zau zbl zav zay zaz zbq zbr zbs zbf zbg zbh zbi zbj zbk []) (LawQ res 0 0)) : ∀ {zaw zbm zba zax zbt zbu zbv zbn zbo zbp zbb zbc zbd zbe : List Int32} {zan zao zal zam zap zaq zar zas zat zau zbl zav zay zaz zbq zbr zbs zbf zbg zbh zbi zbj zbk v2 v3 v4 v5 v6 v7 v12 t0 : Int32} {d8 d9 d10 d11 d13 d14 d15 d16 d17 : Slot} {res : Int32}, f_L_law_504 kb scr zaw zbm zba zax zbt zbu zbv zbn zbo zbp zbb zbc zbd zbe zan zao zal zam zap zaq zar zas zat zau zbl zav zay zaz zbq zbr zbs zbf zbg zbh zbi zbj zbk v2 v3 v4 v5 v6 v7 v12 t0 = some res → OEndsQ own_P 0 504 [qr 0, qr 1, qi v2, qi v3, qi v4, qi v5, qi v6, qi v7, d8, d9, d10, d11, qi v12, d13, d14, d15, d16, d17] [.int t0] (qa scr :: bk0 zaw zbm zba zax zbt zbu zbv zbn zbo zbp zbb zbc zbd zbe zan zao zal zam zap zaq zar zas zat zau zbl zav zay zaz zbq zbr zbs zbf zbg zbh zbi zbj zbk []) (LawQ res 0 0) := by
  intro zaw zbm zba zax zbt zbu zbv zbn zbo zbp zbb zbc zbd zbe zan zao zal zam zap zaq zar zas zat zau zbl zav zay zaz zbq zbr zbs zbf zbg zbh zbi zbj zbk v2 v3 v4 v5 v6 v7 v12 t0 d8 d9 d10 d11 d13 d14 d15 d16 d17 res h
  unfold f_L_law_504 at h
  refine OEndsQ.adv hm_0 3 (pc' := 509) (L' := [qr 0, qr 1, qi v2, qi v3, qi v4, qi v5, qi v6, qi v7, qu, qu, qu, qu, qi v12, qi t0, qu, qu, qu, qu]) (S' := [.int v12, .ref 1]) (H' := (qa scr :: bk0 zaw zbm zba zax zbt zbu zbv zbn zbo zbp zbb zbc zbd zbe zan zao zal zam zap zaq zar zas zat zau zbl zav zay zaz zbq zbr zbs zbf zbg zbh zbi zbj zbk [])) rfl ?_
  obtain ⟨⟨r241, s242, s243⟩, hq195, h⟩ := bnd h
  refine OEndsQ.call0 hm_0 rfl rfl (by decide) rfl (as := [.ref 1, .int v12]) (rest := []) rfl rfl (ok_putInByte hq195) ?_
  refine OEndsQ.adv hm_0 3 (pc' := 518) (L' := [qr 0, qr 1, qi v2, qi v3, qi v4, qi v5, qi v6, qi v7, qu, qu, qu, qu, qi v12, qi t0, qi r241, qu, qu, qu]) (S' := [.int t0, .int r241]) (H' := (qa scr :: bk0 zaw zbm s242 zax zbt zbu zbv zbn zbo zbp zbb zbc zbd zbe zan zao zal zam zap zaq zar zas zat zau zbl s243 zay zaz zbq zbr zbs zbf zbg zbh zbi zbj zbk [])) rfl ?_
  by_cases hc196 : r241 = t0
  · simp only [if_pos hc196] at h
    refine OEndsQ.icmpT hm_0 rfl (q := 523) rfl ((teq hc196).1) ?_
    refine OEndsQ.adv hm_0 1 (pc' := 525) (L' := [qr 0, qr 1, qi v2, qi v3, qi v4, qi v5, qi v6, qi v7, qu, qu, qu, qu, qi v12, qi t0, qi r241, qu, qu, qu]) (S' := [.int t0]) (H' := (qa scr :: bk0 zaw zbm s242 zax zbt zbu zbv zbn zbo zbp zbb zbc zbd zbe zan zao zal zam zap zaq zar zas zat zau zbl s243 zay zaz zbq zbr zbs zbf zbg zbh zbi zbj zbk [])) rfl ?_
    by_cases hc197 : t0 = (0 : Int32)
    · simp only [if_pos hc197] at h
      refine OEndsQ.ifT hm_0 rfl (q := 531) rfl ((teq hc197).1) ?_
      refine OEndsQ.adv hm_0 1 (pc' := 702) (L' := [qr 0, qr 1, qi v2, qi v3, qi v4, qi v5, qi v6, qi v7, qu, qu, qu, qu, qi v12, qi t0, qi r241, qu, qu, qu]) (S' := []) (H' := (qa scr :: bk0 zaw zbm s242 zax zbt zbu zbv zbn zbo zbp zbb zbc zbd zbe zan zao zal zam zap zaq zar zas zat zau zbl s243 zay zaz zbq zbr zbs zbf zbg zbh zbi zbj zbk [])) rfl ?_
      exact ok_L_law_702 hkb h
    · simp only [if_neg hc197] at h
      refine OEndsQ.ifF hm_0 rfl ((feq hc197).1) ?_
      refine OEndsQ.adv hm_0 2 (pc' := 702) (L' := [qr 0, qr 1, qi v2, qi (v3 + (1 : Int32)), qi v4, qi v5, qi v6, qi v7, qu, qu, qu, qu, qi v12, qi t0, qi r241, qu, qu, qu]) (S' := []) (H' := (qa scr :: bk0 zaw zbm s242 zax zbt zbu zbv zbn zbo zbp zbb zbc zbd zbe zan zao zal zam zap zaq zar zas zat zau zbl s243 zay zaz zbq zbr zbs zbf zbg zbh zbi zbj zbk [])) rfl ?_
      exact ok_L_law_702 hkb h
  · simp only [if_neg hc196] at h
    refine OEndsQ.icmpF hm_0 rfl ((feq hc196).1) ?_
    refine OEndsQ.adv hm_0 1 (pc' := 522) (L' := [qr 0, qr 1, qi v2, qi v3, qi v4, qi v5, qi v6, qi v7, qu, qu, qu, qu, qi v12, qi t0, qi r241, qu, qu, qu]) (S' := [.int 0]) (H' := (qa scr :: bk0 zaw zbm s242 zax zbt zbu zbv zbn zbo zbp zbb zbc zbd zbe zan zao zal zam zap zaq zar zas zat zau zbl s243 zay zaz zbq zbr zbs zbf zbg zbh zbi zbj zbk [])) rfl ?_
    cases h
    exact OEndsQ.iret hm_0 rfl rfl
theorem ok_L_law_349 {scr : List Int32} {k702 : List Int32 → List Int32 → List Int32 → List Int32 → List Int32 → List Int32 → List Int32 → List Int32 → List Int32 → List Int32 → List Int32 → List Int32 → List Int32 → List Int32 → Int32 → Int32 → Int32 → Int32 → Int32 → Int32 → Int32 → Int32 → Int32 → Int32 → Int32 → Int32 → Int32 → Int32 → Int32 → Int32 → Int32 → Int32 → Int32 → Int32 → Int32 → Int32 → Int32 → Int32 → Int32 → Int32 → Int32 → Int32 → Int32 → Option (Int32)} (hk702 : ∀ {zaw zbm zba zax zbt zbu zbv zbn zbo zbp zbb zbc zbd zbe : List Int32} {zan zao zal zam zap zaq zar zas zat zau zbl zav zay zaz zbq zbr zbs zbf zbg zbh zbi zbj zbk v2 v3 v4 v5 v6 v7 : Int32} {d8 d9 d10 d11 d12 d13 d14 d15 d16 d17 : Slot} {res : Int32}, k702 zaw zbm zba zax zbt zbu zbv zbn zbo zbp zbb zbc zbd zbe zan zao zal zam zap zaq zar zas zat zau zbl zav zay zaz zbq zbr zbs zbf zbg zbh zbi zbj zbk v2 v3 v4 v5 v6 v7 = some res → OEndsQ own_P 0 702 [qr 0, qr 1, qi v2, qi v3, qi v4, qi v5, qi v6, qi v7, d8, d9, d10, d11, d12, d13, d14, d15, d16, d17] [] (qa scr :: bk0 zaw zbm zba zax zbt zbu zbv zbn zbo zbp zbb zbc zbd zbe zan zao zal zam zap zaq zar zas zat zau zbl zav zay zaz zbq zbr zbs zbf zbg zbh zbi zbj zbk []) (LawQ res 0 0)) : ∀ (n : Nat), ∀ {zaw zbm zba zax zbt zbu zbv zbn zbo zbp zbb zbc zbd zbe : List Int32} {zan zao zal zam zap zaq zar zas zat zau zbl zav zay zaz zbq zbr zbs zbf zbg zbh zbi zbj zbk v2 v3 v4 v5 v6 v7 v12 v13 v14 v17 : Int32} {d8 d9 d10 d11 d15 d16 : Slot} {res : Int32}, f_L_law_349 k702 scr n zaw zbm zba zax zbt zbu zbv zbn zbo zbp zbb zbc zbd zbe zan zao zal zam zap zaq zar zas zat zau zbl zav zay zaz zbq zbr zbs zbf zbg zbh zbi zbj zbk v2 v3 v4 v5 v6 v7 v12 v13 v14 v17 = some res → OEndsQ own_P 0 349 [qr 0, qr 1, qi v2, qi v3, qi v4, qi v5, qi v6, qi v7, d8, d9, d10, d11, qi v12, qi v13, qi v14, d15, d16, qi v17] [] (qa scr :: bk0 zaw zbm zba zax zbt zbu zbv zbn zbo zbp zbb zbc zbd zbe zan zao zal zam zap zaq zar zas zat zau zbl zav zay zaz zbq zbr zbs zbf zbg zbh zbi zbj zbk []) (LawQ res 0 0) := by
  intro n
  induction n with
  | zero => intro zaw zbm zba zax zbt zbu zbv zbn zbo zbp zbb zbc zbd zbe zan zao zal zam zap zaq zar zas zat zau zbl zav zay zaz zbq zbr zbs zbf zbg zbh zbi zbj zbk v2 v3 v4 v5 v6 v7 v12 v13 v14 v17 d8 d9 d10 d11 d15 d16 res h; cases h
  | succ n ih =>
    intro zaw zbm zba zax zbt zbu zbv zbn zbo zbp zbb zbc zbd zbe zan zao zal zam zap zaq zar zas zat zau zbl zav zay zaz zbq zbr zbs zbf zbg zbh zbi zbj zbk v2 v3 v4 v5 v6 v7 v12 v13 v14 v17 d8 d9 d10 d11 d15 d16 res h
    unfold f_L_law_349 at h
    refine OEndsQ.adv hm_0 4 (pc' := 356) (L' := [qr 0, qr 1, qi v2, qi v3, qi v4, qi v5, qi v6, qi v7, qu, qu, qu, qu, qi v12, qi v13, qi v14, qu, qu, qi v17]) (S' := [.int (v12 + v13), .int v17]) (H' := (qa scr :: bk0 zaw zbm zba zax zbt zbu zbv zbn zbo zbp zbb zbc zbd zbe zan zao zal zam zap zaq zar zas zat zau zbl zav zay zaz zbq zbr zbs zbf zbg zbh zbi zbj zbk [])) rfl ?_
    by_cases hc198 : v17 < (v12 + v13)
    · simp only [if_pos hc198] at h
      refine OEndsQ.icmpF hm_0 rfl ((tlt hc198).2.1) ?_
      refine OEndsQ.adv hm_0 3 (pc' := 364) (L' := [qr 0, qr 1, qi v2, qi v3, qi v4, qi v5, qi v6, qi v7, qu, qu, qu, qu, qi v12, qi v13, qi v14, qu, qu, qi v17]) (S' := [.int v14, .int v17, .int v2]) (H' := (qa scr :: bk0 zaw zbm zba zax zbt zbu zbv zbn zbo zbp zbb zbc zbd zbe zan zao zal zam zap zaq zar zas zat zau zbl zav zay zaz zbq zbr zbs zbf zbg zbh zbi zbj zbk [])) rfl ?_
      obtain ⟨r240, hq199, h⟩ := bnd h
      refine OEndsQ.call0 hm_0 rfl rfl (by decide) rfl (as := [.int v2, .int v17, .int v14]) (rest := []) rfl rfl (ok_L_put hq199) ?_
      refine OEndsQ.adv hm_0 3 (pc' := 349) (L' := [qr 0, qr 1, qi r240, qi v3, qi v4, qi v5, qi v6, qi v7, qu, qu, qu, qu, qi v12, qi v13, qi v14, qu, qu, qi (v17 + (1 : Int32))]) (S' := []) (H' := (qa scr :: bk0 zaw zbm zba zax zbt zbu zbv zbn zbo zbp zbb zbc zbd zbe zan zao zal zam zap zaq zar zas zat zau zbl zav zay zaz zbq zbr zbs zbf zbg zbh zbi zbj zbk [])) rfl ?_
      exact ih h
    · simp only [if_neg hc198] at h
      refine OEndsQ.icmpT hm_0 rfl (q := 374) rfl ((flt hc198).2.1) ?_
      refine OEndsQ.adv hm_0 1 (pc' := 702) (L' := [qr 0, qr 1, qi v2, qi v3, qi v4, qi v5, qi v6, qi v7, qu, qu, qu, qu, qi v12, qi v13, qi v14, qu, qu, qi v17]) (S' := []) (H' := (qa scr :: bk0 zaw zbm zba zax zbt zbu zbv zbn zbo zbp zbb zbc zbd zbe zan zao zal zam zap zaq zar zas zat zau zbl zav zay zaz zbq zbr zbs zbf zbg zbh zbi zbj zbk [])) rfl ?_
      exact hk702 h
theorem ok_L_law_317 {scr : List Int32} {kb : List Int32 → List Int32 → List Int32 → List Int32 → List Int32 → List Int32 → List Int32 → List Int32 → List Int32 → List Int32 → List Int32 → List Int32 → List Int32 → List Int32 → Int32 → Int32 → Int32 → Int32 → Int32 → Int32 → Int32 → Int32 → Int32 → Int32 → Int32 → Int32 → Int32 → Int32 → Int32 → Int32 → Int32 → Int32 → Int32 → Int32 → Int32 → Int32 → Int32 → Int32 → Int32 → Int32 → Int32 → Int32 → Int32 → Option (Int32)} (hkb : ∀ {zaw zbm zba zax zbt zbu zbv zbn zbo zbp zbb zbc zbd zbe : List Int32} {zan zao zal zam zap zaq zar zas zat zau zbl zav zay zaz zbq zbr zbs zbf zbg zbh zbi zbj zbk v2 v3 v4 v5 v6 v7 : Int32} {d8 d9 d10 d11 d12 d13 d14 d15 d16 d17 : Slot} {res : Int32}, kb zaw zbm zba zax zbt zbu zbv zbn zbo zbp zbb zbc zbd zbe zan zao zal zam zap zaq zar zas zat zau zbl zav zay zaz zbq zbr zbs zbf zbg zbh zbi zbj zbk v2 v3 v4 v5 v6 v7 = some res → OEndsQ own_P 0 32 [qr 0, qr 1, qi v2, qi v3, qi v4, qi v5, qi v6, qi v7, d8, d9, d10, d11, d12, d13, d14, d15, d16, d17] [] (qa scr :: bk0 zaw zbm zba zax zbt zbu zbv zbn zbo zbp zbb zbc zbd zbe zan zao zal zam zap zaq zar zas zat zau zbl zav zay zaz zbq zbr zbs zbf zbg zbh zbi zbj zbk []) (LawQ res 0 0)) : ∀ {zaw zbm zba zax zbt zbu zbv zbn zbo zbp zbb zbc zbd zbe : List Int32} {zan zao zal zam zap zaq zar zas zat zau zbl zav zay zaz zbq zbr zbs zbf zbg zbh zbi zbj zbk v2 v3 v4 v5 v6 v7 v12 v13 v14 t0 : Int32} {d8 d9 d10 d11 d15 d16 d17 : Slot} {res : Int32}, f_L_law_317 kb scr zaw zbm zba zax zbt zbu zbv zbn zbo zbp zbb zbc zbd zbe zan zao zal zam zap zaq zar zas zat zau zbl zav zay zaz zbq zbr zbs zbf zbg zbh zbi zbj zbk v2 v3 v4 v5 v6 v7 v12 v13 v14 t0 = some res → OEndsQ own_P 0 317 [qr 0, qr 1, qi v2, qi v3, qi v4, qi v5, qi v6, qi v7, d8, d9, d10, d11, qi v12, qi v13, qi v14, d15, d16, d17] [.int t0] (qa scr :: bk0 zaw zbm zba zax zbt zbu zbv zbn zbo zbp zbb zbc zbd zbe zan zao zal zam zap zaq zar zas zat zau zbl zav zay zaz zbq zbr zbs zbf zbg zbh zbi zbj zbk []) (LawQ res 0 0) := by
  intro zaw zbm zba zax zbt zbu zbv zbn zbo zbp zbb zbc zbd zbe zan zao zal zam zap zaq zar zas zat zau zbl zav zay zaz zbq zbr zbs zbf zbg zbh zbi zbj zbk v2 v3 v4 v5 v6 v7 v12 v13 v14 t0 d8 d9 d10 d11 d15 d16 d17 res h
  unfold f_L_law_317 at h
  refine OEndsQ.adv hm_0 5 (pc' := 326) (L' := [qr 0, qr 1, qi v2, qi v3, qi v4, qi v5, qi v6, qi v7, qu, qu, qu, qu, qi v12, qi v13, qi v14, qi t0, qu, qu]) (S' := [.int v14, .int v13, .int v12, .ref 1]) (H' := (qa scr :: bk0 zaw zbm zba zax zbt zbu zbv zbn zbo zbp zbb zbc zbd zbe zan zao zal zam zap zaq zar zas zat zau zbl zav zay zaz zbq zbr zbs zbf zbg zbh zbi zbj zbk [])) rfl ?_
  obtain ⟨⟨r238, s239⟩, hq200, h⟩ := bnd h
  refine OEndsQ.call0 hm_0 rfl rfl (by decide) rfl (as := [.ref 1, .int v12, .int v13, .int v14]) (rest := []) rfl rfl (ok_fill hq200) ?_
  refine OEndsQ.adv hm_0 3 (pc' := 335) (L' := [qr 0, qr 1, qi v2, qi v3, qi v4, qi v5, qi v6, qi v7, qu, qu, qu, qu, qi v12, qi v13, qi v14, qi t0, qi r238, qu]) (S' := [.int t0, .int r238]) (H' := (qa scr :: bk0 s239 zbm zba zax zbt zbu zbv zbn zbo zbp zbb zbc zbd zbe zan zao zal zam zap zaq zar zas zat zau zbl zav zay zaz zbq zbr zbs zbf zbg zbh zbi zbj zbk [])) rfl ?_
  by_cases hc201 : r238 = t0
  · simp only [if_pos hc201] at h
    refine OEndsQ.icmpT hm_0 rfl (q := 340) rfl ((teq hc201).1) ?_
    refine OEndsQ.adv hm_0 1 (pc' := 342) (L' := [qr 0, qr 1, qi v2, qi v3, qi v4, qi v5, qi v6, qi v7, qu, qu, qu, qu, qi v12, qi v13, qi v14, qi t0, qi r238, qu]) (S' := [.int t0]) (H' := (qa scr :: bk0 s239 zbm zba zax zbt zbu zbv zbn zbo zbp zbb zbc zbd zbe zan zao zal zam zap zaq zar zas zat zau zbl zav zay zaz zbq zbr zbs zbf zbg zbh zbi zbj zbk [])) rfl ?_
    by_cases hc202 : t0 = (0 : Int32)
    · simp only [if_pos hc202] at h
      refine OEndsQ.ifT hm_0 rfl (q := 374) rfl ((teq hc202).1) ?_
      refine OEndsQ.adv hm_0 1 (pc' := 702) (L' := [qr 0, qr 1, qi v2, qi v3, qi v4, qi v5, qi v6, qi v7, qu, qu, qu, qu, qi v12, qi v13, qi v14, qi t0, qi r238, qu]) (S' := []) (H' := (qa scr :: bk0 s239 zbm zba zax zbt zbu zbv zbn zbo zbp zbb zbc zbd zbe zan zao zal zam zap zaq zar zas zat zau zbl zav zay zaz zbq zbr zbs zbf zbg zbh zbi zbj zbk [])) rfl ?_
      exact ok_L_law_702 hkb h
    · simp only [if_neg hc202] at h
      refine OEndsQ.ifF hm_0 rfl ((feq hc202).1) ?_
      refine OEndsQ.adv hm_0 2 (pc' := 349) (L' := [qr 0, qr 1, qi v2, qi v3, qi v4, qi v5, qi v6, qi v7, qu, qu, qu, qu, qi v12, qi v13, qi v14, qi t0, qi r238, qi v12]) (S' := []) (H' := (qa scr :: bk0 s239 zbm zba zax zbt zbu zbv zbn zbo zbp zbb zbc zbd zbe zan zao zal zam zap zaq zar zas zat zau zbl zav zay zaz zbq zbr zbs zbf zbg zbh zbi zbj zbk [])) rfl ?_
      exact ok_L_law_349 (k702 := f_L_law_702 kb scr) (ok_L_law_702 hkb) 100000 h
  · simp only [if_neg hc201] at h
    refine OEndsQ.icmpF hm_0 rfl ((feq hc201).1) ?_
    refine OEndsQ.adv hm_0 1 (pc' := 339) (L' := [qr 0, qr 1, qi v2, qi v3, qi v4, qi v5, qi v6, qi v7, qu, qu, qu, qu, qi v12, qi v13, qi v14, qi t0, qi r238, qu]) (S' := [.int 0]) (H' := (qa scr :: bk0 s239 zbm zba zax zbt zbu zbv zbn zbo zbp zbb zbc zbd zbe zan zao zal zam zap zaq zar zas zat zau zbl zav zay zaz zbq zbr zbs zbf zbg zbh zbi zbj zbk [])) rfl ?_
    cases h
    exact OEndsQ.iret hm_0 rfl rfl
theorem ok_L_law_219 {scr : List Int32} {kb : List Int32 → List Int32 → List Int32 → List Int32 → List Int32 → List Int32 → List Int32 → List Int32 → List Int32 → List Int32 → List Int32 → List Int32 → List Int32 → List Int32 → Int32 → Int32 → Int32 → Int32 → Int32 → Int32 → Int32 → Int32 → Int32 → Int32 → Int32 → Int32 → Int32 → Int32 → Int32 → Int32 → Int32 → Int32 → Int32 → Int32 → Int32 → Int32 → Int32 → Int32 → Int32 → Int32 → Int32 → Int32 → Int32 → Option (Int32)} (hkb : ∀ {zaw zbm zba zax zbt zbu zbv zbn zbo zbp zbb zbc zbd zbe : List Int32} {zan zao zal zam zap zaq zar zas zat zau zbl zav zay zaz zbq zbr zbs zbf zbg zbh zbi zbj zbk v2 v3 v4 v5 v6 v7 : Int32} {d8 d9 d10 d11 d12 d13 d14 d15 d16 d17 : Slot} {res : Int32}, kb zaw zbm zba zax zbt zbu zbv zbn zbo zbp zbb zbc zbd zbe zan zao zal zam zap zaq zar zas zat zau zbl zav zay zaz zbq zbr zbs zbf zbg zbh zbi zbj zbk v2 v3 v4 v5 v6 v7 = some res → OEndsQ own_P 0 32 [qr 0, qr 1, qi v2, qi v3, qi v4, qi v5, qi v6, qi v7, d8, d9, d10, d11, d12, d13, d14, d15, d16, d17] [] (qa scr :: bk0 zaw zbm zba zax zbt zbu zbv zbn zbo zbp zbb zbc zbd zbe zan zao zal zam zap zaq zar zas zat zau zbl zav zay zaz zbq zbr zbs zbf zbg zbh zbi zbj zbk []) (LawQ res 0 0)) : ∀ {zaw zbm zba zax zbt zbu zbv zbn zbo zbp zbb zbc zbd zbe : List Int32} {zan zao zal zam zap zaq zar zas zat zau zbl zav zay zaz zbq zbr zbs zbf zbg zbh zbi zbj zbk v2 v3 v4 v5 v6 v7 v12 v13 t0 : Int32} {d8 d9 d10 d11 d14 d15 d16 d17 : Slot} {res : Int32}, f_L_law_219 kb scr zaw zbm zba zax zbt zbu zbv zbn zbo zbp zbb zbc zbd zbe zan zao zal zam zap zaq zar zas zat zau zbl zav zay zaz zbq zbr zbs zbf zbg zbh zbi zbj zbk v2 v3 v4 v5 v6 v7 v12 v13 t0 = some res → OEndsQ own_P 0 219 [qr 0, qr 1, qi v2, qi v3, qi v4, qi v5, qi v6, qi v7, d8, d9, d10, d11, qi v12, qi v13, d14, d15, d16, d17] [.int t0] (qa scr :: bk0 zaw zbm zba zax zbt zbu zbv zbn zbo zbp zbb zbc zbd zbe zan zao zal zam zap zaq zar zas zat zau zbl zav zay zaz zbq zbr zbs zbf zbg zbh zbi zbj zbk []) (LawQ res 0 0) := by
  intro zaw zbm zba zax zbt zbu zbv zbn zbo zbp zbb zbc zbd zbe zan zao zal zam zap zaq zar zas zat zau zbl zav zay zaz zbq zbr zbs zbf zbg zbh zbi zbj zbk v2 v3 v4 v5 v6 v7 v12 v13 t0 d8 d9 d10 d11 d14 d15 d16 d17 res h
  unfold f_L_law_219 at h
  refine OEndsQ.adv hm_0 4 (pc' := 226) (L' := [qr 0, qr 1, qi v2, qi v3, qi v4, qi v5, qi v6, qi v7, qu, qu, qu, qu, qi v12, qi v13, qi t0, qu, qu, qu]) (S' := [.int v13, .int v12, .ref 1]) (H' := (qa scr :: bk0 zaw zbm zba zax zbt zbu zbv zbn zbo zbp zbb zbc zbd zbe zan zao zal zam zap zaq zar zas zat zau zbl zav zay zaz zbq zbr zbs zbf zbg zbh zbi zbj zbk [])) rfl ?_
  obtain ⟨⟨r235, s236⟩, hq203, h⟩ := bnd h
  refine OEndsQ.call0 hm_0 rfl rfl (by decide) rfl (as := [.ref 1, .int v12, .int v13]) (rest := []) rfl rfl (ok_setPixel hq203) ?_
  refine OEndsQ.adv hm_0 3 (pc' := 235) (L' := [qr 0, qr 1, qi v2, qi v3, qi v4, qi v5, qi v6, qi v7, qu, qu, qu, qu, qi v12, qi v13, qi t0, qi r235, qu, qu]) (S' := [.int t0, .int r235]) (H' := (qa scr :: bk0 s236 zbm zba zax zbt zbu zbv zbn zbo zbp zbb zbc zbd zbe zan zao zal zam zap zaq zar zas zat zau zbl zav zay zaz zbq zbr zbs zbf zbg zbh zbi zbj zbk [])) rfl ?_
  by_cases hc204 : r235 = t0
  · simp only [if_pos hc204] at h
    refine OEndsQ.icmpT hm_0 rfl (q := 240) rfl ((teq hc204).1) ?_
    refine OEndsQ.adv hm_0 1 (pc' := 242) (L' := [qr 0, qr 1, qi v2, qi v3, qi v4, qi v5, qi v6, qi v7, qu, qu, qu, qu, qi v12, qi v13, qi t0, qi r235, qu, qu]) (S' := [.int t0]) (H' := (qa scr :: bk0 s236 zbm zba zax zbt zbu zbv zbn zbo zbp zbb zbc zbd zbe zan zao zal zam zap zaq zar zas zat zau zbl zav zay zaz zbq zbr zbs zbf zbg zbh zbi zbj zbk [])) rfl ?_
    by_cases hc205 : t0 = (0 : Int32)
    · simp only [if_pos hc205] at h
      refine OEndsQ.ifT hm_0 rfl (q := 254) rfl ((teq hc205).1) ?_
      refine OEndsQ.adv hm_0 1 (pc' := 702) (L' := [qr 0, qr 1, qi v2, qi v3, qi v4, qi v5, qi v6, qi v7, qu, qu, qu, qu, qi v12, qi v13, qi t0, qi r235, qu, qu]) (S' := []) (H' := (qa scr :: bk0 s236 zbm zba zax zbt zbu zbv zbn zbo zbp zbb zbc zbd zbe zan zao zal zam zap zaq zar zas zat zau zbl zav zay zaz zbq zbr zbs zbf zbg zbh zbi zbj zbk [])) rfl ?_
      exact ok_L_law_702 hkb h
    · simp only [if_neg hc205] at h
      refine OEndsQ.ifF hm_0 rfl ((feq hc205).1) ?_
      refine OEndsQ.adv hm_0 3 (pc' := 250) (L' := [qr 0, qr 1, qi v2, qi v3, qi v4, qi v5, qi v6, qi v7, qu, qu, qu, qu, qi v12, qi v13, qi t0, qi r235, qu, qu]) (S' := [.int v13, .int v12, .int v2]) (H' := (qa scr :: bk0 s236 zbm zba zax zbt zbu zbv zbn zbo zbp zbb zbc zbd zbe zan zao zal zam zap zaq zar zas zat zau zbl zav zay zaz zbq zbr zbs zbf zbg zbh zbi zbj zbk [])) rfl ?_
      obtain ⟨r237, hq206, h⟩ := bnd h
      refine OEndsQ.call0 hm_0 rfl rfl (by decide) rfl (as := [.int v2, .int v12, .int v13]) (rest := []) rfl rfl (ok_L_put hq206) ?_
      refine OEndsQ.adv hm_0 2 (pc' := 702) (L' := [qr 0, qr 1, qi r237, qi v3, qi v4, qi v5, qi v6, qi v7, qu, qu, qu, qu, qi v12, qi v13, qi t0, qi r235, qu, qu]) (S' := []) (H' := (qa scr :: bk0 s236 zbm zba zax zbt zbu zbv zbn zbo zbp zbb zbc zbd zbe zan zao zal zam zap zaq zar zas zat zau zbl zav zay zaz zbq zbr zbs zbf zbg zbh zbi zbj zbk [])) rfl ?_
      exact ok_L_law_702 hkb h
  · simp only [if_neg hc204] at h
    refine OEndsQ.icmpF hm_0 rfl ((feq hc204).1) ?_
    refine OEndsQ.adv hm_0 1 (pc' := 239) (L' := [qr 0, qr 1, qi v2, qi v3, qi v4, qi v5, qi v6, qi v7, qu, qu, qu, qu, qi v12, qi v13, qi t0, qi r235, qu, qu]) (S' := [.int 0]) (H' := (qa scr :: bk0 s236 zbm zba zax zbt zbu zbv zbn zbo zbp zbb zbc zbd zbe zan zao zal zam zap zaq zar zas zat zau zbl zav zay zaz zbq zbr zbs zbf zbg zbh zbi zbj zbk [])) rfl ?_
    cases h
    exact OEndsQ.iret hm_0 rfl rfl
theorem ok_L_law_160 {scr : List Int32} {kb : List Int32 → List Int32 → List Int32 → List Int32 → List Int32 → List Int32 → List Int32 → List Int32 → List Int32 → List Int32 → List Int32 → List Int32 → List Int32 → List Int32 → Int32 → Int32 → Int32 → Int32 → Int32 → Int32 → Int32 → Int32 → Int32 → Int32 → Int32 → Int32 → Int32 → Int32 → Int32 → Int32 → Int32 → Int32 → Int32 → Int32 → Int32 → Int32 → Int32 → Int32 → Int32 → Int32 → Int32 → Int32 → Int32 → Option (Int32)} (hkb : ∀ {zaw zbm zba zax zbt zbu zbv zbn zbo zbp zbb zbc zbd zbe : List Int32} {zan zao zal zam zap zaq zar zas zat zau zbl zav zay zaz zbq zbr zbs zbf zbg zbh zbi zbj zbk v2 v3 v4 v5 v6 v7 : Int32} {d8 d9 d10 d11 d12 d13 d14 d15 d16 d17 : Slot} {res : Int32}, kb zaw zbm zba zax zbt zbu zbv zbn zbo zbp zbb zbc zbd zbe zan zao zal zam zap zaq zar zas zat zau zbl zav zay zaz zbq zbr zbs zbf zbg zbh zbi zbj zbk v2 v3 v4 v5 v6 v7 = some res → OEndsQ own_P 0 32 [qr 0, qr 1, qi v2, qi v3, qi v4, qi v5, qi v6, qi v7, d8, d9, d10, d11, d12, d13, d14, d15, d16, d17] [] (qa scr :: bk0 zaw zbm zba zax zbt zbu zbv zbn zbo zbp zbb zbc zbd zbe zan zao zal zam zap zaq zar zas zat zau zbl zav zay zaz zbq zbr zbs zbf zbg zbh zbi zbj zbk []) (LawQ res 0 0)) : ∀ {zaw zbm zba zax zbt zbu zbv zbn zbo zbp zbb zbc zbd zbe : List Int32} {zan zao zal zam zap zaq zar zas zat zau zbl zav zay zaz zbq zbr zbs zbf zbg zbh zbi zbj zbk v2 v3 v4 v5 v6 v7 v12 t0 : Int32} {d8 d9 d10 d11 d13 d14 d15 d16 d17 : Slot} {res : Int32}, f_L_law_160 kb scr zaw zbm zba zax zbt zbu zbv zbn zbo zbp zbb zbc zbd zbe zan zao zal zam zap zaq zar zas zat zau zbl zav zay zaz zbq zbr zbs zbf zbg zbh zbi zbj zbk v2 v3 v4 v5 v6 v7 v12 t0 = some res → OEndsQ own_P 0 160 [qr 0, qr 1, qi v2, qi v3, qi v4, qi v5, qi v6, qi v7, d8, d9, d10, d11, qi v12, d13, d14, d15, d16, d17] [.int t0] (qa scr :: bk0 zaw zbm zba zax zbt zbu zbv zbn zbo zbp zbb zbc zbd zbe zan zao zal zam zap zaq zar zas zat zau zbl zav zay zaz zbq zbr zbs zbf zbg zbh zbi zbj zbk []) (LawQ res 0 0) := by
  intro zaw zbm zba zax zbt zbu zbv zbn zbo zbp zbb zbc zbd zbe zan zao zal zam zap zaq zar zas zat zau zbl zav zay zaz zbq zbr zbs zbf zbg zbh zbi zbj zbk v2 v3 v4 v5 v6 v7 v12 t0 d8 d9 d10 d11 d13 d14 d15 d16 d17 res h
  unfold f_L_law_160 at h
  refine OEndsQ.adv hm_0 3 (pc' := 165) (L' := [qr 0, qr 1, qi v2, qi v3, qi v4, qi v5, qi v6, qi v7, qu, qu, qu, qu, qi v12, qi t0, qu, qu, qu, qu]) (S' := [.int v12, .ref 1]) (H' := (qa scr :: bk0 zaw zbm zba zax zbt zbu zbv zbn zbo zbp zbb zbc zbd zbe zan zao zal zam zap zaq zar zas zat zau zbl zav zay zaz zbq zbr zbs zbf zbg zbh zbi zbj zbk [])) rfl ?_
  obtain ⟨⟨r233, s234⟩, hq207, h⟩ := bnd h
  refine OEndsQ.call0 hm_0 rfl rfl (by decide) rfl (as := [.ref 1, .int v12]) (rest := []) rfl rfl (ok_setBlockSize hq207) ?_
  refine OEndsQ.adv hm_0 3 (pc' := 174) (L' := [qr 0, qr 1, qi v2, qi v3, qi v4, qi v5, qi v6, qi v7, qu, qu, qu, qu, qi v12, qi t0, qi r233, qu, qu, qu]) (S' := [.int t0, .int r233]) (H' := (qa scr :: bk0 zaw zbm zba zax zbt zbu zbv zbn zbo zbp zbb zbc zbd zbe zan zao zal zam zap zaq zar zas zat s234 zbl zav zay zaz zbq zbr zbs zbf zbg zbh zbi zbj zbk [])) rfl ?_
  by_cases hc208 : r233 = t0
  · simp only [if_pos hc208] at h
    refine OEndsQ.icmpT hm_0 rfl (q := 179) rfl ((teq hc208).1) ?_
    refine OEndsQ.adv hm_0 1 (pc' := 702) (L' := [qr 0, qr 1, qi v2, qi v3, qi v4, qi v5, qi v6, qi v7, qu, qu, qu, qu, qi v12, qi t0, qi r233, qu, qu, qu]) (S' := []) (H' := (qa scr :: bk0 zaw zbm zba zax zbt zbu zbv zbn zbo zbp zbb zbc zbd zbe zan zao zal zam zap zaq zar zas zat s234 zbl zav zay zaz zbq zbr zbs zbf zbg zbh zbi zbj zbk [])) rfl ?_
    exact ok_L_law_702 hkb h
  · simp only [if_neg hc208] at h
    refine OEndsQ.icmpF hm_0 rfl ((feq hc208).1) ?_
    refine OEndsQ.adv hm_0 1 (pc' := 178) (L' := [qr 0, qr 1, qi v2, qi v3, qi v4, qi v5, qi v6, qi v7, qu, qu, qu, qu, qi v12, qi t0, qi r233, qu, qu, qu]) (S' := [.int 0]) (H' := (qa scr :: bk0 zaw zbm zba zax zbt zbu zbv zbn zbo zbp zbb zbc zbd zbe zan zao zal zam zap zaq zar zas zat s234 zbl zav zay zaz zbq zbr zbs zbf zbg zbh zbi zbj zbk [])) rfl ?_
    cases h
    exact OEndsQ.iret hm_0 rfl rfl
theorem ok_L_law_111 {scr : List Int32} {kb : List Int32 → List Int32 → List Int32 → List Int32 → List Int32 → List Int32 → List Int32 → List Int32 → List Int32 → List Int32 → List Int32 → List Int32 → List Int32 → List Int32 → Int32 → Int32 → Int32 → Int32 → Int32 → Int32 → Int32 → Int32 → Int32 → Int32 → Int32 → Int32 → Int32 → Int32 → Int32 → Int32 → Int32 → Int32 → Int32 → Int32 → Int32 → Int32 → Int32 → Int32 → Int32 → Int32 → Int32 → Int32 → Int32 → Option (Int32)} (hkb : ∀ {zaw zbm zba zax zbt zbu zbv zbn zbo zbp zbb zbc zbd zbe : List Int32} {zan zao zal zam zap zaq zar zas zat zau zbl zav zay zaz zbq zbr zbs zbf zbg zbh zbi zbj zbk v2 v3 v4 v5 v6 v7 : Int32} {d8 d9 d10 d11 d12 d13 d14 d15 d16 d17 : Slot} {res : Int32}, kb zaw zbm zba zax zbt zbu zbv zbn zbo zbp zbb zbc zbd zbe zan zao zal zam zap zaq zar zas zat zau zbl zav zay zaz zbq zbr zbs zbf zbg zbh zbi zbj zbk v2 v3 v4 v5 v6 v7 = some res → OEndsQ own_P 0 32 [qr 0, qr 1, qi v2, qi v3, qi v4, qi v5, qi v6, qi v7, d8, d9, d10, d11, d12, d13, d14, d15, d16, d17] [] (qa scr :: bk0 zaw zbm zba zax zbt zbu zbv zbn zbo zbp zbb zbc zbd zbe zan zao zal zam zap zaq zar zas zat zau zbl zav zay zaz zbq zbr zbs zbf zbg zbh zbi zbj zbk []) (LawQ res 0 0)) : ∀ {zaw zbm zba zax zbt zbu zbv zbn zbo zbp zbb zbc zbd zbe : List Int32} {zan zao zal zam zap zaq zar zas zat zau zbl zav zay zaz zbq zbr zbs zbf zbg zbh zbi zbj zbk v2 v3 v4 v5 v6 v7 t0 : Int32} {d8 d9 d10 d11 d12 d13 d14 d15 d16 d17 : Slot} {res : Int32}, f_L_law_111 kb scr zaw zbm zba zax zbt zbu zbv zbn zbo zbp zbb zbc zbd zbe zan zao zal zam zap zaq zar zas zat zau zbl zav zay zaz zbq zbr zbs zbf zbg zbh zbi zbj zbk v2 v3 v4 v5 v6 v7 t0 = some res → OEndsQ own_P 0 111 [qr 0, qr 1, qi v2, qi v3, qi v4, qi v5, qi v6, qi v7, d8, d9, d10, d11, d12, d13, d14, d15, d16, d17] [.int t0, .ref 1] (qa scr :: bk0 zaw zbm zba zax zbt zbu zbv zbn zbo zbp zbb zbc zbd zbe zan zao zal zam zap zaq zar zas zat zau zbl zav zay zaz zbq zbr zbs zbf zbg zbh zbi zbj zbk []) (LawQ res 0 0) := by
  intro zaw zbm zba zax zbt zbu zbv zbn zbo zbp zbb zbc zbd zbe zan zao zal zam zap zaq zar zas zat zau zbl zav zay zaz zbq zbr zbs zbf zbg zbh zbi zbj zbk v2 v3 v4 v5 v6 v7 t0 d8 d9 d10 d11 d12 d13 d14 d15 d16 d17 res h
  unfold f_L_law_111 at h
  obtain ⟨s232, hq209, h⟩ := bnd h
  refine OEndsQ.call0 hm_0 rfl rfl (by decide) rfl (as := [.ref 1, .int t0]) (rest := []) rfl rfl (ok_setInterlaced hq209) ?_
  refine OEndsQ.adv hm_0 1 (pc' := 702) (L' := [qr 0, qr 1, qi v2, qi v3, qi v4, qi v5, qi v6, qi v7, qu, qu, qu, qu, qu, qu, qu, qu, qu, qu]) (S' := []) (H' := (qa scr :: bk0 zaw zbm zba zax zbt zbu zbv zbn zbo zbp zbb zbc zbd zbe zan zao zal zam zap zaq zar zas s232 zau zbl zav zay zaz zbq zbr zbs zbf zbg zbh zbi zbj zbk [])) rfl ?_
  exact ok_L_law_702 hkb h
theorem ok_L_law_32 {scr : List Int32} : ∀ (n : Nat), ∀ {zaw zbm zba zax zbt zbu zbv zbn zbo zbp zbb zbc zbd zbe : List Int32} {zan zao zal zam zap zaq zar zas zat zau zbl zav zay zaz zbq zbr zbs zbf zbg zbh zbi zbj zbk v2 v3 v4 v5 v6 v7 : Int32} {d8 d9 d10 d11 d12 d13 d14 d15 d16 d17 : Slot} {res : Int32}, f_L_law_32 scr n zaw zbm zba zax zbt zbu zbv zbn zbo zbp zbb zbc zbd zbe zan zao zal zam zap zaq zar zas zat zau zbl zav zay zaz zbq zbr zbs zbf zbg zbh zbi zbj zbk v2 v3 v4 v5 v6 v7 = some res → OEndsQ own_P 0 32 [qr 0, qr 1, qi v2, qi v3, qi v4, qi v5, qi v6, qi v7, d8, d9, d10, d11, d12, d13, d14, d15, d16, d17] [] (qa scr :: bk0 zaw zbm zba zax zbt zbu zbv zbn zbo zbp zbb zbc zbd zbe zan zao zal zam zap zaq zar zas zat zau zbl zav zay zaz zbq zbr zbs zbf zbg zbh zbi zbj zbk []) (LawQ res 0 0) := by
  intro n
  induction n with
  | zero => intro zaw zbm zba zax zbt zbu zbv zbn zbo zbp zbb zbc zbd zbe zan zao zal zam zap zaq zar zas zat zau zbl zav zay zaz zbq zbr zbs zbf zbg zbh zbi zbj zbk v2 v3 v4 v5 v6 v7 d8 d9 d10 d11 d12 d13 d14 d15 d16 d17 res h; cases h
  | succ n ih =>
    intro zaw zbm zba zax zbt zbu zbv zbn zbo zbp zbb zbc zbd zbe zan zao zal zam zap zaq zar zas zat zau zbl zav zay zaz zbq zbr zbs zbf zbg zbh zbi zbj zbk v2 v3 v4 v5 v6 v7 d8 d9 d10 d11 d12 d13 d14 d15 d16 d17 res h
    unfold f_L_law_32 at h
    refine OEndsQ.adv hm_0 2 (pc' := 36) (L' := [qr 0, qr 1, qi v2, qi v3, qi v4, qi v5, qi v6, qi v7, qu, qu, qu, qu, qu, qu, qu, qu, qu, qu]) (S' := [.int v6, .int v7]) (H' := (qa scr :: bk0 zaw zbm zba zax zbt zbu zbv zbn zbo zbp zbb zbc zbd zbe zan zao zal zam zap zaq zar zas zat zau zbl zav zay zaz zbq zbr zbs zbf zbg zbh zbi zbj zbk [])) rfl ?_
    by_cases hc210 : v7 < v6
    · simp only [if_pos hc210] at h
      refine OEndsQ.icmpF hm_0 rfl ((tlt hc210).2.1) ?_
      refine OEndsQ.adv hm_0 4 (pc' := 44) (L' := [qr 0, qr 1, qi v2, qi v3, qi v4, qi v5, qi v6, qi v7, qu, qu, qu, qu, qu, qu, qu, qu, qu, qu]) (S' := [.int ((4 : Int32) * v7), .ref 0]) (H' := (qa scr :: bk0 zaw zbm zba zax zbt zbu zbv zbn zbo zbp zbb zbc zbd zbe zan zao zal zam zap zaq zar zas zat zau zbl zav zay zaz zbq zbr zbs zbf zbg zbh zbi zbj zbk [])) rfl ?_
      obtain ⟨x192, hx192, h⟩ := bnd h
      refine OEndsQ.plain hm_0 rfl rfl (x_iaload rfl hx192) ?_
      refine OEndsQ.adv hm_0 11 (pc' := 60) (L' := [qr 0, qr 1, qi v2, qi v3, qi v4, qi v5, qi v6, qi v7, qi ((x192 &&& (2147483647 : Int32)) % (10 : Int32)), qu, qu, qu, qu, qu, qu, qu, qu, qu]) (S' := [.int (((4 : Int32) * v7) + (1 : Int32)), .ref 0]) (H' := (qa scr :: bk0 zaw zbm zba zax zbt zbu zbv zbn zbo zbp zbb zbc zbd zbe zan zao zal zam zap zaq zar zas zat zau zbl zav zay zaz zbq zbr zbs zbf zbg zbh zbi zbj zbk [])) rfl ?_
      obtain ⟨x193, hx193, h⟩ := bnd h
      refine OEndsQ.plain hm_0 rfl rfl (x_iaload rfl hx193) ?_
      refine OEndsQ.adv hm_0 9 (pc' := 73) (L' := [qr 0, qr 1, qi v2, qi v3, qi v4, qi v5, qi v6, qi v7, qi ((x192 &&& (2147483647 : Int32)) % (10 : Int32)), qi (x193 &&& (2147483647 : Int32)), qu, qu, qu, qu, qu, qu, qu, qu]) (S' := [.int (((4 : Int32) * v7) + (2 : Int32)), .ref 0]) (H' := (qa scr :: bk0 zaw zbm zba zax zbt zbu zbv zbn zbo zbp zbb zbc zbd zbe zan zao zal zam zap zaq zar zas zat zau zbl zav zay zaz zbq zbr zbs zbf zbg zbh zbi zbj zbk [])) rfl ?_
      obtain ⟨x194, hx194, h⟩ := bnd h
      refine OEndsQ.plain hm_0 rfl rfl (x_iaload rfl hx194) ?_
      refine OEndsQ.adv hm_0 9 (pc' := 86) (L' := [qr 0, qr 1, qi v2, qi v3, qi v4, qi v5, qi v6, qi v7, qi ((x192 &&& (2147483647 : Int32)) % (10 : Int32)), qi (x193 &&& (2147483647 : Int32)), qi (x194 &&& (2147483647 : Int32)), qu, qu, qu, qu, qu, qu, qu]) (S' := [.int (((4 : Int32) * v7) + (3 : Int32)), .ref 0]) (H' := (qa scr :: bk0 zaw zbm zba zax zbt zbu zbv zbn zbo zbp zbb zbc zbd zbe zan zao zal zam zap zaq zar zas zat zau zbl zav zay zaz zbq zbr zbs zbf zbg zbh zbi zbj zbk [])) rfl ?_
      obtain ⟨x195, hx195, h⟩ := bnd h
      refine OEndsQ.plain hm_0 rfl rfl (x_iaload rfl hx195) ?_
      refine OEndsQ.adv hm_0 4 (pc' := 94) (L' := [qr 0, qr 1, qi v2, qi v3, qi v4, qi v5, qi v6, qi v7, qi ((x192 &&& (2147483647 : Int32)) % (10 : Int32)), qi (x193 &&& (2147483647 : Int32)), qi (x194 &&& (2147483647 : Int32)), qi (x195 &&& (2147483647 : Int32)), qu, qu, qu, qu, qu, qu]) (S' := [.int ((x192 &&& (2147483647 : Int32)) % (10 : Int32))]) (H' := (qa scr :: bk0 zaw zbm zba zax zbt zbu zbv zbn zbo zbp zbb zbc zbd zbe zan zao zal zam zap zaq zar zas zat zau zbl zav zay zaz zbq zbr zbs zbf zbg zbh zbi zbj zbk [])) rfl ?_
      by_cases hc211 : ((x192 &&& (2147483647 : Int32)) % (10 : Int32)) = (0 : Int32)
      · simp only [if_pos hc211] at h
        refine OEndsQ.ifF hm_0 rfl ((teq hc211).2) ?_
        refine OEndsQ.adv hm_0 5 (pc' := 103) (L' := [qr 0, qr 1, qi v2, qi v3, qi v4, qi v5, qi v6, qi v7, qi ((x192 &&& (2147483647 : Int32)) % (10 : Int32)), qi (x193 &&& (2147483647 : Int32)), qi (x194 &&& (2147483647 : Int32)), qi (x195 &&& (2147483647 : Int32)), qu, qu, qu, qu, qu, qu]) (S' := [.int 1, .int ((x193 &&& (2147483647 : Int32)) &&& (1 : Int32)), .ref 1]) (H' := (qa scr :: bk0 zaw zbm zba zax zbt zbu zbv zbn zbo zbp zbb zbc zbd zbe zan zao zal zam zap zaq zar zas zat zau zbl zav zay zaz zbq zbr zbs zbf zbg zbh zbi zbj zbk [])) rfl ?_
        by_cases hc212 : ((x193 &&& (2147483647 : Int32)) &&& (1 : Int32)) = (1 : Int32)
        · simp only [if_pos hc212] at h
          refine OEndsQ.icmpF hm_0 rfl ((teq hc212).2) ?_
          refine OEndsQ.adv hm_0 2 (pc' := 111) (L' := [qr 0, qr 1, qi v2, qi v3, qi v4, qi v5, qi v6, qi v7, qi ((x192 &&& (2147483647 : Int32)) % (10 : Int32)), qi (x193 &&& (2147483647 : Int32)), qi (x194 &&& (2147483647 : Int32)), qi (x195 &&& (2147483647 : Int32)), qu, qu, qu, qu, qu, qu]) (S' := [.int 1, .ref 1]) (H' := (qa scr :: bk0 zaw zbm zba zax zbt zbu zbv zbn zbo zbp zbb zbc zbd zbe zan zao zal zam zap zaq zar zas zat zau zbl zav zay zaz zbq zbr zbs zbf zbg zbh zbi zbj zbk [])) rfl ?_
          exact ok_L_law_111 ih h
        · simp only [if_neg hc212] at h
          refine OEndsQ.icmpT hm_0 rfl (q := 110) rfl ((feq hc212).2) ?_
          refine OEndsQ.adv hm_0 1 (pc' := 111) (L' := [qr 0, qr 1, qi v2, qi v3, qi v4, qi v5, qi v6, qi v7, qi ((x192 &&& (2147483647 : Int32)) % (10 : Int32)), qi (x193 &&& (2147483647 : Int32)), qi (x194 &&& (2147483647 : Int32)), qi (x195 &&& (2147483647 : Int32)), qu, qu, qu, qu, qu, qu]) (S' := [.int 0, .ref 1]) (H' := (qa scr :: bk0 zaw zbm zba zax zbt zbu zbv zbn zbo zbp zbb zbc zbd zbe zan zao zal zam zap zaq zar zas zat zau zbl zav zay zaz zbq zbr zbs zbf zbg zbh zbi zbj zbk [])) rfl ?_
          exact ok_L_law_111 ih h
      · simp only [if_neg hc211] at h
        refine OEndsQ.ifT hm_0 rfl (q := 117) rfl ((feq hc211).2) ?_
        refine OEndsQ.adv hm_0 2 (pc' := 120) (L' := [qr 0, qr 1, qi v2, qi v3, qi v4, qi v5, qi v6, qi v7, qi ((x192 &&& (2147483647 : Int32)) % (10 : Int32)), qi (x193 &&& (2147483647 : Int32)), qi (x194 &&& (2147483647 : Int32)), qi (x195 &&& (2147483647 : Int32)), qu, qu, qu, qu, qu, qu]) (S' := [.int 1, .int ((x192 &&& (2147483647 : Int32)) % (10 : Int32))]) (H' := (qa scr :: bk0 zaw zbm zba zax zbt zbu zbv zbn zbo zbp zbb zbc zbd zbe zan zao zal zam zap zaq zar zas zat zau zbl zav zay zaz zbq zbr zbs zbf zbg zbh zbi zbj zbk [])) rfl ?_
        by_cases hc213 : ((x192 &&& (2147483647 : Int32)) % (10 : Int32)) = (1 : Int32)
        · simp only [if_pos hc213] at h
          refine OEndsQ.icmpF hm_0 rfl ((teq hc213).2) ?_
          refine OEndsQ.adv hm_0 8 (pc' := 137) (L' := [qr 0, qr 1, qi v2, qi v3, qi v4, qi v5, qi v6, qi v7, qi ((x192 &&& (2147483647 : Int32)) % (10 : Int32)), qi (x193 &&& (2147483647 : Int32)), qi (x194 &&& (2147483647 : Int32)), qi (x195 &&& (2147483647 : Int32)), qi (((x193 &&& (2147483647 : Int32)) % (300 : Int32)) - (20 : Int32)), qu, qu, qu, qu, qu]) (S' := [.int 4, .int (((x193 &&& (2147483647 : Int32)) % (300 : Int32)) - (20 : Int32))]) (H' := (qa scr :: bk0 zaw zbm zba zax zbt zbu zbv zbn zbo zbp zbb zbc zbd zbe zan zao zal zam zap zaq zar zas zat zau zbl zav zay zaz zbq zbr zbs zbf zbg zbh zbi zbj zbk [])) rfl ?_
          by_cases hc214 : (((x193 &&& (2147483647 : Int32)) % (300 : Int32)) - (20 : Int32)) < (4 : Int32)
          · simp only [if_pos hc214] at h
            refine OEndsQ.icmpF hm_0 rfl ((tlt hc214).2.1) ?_
            refine OEndsQ.adv hm_0 2 (pc' := 160) (L' := [qr 0, qr 1, qi v2, qi v3, qi v4, qi v5, qi v6, qi v7, qi ((x192 &&& (2147483647 : Int32)) % (10 : Int32)), qi (x193 &&& (2147483647 : Int32)), qi (x194 &&& (2147483647 : Int32)), qi (x195 &&& (2147483647 : Int32)), qi (((x193 &&& (2147483647 : Int32)) % (300 : Int32)) - (20 : Int32)), qu, qu, qu, qu, qu]) (S' := [.int 4]) (H' := (qa scr :: bk0 zaw zbm zba zax zbt zbu zbv zbn zbo zbp zbb zbc zbd zbe zan zao zal zam zap zaq zar zas zat zau zbl zav zay zaz zbq zbr zbs zbf zbg zbh zbi zbj zbk [])) rfl ?_
            exact ok_L_law_160 ih h
          · simp only [if_neg hc214] at h
            refine OEndsQ.icmpT hm_0 rfl (q := 144) rfl ((flt hc214).2.1) ?_
            refine OEndsQ.adv hm_0 2 (pc' := 149) (L' := [qr 0, qr 1, qi v2, qi v3, qi v4, qi v5, qi v6, qi v7, qi ((x192 &&& (2147483647 : Int32)) % (10 : Int32)), qi (x193 &&& (2147483647 : Int32)), qi (x194 &&& (2147483647 : Int32)), qi (x195 &&& (2147483647 : Int32)), qi (((x193 &&& (2147483647 : Int32)) % (300 : Int32)) - (20 : Int32)), qu, qu, qu, qu, qu]) (S' := [.int 255, .int (((x193 &&& (2147483647 : Int32)) % (300 : Int32)) - (20 : Int32))]) (H' := (qa scr :: bk0 zaw zbm zba zax zbt zbu zbv zbn zbo zbp zbb zbc zbd zbe zan zao zal zam zap zaq zar zas zat zau zbl zav zay zaz zbq zbr zbs zbf zbg zbh zbi zbj zbk [])) rfl ?_
            by_cases hc215 : (255 : Int32) < (((x193 &&& (2147483647 : Int32)) % (300 : Int32)) - (20 : Int32))
            · simp only [if_pos hc215] at h
              refine OEndsQ.icmpF hm_0 rfl ((tlt hc215).2.2.2) ?_
              refine OEndsQ.adv hm_0 2 (pc' := 160) (L' := [qr 0, qr 1, qi v2, qi v3, qi v4, qi v5, qi v6, qi v7, qi ((x192 &&& (2147483647 : Int32)) % (10 : Int32)), qi (x193 &&& (2147483647 : Int32)), qi (x194 &&& (2147483647 : Int32)), qi (x195 &&& (2147483647 : Int32)), qi (((x193 &&& (2147483647 : Int32)) % (300 : Int32)) - (20 : Int32)), qu, qu, qu, qu, qu]) (S' := [.int 255]) (H' := (qa scr :: bk0 zaw zbm zba zax zbt zbu zbv zbn zbo zbp zbb zbc zbd zbe zan zao zal zam zap zaq zar zas zat zau zbl zav zay zaz zbq zbr zbs zbf zbg zbh zbi zbj zbk [])) rfl ?_
              exact ok_L_law_160 ih h
            · simp only [if_neg hc215] at h
              refine OEndsQ.icmpT hm_0 rfl (q := 158) rfl ((flt hc215).2.2.2) ?_
              refine OEndsQ.adv hm_0 1 (pc' := 160) (L' := [qr 0, qr 1, qi v2, qi v3, qi v4, qi v5, qi v6, qi v7, qi ((x192 &&& (2147483647 : Int32)) % (10 : Int32)), qi (x193 &&& (2147483647 : Int32)), qi (x194 &&& (2147483647 : Int32)), qi (x195 &&& (2147483647 : Int32)), qi (((x193 &&& (2147483647 : Int32)) % (300 : Int32)) - (20 : Int32)), qu, qu, qu, qu, qu]) (S' := [.int (((x193 &&& (2147483647 : Int32)) % (300 : Int32)) - (20 : Int32))]) (H' := (qa scr :: bk0 zaw zbm zba zax zbt zbu zbv zbn zbo zbp zbb zbc zbd zbe zan zao zal zam zap zaq zar zas zat zau zbl zav zay zaz zbq zbr zbs zbf zbg zbh zbi zbj zbk [])) rfl ?_
              exact ok_L_law_160 ih h
        · simp only [if_neg hc213] at h
          refine OEndsQ.icmpT hm_0 rfl (q := 182) rfl ((feq hc213).2) ?_
          refine OEndsQ.adv hm_0 2 (pc' := 185) (L' := [qr 0, qr 1, qi v2, qi v3, qi v4, qi v5, qi v6, qi v7, qi ((x192 &&& (2147483647 : Int32)) % (10 : Int32)), qi (x193 &&& (2147483647 : Int32)), qi (x194 &&& (2147483647 : Int32)), qi (x195 &&& (2147483647 : Int32)), qu, qu, qu, qu, qu, qu]) (S' := [.int 2, .int ((x192 &&& (2147483647 : Int32)) % (10 : Int32))]) (H' := (qa scr :: bk0 zaw zbm zba zax zbt zbu zbv zbn zbo zbp zbb zbc zbd zbe zan zao zal zam zap zaq zar zas zat zau zbl zav zay zaz zbq zbr zbs zbf zbg zbh zbi zbj zbk [])) rfl ?_
          by_cases hc216 : ((x192 &&& (2147483647 : Int32)) % (10 : Int32)) = (2 : Int32)
          · simp only [if_pos hc216] at h
            refine OEndsQ.icmpF hm_0 rfl ((teq hc216).2) ?_
            refine OEndsQ.adv hm_0 10 (pc' := 205) (L' := [qr 0, qr 1, qi v2, qi v3, qi v4, qi v5, qi v6, qi v7, qi ((x192 &&& (2147483647 : Int32)) % (10 : Int32)), qi (x193 &&& (2147483647 : Int32)), qi (x194 &&& (2147483647 : Int32)), qi (x195 &&& (2147483647 : Int32)), qi ((x193 &&& (2147483647 : Int32)) % (9 : Int32)), qi ((x194 &&& (2147483647 : Int32)) % (5 : Int32)), qu, qu, qu, qu]) (S' := [.int 8, .int ((x193 &&& (2147483647 : Int32)) % (9 : Int32))]) (H' := (qa scr :: bk0 zaw zbm zba zax zbt zbu zbv zbn zbo zbp zbb zbc zbd zbe zan zao zal zam zap zaq zar zas zat zau zbl zav zay zaz zbq zbr zbs zbf zbg zbh zbi zbj zbk [])) rfl ?_
            by_cases hc217 : ((x193 &&& (2147483647 : Int32)) % (9 : Int32)) < (8 : Int32)
            · simp only [if_pos hc217] at h
              refine OEndsQ.icmpF hm_0 rfl ((tlt hc217).2.1) ?_
              refine OEndsQ.adv hm_0 2 (pc' := 211) (L' := [qr 0, qr 1, qi v2, qi v3, qi v4, qi v5, qi v6, qi v7, qi ((x192 &&& (2147483647 : Int32)) % (10 : Int32)), qi (x193 &&& (2147483647 : Int32)), qi (x194 &&& (2147483647 : Int32)), qi (x195 &&& (2147483647 : Int32)), qi ((x193 &&& (2147483647 : Int32)) % (9 : Int32)), qi ((x194 &&& (2147483647 : Int32)) % (5 : Int32)), qu, qu, qu, qu]) (S' := [.int 4, .int ((x194 &&& (2147483647 : Int32)) % (5 : Int32))]) (H' := (qa scr :: bk0 zaw zbm zba zax zbt zbu zbv zbn zbo zbp zbb zbc zbd zbe zan zao zal zam zap zaq zar zas zat zau zbl zav zay zaz zbq zbr zbs zbf zbg zbh zbi zbj zbk [])) rfl ?_
              by_cases hc218 : ((x194 &&& (2147483647 : Int32)) % (5 : Int32)) < (4 : Int32)
              · simp only [if_pos hc218] at h
                refine OEndsQ.icmpF hm_0 rfl ((tlt hc218).2.1) ?_
                refine OEndsQ.adv hm_0 2 (pc' := 219) (L' := [qr 0, qr 1, qi v2, qi v3, qi v4, qi v5, qi v6, qi v7, qi ((x192 &&& (2147483647 : Int32)) % (10 : Int32)), qi (x193 &&& (2147483647 : Int32)), qi (x194 &&& (2147483647 : Int32)), qi (x195 &&& (2147483647 : Int32)), qi ((x193 &&& (2147483647 : Int32)) % (9 : Int32)), qi ((x194 &&& (2147483647 : Int32)) % (5 : Int32)), qu, qu, qu, qu]) (S' := [.int 1]) (H' := (qa scr :: bk0 zaw zbm zba zax zbt zbu zbv zbn zbo zbp zbb zbc zbd zbe zan zao zal zam zap zaq zar zas zat zau zbl zav zay zaz zbq zbr zbs zbf zbg zbh zbi zbj zbk [])) rfl ?_
                exact ok_L_law_219 ih h
              · simp only [if_neg hc218] at h
                refine OEndsQ.icmpT hm_0 rfl (q := 218) rfl ((flt hc218).2.1) ?_
                refine OEndsQ.adv hm_0 1 (pc' := 219) (L' := [qr 0, qr 1, qi v2, qi v3, qi v4, qi v5, qi v6, qi v7, qi ((x192 &&& (2147483647 : Int32)) % (10 : Int32)), qi (x193 &&& (2147483647 : Int32)), qi (x194 &&& (2147483647 : Int32)), qi (x195 &&& (2147483647 : Int32)), qi ((x193 &&& (2147483647 : Int32)) % (9 : Int32)), qi ((x194 &&& (2147483647 : Int32)) % (5 : Int32)), qu, qu, qu, qu]) (S' := [.int 0]) (H' := (qa scr :: bk0 zaw zbm zba zax zbt zbu zbv zbn zbo zbp zbb zbc zbd zbe zan zao zal zam zap zaq zar zas zat zau zbl zav zay zaz zbq zbr zbs zbf zbg zbh zbi zbj zbk [])) rfl ?_
                exact ok_L_law_219 ih h
            · simp only [if_neg hc217] at h
              refine OEndsQ.icmpT hm_0 rfl (q := 218) rfl ((flt hc217).2.1) ?_
              refine OEndsQ.adv hm_0 1 (pc' := 219) (L' := [qr 0, qr 1, qi v2, qi v3, qi v4, qi v5, qi v6, qi v7, qi ((x192 &&& (2147483647 : Int32)) % (10 : Int32)), qi (x193 &&& (2147483647 : Int32)), qi (x194 &&& (2147483647 : Int32)), qi (x195 &&& (2147483647 : Int32)), qi ((x193 &&& (2147483647 : Int32)) % (9 : Int32)), qi ((x194 &&& (2147483647 : Int32)) % (5 : Int32)), qu, qu, qu, qu]) (S' := [.int 0]) (H' := (qa scr :: bk0 zaw zbm zba zax zbt zbu zbv zbn zbo zbp zbb zbc zbd zbe zan zao zal zam zap zaq zar zas zat zau zbl zav zay zaz zbq zbr zbs zbf zbg zbh zbi zbj zbk [])) rfl ?_
              exact ok_L_law_219 ih h
          · simp only [if_neg hc216] at h
            refine OEndsQ.icmpT hm_0 rfl (q := 257) rfl ((feq hc216).2) ?_
            refine OEndsQ.adv hm_0 2 (pc' := 260) (L' := [qr 0, qr 1, qi v2, qi v3, qi v4, qi v5, qi v6, qi v7, qi ((x192 &&& (2147483647 : Int32)) % (10 : Int32)), qi (x193 &&& (2147483647 : Int32)), qi (x194 &&& (2147483647 : Int32)), qi (x195 &&& (2147483647 : Int32)), qu, qu, qu, qu, qu, qu]) (S' := [.int 3, .int ((x192 &&& (2147483647 : Int32)) % (10 : Int32))]) (H' := (qa scr :: bk0 zaw zbm zba zax zbt zbu zbv zbn zbo zbp zbb zbc zbd zbe zan zao zal zam zap zaq zar zas zat zau zbl zav zay zaz zbq zbr zbs zbf zbg zbh zbi zbj zbk [])) rfl ?_
            by_cases hc219 : ((x192 &&& (2147483647 : Int32)) % (10 : Int32)) = (3 : Int32)
            · simp only [if_pos hc219] at h
              refine OEndsQ.icmpF hm_0 rfl ((teq hc219).2) ?_
              refine OEndsQ.adv hm_0 14 (pc' := 286) (L' := [qr 0, qr 1, qi v2, qi v3, qi v4, qi v5, qi v6, qi v7, qi ((x192 &&& (2147483647 : Int32)) % (10 : Int32)), qi (x193 &&& (2147483647 : Int32)), qi (x194 &&& (2147483647 : Int32)), qi (x195 &&& (2147483647 : Int32)), qi ((x193 &&& (2147483647 : Int32)) % (9 : Int32)), qi ((x194 &&& (2147483647 : Int32)) % (9 : Int32)), qi ((x195 &&& (2147483647 : Int32)) % (5 : Int32)), qu, qu, qu]) (S' := [.int 4, .int ((x195 &&& (2147483647 : Int32)) % (5 : Int32))]) (H' := (qa scr :: bk0 zaw zbm zba zax zbt zbu zbv zbn zbo zbp zbb zbc zbd zbe zan zao zal zam zap zaq zar zas zat zau zbl zav zay zaz zbq zbr zbs zbf zbg zbh zbi zbj zbk [])) rfl ?_
              by_cases hc220 : ((x195 &&& (2147483647 : Int32)) % (5 : Int32)) < (4 : Int32)
              · simp only [if_pos hc220] at h
                refine OEndsQ.icmpF hm_0 rfl ((tlt hc220).2.1) ?_
                refine OEndsQ.adv hm_0 2 (pc' := 293) (L' := [qr 0, qr 1, qi v2, qi v3, qi v4, qi v5, qi v6, qi v7, qi ((x192 &&& (2147483647 : Int32)) % (10 : Int32)), qi (x193 &&& (2147483647 : Int32)), qi (x194 &&& (2147483647 : Int32)), qi (x195 &&& (2147483647 : Int32)), qi ((x193 &&& (2147483647 : Int32)) % (9 : Int32)), qi ((x194 &&& (2147483647 : Int32)) % (9 : Int32)), qi ((x195 &&& (2147483647 : Int32)) % (5 : Int32)), qu, qu, qu]) (S' := [.int 8, .int ((x193 &&& (2147483647 : Int32)) % (9 : Int32))]) (H' := (qa scr :: bk0 zaw zbm zba zax zbt zbu zbv zbn zbo zbp zbb zbc zbd zbe zan zao zal zam zap zaq zar zas zat zau zbl zav zay zaz zbq zbr zbs zbf zbg zbh zbi zbj zbk [])) rfl ?_
                by_cases hc221 : ((x193 &&& (2147483647 : Int32)) % (9 : Int32)) < (8 : Int32)
                · simp only [if_pos hc221] at h
                  refine OEndsQ.icmpF hm_0 rfl ((tlt hc221).2.1) ?_
                  refine OEndsQ.adv hm_0 2 (pc' := 299) (L' := [qr 0, qr 1, qi v2, qi v3, qi v4, qi v5, qi v6, qi v7, qi ((x192 &&& (2147483647 : Int32)) % (10 : Int32)), qi (x193 &&& (2147483647 : Int32)), qi (x194 &&& (2147483647 : Int32)), qi (x195 &&& (2147483647 : Int32)), qi ((x193 &&& (2147483647 : Int32)) % (9 : Int32)), qi ((x194 &&& (2147483647 : Int32)) % (9 : Int32)), qi ((x195 &&& (2147483647 : Int32)) % (5 : Int32)), qu, qu, qu]) (S' := [.int 1, .int ((x194 &&& (2147483647 : Int32)) % (9 : Int32))]) (H' := (qa scr :: bk0 zaw zbm zba zax zbt zbu zbv zbn zbo zbp zbb zbc zbd zbe zan zao zal zam zap zaq zar zas zat zau zbl zav zay zaz zbq zbr zbs zbf zbg zbh zbi zbj zbk [])) rfl ?_
                  by_cases hc222 : ((x194 &&& (2147483647 : Int32)) % (9 : Int32)) < (1 : Int32)
                  · simp only [if_pos hc222] at h
                    refine OEndsQ.icmpT hm_0 rfl (q := 316) rfl ((tlt hc222).1) ?_
                    refine OEndsQ.adv hm_0 1 (pc' := 317) (L' := [qr 0, qr 1, qi v2, qi v3, qi v4, qi v5, qi v6, qi v7, qi ((x192 &&& (2147483647 : Int32)) % (10 : Int32)), qi (x193 &&& (2147483647 : Int32)), qi (x194 &&& (2147483647 : Int32)), qi (x195 &&& (2147483647 : Int32)), qi ((x193 &&& (2147483647 : Int32)) % (9 : Int32)), qi ((x194 &&& (2147483647 : Int32)) % (9 : Int32)), qi ((x195 &&& (2147483647 : Int32)) % (5 : Int32)), qu, qu, qu]) (S' := [.int 0]) (H' := (qa scr :: bk0 zaw zbm zba zax zbt zbu zbv zbn zbo zbp zbb zbc zbd zbe zan zao zal zam zap zaq zar zas zat zau zbl zav zay zaz zbq zbr zbs zbf zbg zbh zbi zbj zbk [])) rfl ?_
                    exact ok_L_law_317 ih h
                  · simp only [if_neg hc222] at h
                    refine OEndsQ.icmpF hm_0 rfl ((flt hc222).1) ?_
                    refine OEndsQ.adv hm_0 4 (pc' := 309) (L' := [qr 0, qr 1, qi v2, qi v3, qi v4, qi v5, qi v6, qi v7, qi ((x192 &&& (2147483647 : Int32)) % (10 : Int32)), qi (x193 &&& (2147483647 : Int32)), qi (x194 &&& (2147483647 : Int32)), qi (x195 &&& (2147483647 : Int32)), qi ((x193 &&& (2147483647 : Int32)) % (9 : Int32)), qi ((x194 &&& (2147483647 : Int32)) % (9 : Int32)), qi ((x195 &&& (2147483647 : Int32)) % (5 : Int32)), qu, qu, qu]) (S' := [.int ((8 : Int32) - ((x193 &&& (2147483647 : Int32)) % (9 : Int32))), .int ((x194 &&& (2147483647 : Int32)) % (9 : Int32))]) (H' := (qa scr :: bk0 zaw zbm zba zax zbt zbu zbv zbn zbo zbp zbb zbc zbd zbe zan zao zal zam zap zaq zar zas zat zau zbl zav zay zaz zbq zbr zbs zbf zbg zbh zbi zbj zbk [])) rfl ?_
                    by_cases hc223 : ((8 : Int32) - ((x193 &&& (2147483647 : Int32)) % (9 : Int32))) < ((x194 &&& (2147483647 : Int32)) % (9 : Int32))
                    · simp only [if_pos hc223] at h
                      refine OEndsQ.icmpT hm_0 rfl (q := 316) rfl ((tlt hc223).2.2.1) ?_
                      refine OEndsQ.adv hm_0 1 (pc' := 317) (L' := [qr 0, qr 1, qi v2, qi v3, qi v4, qi v5, qi v6, qi v7, qi ((x192 &&& (2147483647 : Int32)) % (10 : Int32)), qi (x193 &&& (2147483647 : Int32)), qi (x194 &&& (2147483647 : Int32)), qi (x195 &&& (2147483647 : Int32)), qi ((x193 &&& (2147483647 : Int32)) % (9 : Int32)), qi ((x194 &&& (2147483647 : Int32)) % (9 : Int32)), qi ((x195 &&& (2147483647 : Int32)) % (5 : Int32)), qu, qu, qu]) (S' := [.int 0]) (H' := (qa scr :: bk0 zaw zbm zba zax zbt zbu zbv zbn zbo zbp zbb zbc zbd zbe zan zao zal zam zap zaq zar zas zat zau zbl zav zay zaz zbq zbr zbs zbf zbg zbh zbi zbj zbk [])) rfl ?_
                      exact ok_L_law_317 ih h
                    · simp only [if_neg hc223] at h
                      refine OEndsQ.icmpF hm_0 rfl ((flt hc223).2.2.1) ?_
                      refine OEndsQ.adv hm_0 2 (pc' := 317) (L' := [qr 0, qr 1, qi v2, qi v3, qi v4, qi v5, qi v6, qi v7, qi ((x192 &&& (2147483647 : Int32)) % (10 : Int32)), qi (x193 &&& (2147483647 : Int32)), qi (x194 &&& (2147483647 : Int32)), qi (x195 &&& (2147483647 : Int32)), qi ((x193 &&& (2147483647 : Int32)) % (9 : Int32)), qi ((x194 &&& (2147483647 : Int32)) % (9 : Int32)), qi ((x195 &&& (2147483647 : Int32)) % (5 : Int32)), qu, qu, qu]) (S' := [.int 1]) (H' := (qa scr :: bk0 zaw zbm zba zax zbt zbu zbv zbn zbo zbp zbb zbc zbd zbe zan zao zal zam zap zaq zar zas zat zau zbl zav zay zaz zbq zbr zbs zbf zbg zbh zbi zbj zbk [])) rfl ?_
                      exact ok_L_law_317 ih h
                · simp only [if_neg hc221] at h
                  refine OEndsQ.icmpT hm_0 rfl (q := 316) rfl ((flt hc221).2.1) ?_
                  refine OEndsQ.adv hm_0 1 (pc' := 317) (L' := [qr 0, qr 1, qi v2, qi v3, qi v4, qi v5, qi v6, qi v7, qi ((x192 &&& (2147483647 : Int32)) % (10 : Int32)), qi (x193 &&& (2147483647 : Int32)), qi (x194 &&& (2147483647 : Int32)), qi (x195 &&& (2147483647 : Int32)), qi ((x193 &&& (2147483647 : Int32)) % (9 : Int32)), qi ((x194 &&& (2147483647 : Int32)) % (9 : Int32)), qi ((x195 &&& (2147483647 : Int32)) % (5 : Int32)), qu, qu, qu]) (S' := [.int 0]) (H' := (qa scr :: bk0 zaw zbm zba zax zbt zbu zbv zbn zbo zbp zbb zbc zbd zbe zan zao zal zam zap zaq zar zas zat zau zbl zav zay zaz zbq zbr zbs zbf zbg zbh zbi zbj zbk [])) rfl ?_
                  exact ok_L_law_317 ih h
              · simp only [if_neg hc220] at h
                refine OEndsQ.icmpT hm_0 rfl (q := 316) rfl ((flt hc220).2.1) ?_
                refine OEndsQ.adv hm_0 1 (pc' := 317) (L' := [qr 0, qr 1, qi v2, qi v3, qi v4, qi v5, qi v6, qi v7, qi ((x192 &&& (2147483647 : Int32)) % (10 : Int32)), qi (x193 &&& (2147483647 : Int32)), qi (x194 &&& (2147483647 : Int32)), qi (x195 &&& (2147483647 : Int32)), qi ((x193 &&& (2147483647 : Int32)) % (9 : Int32)), qi ((x194 &&& (2147483647 : Int32)) % (9 : Int32)), qi ((x195 &&& (2147483647 : Int32)) % (5 : Int32)), qu, qu, qu]) (S' := [.int 0]) (H' := (qa scr :: bk0 zaw zbm zba zax zbt zbu zbv zbn zbo zbp zbb zbc zbd zbe zan zao zal zam zap zaq zar zas zat zau zbl zav zay zaz zbq zbr zbs zbf zbg zbh zbi zbj zbk [])) rfl ?_
                exact ok_L_law_317 ih h
            · simp only [if_neg hc219] at h
              refine OEndsQ.icmpT hm_0 rfl (q := 377) rfl ((feq hc219).2) ?_
              refine OEndsQ.adv hm_0 2 (pc' := 380) (L' := [qr 0, qr 1, qi v2, qi v3, qi v4, qi v5, qi v6, qi v7, qi ((x192 &&& (2147483647 : Int32)) % (10 : Int32)), qi (x193 &&& (2147483647 : Int32)), qi (x194 &&& (2147483647 : Int32)), qi (x195 &&& (2147483647 : Int32)), qu, qu, qu, qu, qu, qu]) (S' := [.int 4, .int ((x192 &&& (2147483647 : Int32)) % (10 : Int32))]) (H' := (qa scr :: bk0 zaw zbm zba zax zbt zbu zbv zbn zbo zbp zbb zbc zbd zbe zan zao zal zam zap zaq zar zas zat zau zbl zav zay zaz zbq zbr zbs zbf zbg zbh zbi zbj zbk [])) rfl ?_
              by_cases hc224 : ((x192 &&& (2147483647 : Int32)) % (10 : Int32)) = (4 : Int32)
              · simp only [if_pos hc224] at h
                refine OEndsQ.icmpF hm_0 rfl ((teq hc224).2) ?_
                refine OEndsQ.adv hm_0 1 (pc' := 384) (L' := [qr 0, qr 1, qi v2, qi v3, qi v4, qi v5, qi v6, qi v7, qi ((x192 &&& (2147483647 : Int32)) % (10 : Int32)), qi (x193 &&& (2147483647 : Int32)), qi (x194 &&& (2147483647 : Int32)), qi (x195 &&& (2147483647 : Int32)), qu, qu, qu, qu, qu, qu]) (S' := [.ref 1]) (H' := (qa scr :: bk0 zaw zbm zba zax zbt zbu zbv zbn zbo zbp zbb zbc zbd zbe zan zao zal zam zap zaq zar zas zat zau zbl zav zay zaz zbq zbr zbs zbf zbg zbh zbi zbj zbk [])) rfl ?_
                obtain ⟨⟨r217, s218, s219, s220, s221, s222, s223, s224, s225, s226, s227, s228⟩, hq225, h⟩ := bnd h
                refine OEndsQ.call0 hm_0 rfl rfl (by decide) rfl (as := [.ref 1]) (rest := []) rfl rfl (ok_encode hq225) ?_
                refine OEndsQ.adv hm_0 3 (pc' := 392) (L' := [qr 0, qr 1, qi v2, qi v3, qi v4, qi v5, qi v6, qi v7, qi ((x192 &&& (2147483647 : Int32)) % (10 : Int32)), qi (x193 &&& (2147483647 : Int32)), qi (x194 &&& (2147483647 : Int32)), qi (x195 &&& (2147483647 : Int32)), qi r217, qu, qu, qu, qu, qu]) (S' := [.int 5, .int r217]) (H' := (qa scr :: bk0 zaw s218 zba zax s219 s220 s221 s222 s223 s224 zbb zbc zbd zbe zan zao zal zam zap zaq zar zas zat zau s225 zav zay zaz s226 s227 s228 zbf zbg zbh zbi zbj zbk [])) rfl ?_
                by_cases hc226 : r217 < (5 : Int32)
                · simp only [if_pos hc226] at h
                  refine OEndsQ.icmpT hm_0 rfl (q := 402) rfl ((tlt hc226).1) ?_
                  refine OEndsQ.adv hm_0 1 (pc' := 403) (L' := [qr 0, qr 1, qi v2, qi v3, qi v4, qi v5, qi v6, qi v7, qi ((x192 &&& (2147483647 : Int32)) % (10 : Int32)), qi (x193 &&& (2147483647 : Int32)), qi (x194 &&& (2147483647 : Int32)), qi (x195 &&& (2147483647 : Int32)), qi r217, qu, qu, qu, qu, qu]) (S' := [.int 0]) (H' := (qa scr :: bk0 zaw s218 zba zax s219 s220 s221 s222 s223 s224 zbb zbc zbd zbe zan zao zal zam zap zaq zar zas zat zau s225 zav zay zaz s226 s227 s228 zbf zbg zbh zbi zbj zbk [])) rfl ?_
                  cases h
                  exact OEndsQ.iret hm_0 rfl rfl
                · simp only [if_neg hc226] at h
                  refine OEndsQ.icmpF hm_0 rfl ((flt hc226).1) ?_
                  refine OEndsQ.adv hm_0 2 (pc' := 399) (L' := [qr 0, qr 1, qi v2, qi v3, qi v4, qi v5, qi v6, qi v7, qi ((x192 &&& (2147483647 : Int32)) % (10 : Int32)), qi (x193 &&& (2147483647 : Int32)), qi (x194 &&& (2147483647 : Int32)), qi (x195 &&& (2147483647 : Int32)), qi r217, qu, qu, qu, qu, qu]) (S' := [.int 9, .int r217]) (H' := (qa scr :: bk0 zaw s218 zba zax s219 s220 s221 s222 s223 s224 zbb zbc zbd zbe zan zao zal zam zap zaq zar zas zat zau s225 zav zay zaz s226 s227 s228 zbf zbg zbh zbi zbj zbk [])) rfl ?_
                  by_cases hc227 : (9 : Int32) < r217
                  · simp only [if_pos hc227] at h
                    refine OEndsQ.icmpF hm_0 rfl ((tlt hc227).2.2.2) ?_
                    refine OEndsQ.adv hm_0 1 (pc' := 403) (L' := [qr 0, qr 1, qi v2, qi v3, qi v4, qi v5, qi v6, qi v7, qi ((x192 &&& (2147483647 : Int32)) % (10 : Int32)), qi (x193 &&& (2147483647 : Int32)), qi (x194 &&& (2147483647 : Int32)), qi (x195 &&& (2147483647 : Int32)), qi r217, qu, qu, qu, qu, qu]) (S' := [.int 0]) (H' := (qa scr :: bk0 zaw s218 zba zax s219 s220 s221 s222 s223 s224 zbb zbc zbd zbe zan zao zal zam zap zaq zar zas zat zau s225 zav zay zaz s226 s227 s228 zbf zbg zbh zbi zbj zbk [])) rfl ?_
                    cases h
                    exact OEndsQ.iret hm_0 rfl rfl
                  · simp only [if_neg hc227] at h
                    refine OEndsQ.icmpT hm_0 rfl (q := 404) rfl ((flt hc227).2.2.2) ?_
                    refine OEndsQ.adv hm_0 4 (pc' := 410) (L' := [qr 0, qr 1, qi v2, qi v3, qi r217, qi v5, qi v6, qi v7, qi ((x192 &&& (2147483647 : Int32)) % (10 : Int32)), qi (x193 &&& (2147483647 : Int32)), qi (x194 &&& (2147483647 : Int32)), qi (x195 &&& (2147483647 : Int32)), qi r217, qu, qu, qu, qu, qu]) (S' := [.int 0, .ref 1]) (H' := (qa scr :: bk0 zaw s218 zba zax s219 s220 s221 s222 s223 s224 zbb zbc zbd zbe zan zao zal zam zap zaq zar zas zat zau s225 zav zay zaz s226 s227 s228 zbf zbg zbh zbi zbj zbk [])) rfl ?_
                    obtain ⟨r229, hq228, h⟩ := bnd h
                    refine OEndsQ.call0 hm_0 rfl rfl (by decide) rfl (as := [.ref 1, .int 0]) (rest := []) rfl rfl (ok_getOutByte hq228) ?_
                    refine OEndsQ.adv hm_0 1 (pc' := 414) (L' := [qr 0, qr 1, qi v2, qi v3, qi r217, qi v5, qi v6, qi v7, qi ((x192 &&& (2147483647 : Int32)) % (10 : Int32)), qi (x193 &&& (2147483647 : Int32)), qi (x194 &&& (2147483647 : Int32)), qi (x195 &&& (2147483647 : Int32)), qi r217, qu, qu, qu, qu, qu]) (S' := [.int 2, .int r229]) (H' := (qa scr :: bk0 zaw s218 zba zax s219 s220 s221 s222 s223 s224 zbb zbc zbd zbe zan zao zal zam zap zaq zar zas zat zau s225 zav zay zaz s226 s227 s228 zbf zbg zbh zbi zbj zbk [])) rfl ?_
                    by_cases hc229 : r229 = (2 : Int32)
                    · simp only [if_pos hc229] at h
                      refine OEndsQ.icmpF hm_0 rfl ((teq hc229).2) ?_
                      refine OEndsQ.adv hm_0 4 (pc' := 422) (L' := [qr 0, qr 1, qi v2, qi v3, qi r217, qi v5, qi v6, qi v7, qi ((x192 &&& (2147483647 : Int32)) % (10 : Int32)), qi (x193 &&& (2147483647 : Int32)), qi (x194 &&& (2147483647 : Int32)), qi (x195 &&& (2147483647 : Int32)), qi r217, qu, qu, qu, qu, qu]) (S' := [.int (r217 - (1 : Int32)), .ref 1]) (H' := (qa scr :: bk0 zaw s218 zba zax s219 s220 s221 s222 s223 s224 zbb zbc zbd zbe zan zao zal zam zap zaq zar zas zat zau s225 zav zay zaz s226 s227 s228 zbf zbg zbh zbi zbj zbk [])) rfl ?_
                      obtain ⟨r230, hq230, h⟩ := bnd h
                      refine OEndsQ.call0 hm_0 rfl rfl (by decide) rfl (as := [.ref 1, .int (r217 - (1 : Int32))]) (rest := []) rfl rfl (ok_getOutByte hq230) ?_
                      show OEndsQ own_P 0 425 [qr 0, qr 1, qi v2, qi v3, qi r217, qi v5, qi v6, qi v7, qi ((x192 &&& (2147483647 : Int32)) % (10 : Int32)), qi (x193 &&& (2147483647 : Int32)), qi (x194 &&& (2147483647 : Int32)), qi (x195 &&& (2147483647 : Int32)), qi r217, qu, qu, qu, qu, qu] [.int r230] (qa scr :: bk0 zaw s218 zba zax s219 s220 s221 s222 s223 s224 zbb zbc zbd zbe zan zao zal zam zap zaq zar zas zat zau s225 zav zay zaz s226 s227 s228 zbf zbg zbh zbi zbj zbk []) _
                      by_cases hc231 : r230 = (0 : Int32)
                      · simp only [if_pos hc231] at h
                        refine OEndsQ.ifT hm_0 rfl (q := 430) rfl ((teq hc231).1) ?_
                        refine OEndsQ.adv hm_0 2 (pc' := 432) (L' := [qr 0, qr 1, qi v2, qi v3, qi r217, qi v5, qi v6, qi v7, qi ((x192 &&& (2147483647 : Int32)) % (10 : Int32)), qi (x193 &&& (2147483647 : Int32)), qi (x194 &&& (2147483647 : Int32)), qi (x195 &&& (2147483647 : Int32)), qi r217, qu, qu, qu, qu, qu]) (S' := [.int 1, .ref 1]) (H' := (qa scr :: bk0 zaw s218 zba zax s219 s220 s221 s222 s223 s224 zbb zbc zbd zbe zan zao zal zam zap zaq zar zas zat zau s225 zav zay zaz s226 s227 s228 zbf zbg zbh zbi zbj zbk [])) rfl ?_
                        obtain ⟨r231, hq232, h⟩ := bnd h
                        refine OEndsQ.call0 hm_0 rfl rfl (by decide) rfl (as := [.ref 1, .int 1]) (rest := []) rfl rfl (ok_getOutByte hq232) ?_
                        refine OEndsQ.adv hm_0 3 (pc' := 440) (L' := [qr 0, qr 1, qi v2, qi v3, qi r217, qi v5, qi v6, qi v7, qi ((x192 &&& (2147483647 : Int32)) % (10 : Int32)), qi (x193 &&& (2147483647 : Int32)), qi (x194 &&& (2147483647 : Int32)), qi (x195 &&& (2147483647 : Int32)), qi r217, qi r231, qu, qu, qu, qu]) (S' := [.int 2, .int r231]) (H' := (qa scr :: bk0 zaw s218 zba zax s219 s220 s221 s222 s223 s224 zbb zbc zbd zbe zan zao zal zam zap zaq zar zas zat zau s225 zav zay zaz s226 s227 s228 zbf zbg zbh zbi zbj zbk [])) rfl ?_
                        by_cases hc233 : r231 < (2 : Int32)
                        · simp only [if_pos hc233] at h
                          refine OEndsQ.icmpT hm_0 rfl (q := 449) rfl ((tlt hc233).1) ?_
                          refine OEndsQ.adv hm_0 1 (pc' := 450) (L' := [qr 0, qr 1, qi v2, qi v3, qi r217, qi v5, qi v6, qi v7, qi ((x192 &&& (2147483647 : Int32)) % (10 : Int32)), qi (x193 &&& (2147483647 : Int32)), qi (x194 &&& (2147483647 : Int32)), qi (x195 &&& (2147483647 : Int32)), qi r217, qi r231, qu, qu, qu, qu]) (S' := [.int 0]) (H' := (qa scr :: bk0 zaw s218 zba zax s219 s220 s221 s222 s223 s224 zbb zbc zbd zbe zan zao zal zam zap zaq zar zas zat zau s225 zav zay zaz s226 s227 s228 zbf zbg zbh zbi zbj zbk [])) rfl ?_
                          cases h
                          exact OEndsQ.iret hm_0 rfl rfl
                        · simp only [if_neg hc233] at h
                          refine OEndsQ.icmpF hm_0 rfl ((flt hc233).1) ?_
                          refine OEndsQ.adv hm_0 2 (pc' := 446) (L' := [qr 0, qr 1, qi v2, qi v3, qi r217, qi v5, qi v6, qi v7, qi ((x192 &&& (2147483647 : Int32)) % (10 : Int32)), qi (x193 &&& (2147483647 : Int32)), qi (x194 &&& (2147483647 : Int32)), qi (x195 &&& (2147483647 : Int32)), qi r217, qi r231, qu, qu, qu, qu]) (S' := [.int 5, .int r231]) (H' := (qa scr :: bk0 zaw s218 zba zax s219 s220 s221 s222 s223 s224 zbb zbc zbd zbe zan zao zal zam zap zaq zar zas zat zau s225 zav zay zaz s226 s227 s228 zbf zbg zbh zbi zbj zbk [])) rfl ?_
                          by_cases hc234 : (5 : Int32) < r231
                          · simp only [if_pos hc234] at h
                            refine OEndsQ.icmpF hm_0 rfl ((tlt hc234).2.2.2) ?_
                            refine OEndsQ.adv hm_0 1 (pc' := 450) (L' := [qr 0, qr 1, qi v2, qi v3, qi r217, qi v5, qi v6, qi v7, qi ((x192 &&& (2147483647 : Int32)) % (10 : Int32)), qi (x193 &&& (2147483647 : Int32)), qi (x194 &&& (2147483647 : Int32)), qi (x195 &&& (2147483647 : Int32)), qi r217, qi r231, qu, qu, qu, qu]) (S' := [.int 0]) (H' := (qa scr :: bk0 zaw s218 zba zax s219 s220 s221 s222 s223 s224 zbb zbc zbd zbe zan zao zal zam zap zaq zar zas zat zau s225 zav zay zaz s226 s227 s228 zbf zbg zbh zbi zbj zbk [])) rfl ?_
                            cases h
                            exact OEndsQ.iret hm_0 rfl rfl
                          · simp only [if_neg hc234] at h
                            refine OEndsQ.icmpT hm_0 rfl (q := 451) rfl ((flt hc234).2.2.2) ?_
                            refine OEndsQ.adv hm_0 1 (pc' := 702) (L' := [qr 0, qr 1, qi v2, qi v3, qi r217, qi v5, qi v6, qi v7, qi ((x192 &&& (2147483647 : Int32)) % (10 : Int32)), qi (x193 &&& (2147483647 : Int32)), qi (x194 &&& (2147483647 : Int32)), qi (x195 &&& (2147483647 : Int32)), qi r217, qi r231, qu, qu, qu, qu]) (S' := []) (H' := (qa scr :: bk0 zaw s218 zba zax s219 s220 s221 s222 s223 s224 zbb zbc zbd zbe zan zao zal zam zap zaq zar zas zat zau s225 zav zay zaz s226 s227 s228 zbf zbg zbh zbi zbj zbk [])) rfl ?_
                            exact ok_L_law_702 ih h
                      · simp only [if_neg hc231] at h
                        refine OEndsQ.ifF hm_0 rfl ((feq hc231).1) ?_
                        refine OEndsQ.adv hm_0 1 (pc' := 429) (L' := [qr 0, qr 1, qi v2, qi v3, qi r217, qi v5, qi v6, qi v7, qi ((x192 &&& (2147483647 : Int32)) % (10 : Int32)), qi (x193 &&& (2147483647 : Int32)), qi (x194 &&& (2147483647 : Int32)), qi (x195 &&& (2147483647 : Int32)), qi r217, qu, qu, qu, qu, qu]) (S' := [.int 0]) (H' := (qa scr :: bk0 zaw s218 zba zax s219 s220 s221 s222 s223 s224 zbb zbc zbd zbe zan zao zal zam zap zaq zar zas zat zau s225 zav zay zaz s226 s227 s228 zbf zbg zbh zbi zbj zbk [])) rfl ?_
                        cases h
                        exact OEndsQ.iret hm_0 rfl rfl
                    · simp only [if_neg hc229] at h
                      refine OEndsQ.icmpT hm_0 rfl (q := 428) rfl ((feq hc229).2) ?_
                      refine OEndsQ.adv hm_0 1 (pc' := 429) (L' := [qr 0, qr 1, qi v2, qi v3, qi r217, qi v5, qi v6, qi v7, qi ((x192 &&& (2147483647 : Int32)) % (10 : Int32)), qi (x193 &&& (2147483647 : Int32)), qi (x194 &&& (2147483647 : Int32)), qi (x195 &&& (2147483647 : Int32)), qi r217, qu, qu, qu, qu, qu]) (S' := [.int 0]) (H' := (qa scr :: bk0 zaw s218 zba zax s219 s220 s221 s222 s223 s224 zbb zbc zbd zbe zan zao zal zam zap zaq zar zas zat zau s225 zav zay zaz s226 s227 s228 zbf zbg zbh zbi zbj zbk [])) rfl ?_
                      cases h
                      exact OEndsQ.iret hm_0 rfl rfl
              · simp only [if_neg hc224] at h
                refine OEndsQ.icmpT hm_0 rfl (q := 454) rfl ((feq hc224).2) ?_
                refine OEndsQ.adv hm_0 2 (pc' := 457) (L' := [qr 0, qr 1, qi v2, qi v3, qi v4, qi v5, qi v6, qi v7, qi ((x192 &&& (2147483647 : Int32)) % (10 : Int32)), qi (x193 &&& (2147483647 : Int32)), qi (x194 &&& (2147483647 : Int32)), qi (x195 &&& (2147483647 : Int32)), qu, qu, qu, qu, qu, qu]) (S' := [.int 5, .int ((x192 &&& (2147483647 : Int32)) % (10 : Int32))]) (H' := (qa scr :: bk0 zaw zbm zba zax zbt zbu zbv zbn zbo zbp zbb zbc zbd zbe zan zao zal zam zap zaq zar zas zat zau zbl zav zay zaz zbq zbr zbs zbf zbg zbh zbi zbj zbk [])) rfl ?_
                by_cases hc235 : ((x192 &&& (2147483647 : Int32)) % (10 : Int32)) = (5 : Int32)
                · simp only [if_pos hc235] at h
                  refine OEndsQ.icmpF hm_0 rfl ((teq hc235).2) ?_
                  refine OEndsQ.adv hm_0 1 (pc' := 461) (L' := [qr 0, qr 1, qi v2, qi v3, qi v4, qi v5, qi v6, qi v7, qi ((x192 &&& (2147483647 : Int32)) % (10 : Int32)), qi (x193 &&& (2147483647 : Int32)), qi (x194 &&& (2147483647 : Int32)), qi (x195 &&& (2147483647 : Int32)), qu, qu, qu, qu, qu, qu]) (S' := [.ref 1]) (H' := (qa scr :: bk0 zaw zbm zba zax zbt zbu zbv zbn zbo zbp zbb zbc zbd zbe zan zao zal zam zap zaq zar zas zat zau zbl zav zay zaz zbq zbr zbs zbf zbg zbh zbi zbj zbk [])) rfl ?_
                  obtain ⟨s216, hq236, h⟩ := bnd h
                  refine OEndsQ.call0 hm_0 rfl rfl (by decide) rfl (as := [.ref 1]) (rest := []) rfl rfl (ok_clearInput hq236) ?_
                  refine OEndsQ.adv hm_0 3 (pc' := 702) (L' := [qr 0, qr 1, qi v2, qi 0, qi v4, qi v5, qi v6, qi v7, qi ((x192 &&& (2147483647 : Int32)) % (10 : Int32)), qi (x193 &&& (2147483647 : Int32)), qi (x194 &&& (2147483647 : Int32)), qi (x195 &&& (2147483647 : Int32)), qu, qu, qu, qu, qu, qu]) (S' := []) (H' := (qa scr :: bk0 zaw zbm zba zax zbt zbu zbv zbn zbo zbp zbb zbc zbd zbe zan zao zal zam zap zaq zar zas zat zau zbl s216 zay zaz zbq zbr zbs zbf zbg zbh zbi zbj zbk [])) rfl ?_
                  exact ok_L_law_702 ih h
                · simp only [if_neg hc235] at h
                  refine OEndsQ.icmpT hm_0 rfl (q := 469) rfl ((feq hc235).2) ?_
                  refine OEndsQ.adv hm_0 2 (pc' := 473) (L' := [qr 0, qr 1, qi v2, qi v3, qi v4, qi v5, qi v6, qi v7, qi ((x192 &&& (2147483647 : Int32)) % (10 : Int32)), qi (x193 &&& (2147483647 : Int32)), qi (x194 &&& (2147483647 : Int32)), qi (x195 &&& (2147483647 : Int32)), qu, qu, qu, qu, qu, qu]) (S' := [.int 6, .int ((x192 &&& (2147483647 : Int32)) % (10 : Int32))]) (H' := (qa scr :: bk0 zaw zbm zba zax zbt zbu zbv zbn zbo zbp zbb zbc zbd zbe zan zao zal zam zap zaq zar zas zat zau zbl zav zay zaz zbq zbr zbs zbf zbg zbh zbi zbj zbk [])) rfl ?_
                  by_cases hc237 : ((x192 &&& (2147483647 : Int32)) % (10 : Int32)) = (6 : Int32)
                  · simp only [if_pos hc237] at h
                    refine OEndsQ.icmpF hm_0 rfl ((teq hc237).2) ?_
                    refine OEndsQ.adv hm_0 6 (pc' := 489) (L' := [qr 0, qr 1, qi v2, qi v3, qi v4, qi v5, qi v6, qi v7, qi ((x192 &&& (2147483647 : Int32)) % (10 : Int32)), qi (x193 &&& (2147483647 : Int32)), qi (x194 &&& (2147483647 : Int32)), qi (x195 &&& (2147483647 : Int32)), qi ((x193 &&& (2147483647 : Int32)) % (300 : Int32)), qu, qu, qu, qu, qu]) (S' := [.int 255, .int ((x193 &&& (2147483647 : Int32)) % (300 : Int32))]) (H' := (qa scr :: bk0 zaw zbm zba zax zbt zbu zbv zbn zbo zbp zbb zbc zbd zbe zan zao zal zam zap zaq zar zas zat zau zbl zav zay zaz zbq zbr zbs zbf zbg zbh zbi zbj zbk [])) rfl ?_
                    by_cases hc238 : (255 : Int32) < ((x193 &&& (2147483647 : Int32)) % (300 : Int32))
                    · simp only [if_pos hc238] at h
                      refine OEndsQ.icmpT hm_0 rfl (q := 503) rfl ((tlt hc238).2.2.1) ?_
                      refine OEndsQ.adv hm_0 1 (pc' := 504) (L' := [qr 0, qr 1, qi v2, qi v3, qi v4, qi v5, qi v6, qi v7, qi ((x192 &&& (2147483647 : Int32)) % (10 : Int32)), qi (x193 &&& (2147483647 : Int32)), qi (x194 &&& (2147483647 : Int32)), qi (x195 &&& (2147483647 : Int32)), qi ((x193 &&& (2147483647 : Int32)) % (300 : Int32)), qu, qu, qu, qu, qu]) (S' := [.int 0]) (H' := (qa scr :: bk0 zaw zbm zba zax zbt zbu zbv zbn zbo zbp zbb zbc zbd zbe zan zao zal zam zap zaq zar zas zat zau zbl zav zay zaz zbq zbr zbs zbf zbg zbh zbi zbj zbk [])) rfl ?_
                      exact ok_L_law_504 ih h
                    · simp only [if_neg hc238] at h
                      refine OEndsQ.icmpF hm_0 rfl ((flt hc238).2.2.1) ?_
                      refine OEndsQ.adv hm_0 2 (pc' := 496) (L' := [qr 0, qr 1, qi v2, qi v3, qi v4, qi v5, qi v6, qi v7, qi ((x192 &&& (2147483647 : Int32)) % (10 : Int32)), qi (x193 &&& (2147483647 : Int32)), qi (x194 &&& (2147483647 : Int32)), qi (x195 &&& (2147483647 : Int32)), qi ((x193 &&& (2147483647 : Int32)) % (300 : Int32)), qu, qu, qu, qu, qu]) (S' := [.int 512, .int v3]) (H' := (qa scr :: bk0 zaw zbm zba zax zbt zbu zbv zbn zbo zbp zbb zbc zbd zbe zan zao zal zam zap zaq zar zas zat zau zbl zav zay zaz zbq zbr zbs zbf zbg zbh zbi zbj zbk [])) rfl ?_
                      by_cases hc239 : v3 < (512 : Int32)
                      · simp only [if_pos hc239] at h
                        refine OEndsQ.icmpF hm_0 rfl ((tlt hc239).2.1) ?_
                        refine OEndsQ.adv hm_0 2 (pc' := 504) (L' := [qr 0, qr 1, qi v2, qi v3, qi v4, qi v5, qi v6, qi v7, qi ((x192 &&& (2147483647 : Int32)) % (10 : Int32)), qi (x193 &&& (2147483647 : Int32)), qi (x194 &&& (2147483647 : Int32)), qi (x195 &&& (2147483647 : Int32)), qi ((x193 &&& (2147483647 : Int32)) % (300 : Int32)), qu, qu, qu, qu, qu]) (S' := [.int 1]) (H' := (qa scr :: bk0 zaw zbm zba zax zbt zbu zbv zbn zbo zbp zbb zbc zbd zbe zan zao zal zam zap zaq zar zas zat zau zbl zav zay zaz zbq zbr zbs zbf zbg zbh zbi zbj zbk [])) rfl ?_
                        exact ok_L_law_504 ih h
                      · simp only [if_neg hc239] at h
                        refine OEndsQ.icmpT hm_0 rfl (q := 503) rfl ((flt hc239).2.1) ?_
                        refine OEndsQ.adv hm_0 1 (pc' := 504) (L' := [qr 0, qr 1, qi v2, qi v3, qi v4, qi v5, qi v6, qi v7, qi ((x192 &&& (2147483647 : Int32)) % (10 : Int32)), qi (x193 &&& (2147483647 : Int32)), qi (x194 &&& (2147483647 : Int32)), qi (x195 &&& (2147483647 : Int32)), qi ((x193 &&& (2147483647 : Int32)) % (300 : Int32)), qu, qu, qu, qu, qu]) (S' := [.int 0]) (H' := (qa scr :: bk0 zaw zbm zba zax zbt zbu zbv zbn zbo zbp zbb zbc zbd zbe zan zao zal zam zap zaq zar zas zat zau zbl zav zay zaz zbq zbr zbs zbf zbg zbh zbi zbj zbk [])) rfl ?_
                        exact ok_L_law_504 ih h
                  · simp only [if_neg hc237] at h
                    refine OEndsQ.icmpT hm_0 rfl (q := 534) rfl ((feq hc237).2) ?_
                    refine OEndsQ.adv hm_0 2 (pc' := 538) (L' := [qr 0, qr 1, qi v2, qi v3, qi v4, qi v5, qi v6, qi v7, qi ((x192 &&& (2147483647 : Int32)) % (10 : Int32)), qi (x193 &&& (2147483647 : Int32)), qi (x194 &&& (2147483647 : Int32)), qi (x195 &&& (2147483647 : Int32)), qu, qu, qu, qu, qu, qu]) (S' := [.int 7, .int ((x192 &&& (2147483647 : Int32)) % (10 : Int32))]) (H' := (qa scr :: bk0 zaw zbm zba zax zbt zbu zbv zbn zbo zbp zbb zbc zbd zbe zan zao zal zam zap zaq zar zas zat zau zbl zav zay zaz zbq zbr zbs zbf zbg zbh zbi zbj zbk [])) rfl ?_
                    by_cases hc240 : ((x192 &&& (2147483647 : Int32)) % (10 : Int32)) = (7 : Int32)
                    · simp only [if_pos hc240] at h
                      refine OEndsQ.icmpF hm_0 rfl ((teq hc240).2) ?_
                      refine OEndsQ.adv hm_0 4 (pc' := 546) (L' := [qr 0, qr 1, qi v2, qi v3, qi v4, qi v5, qi v6, qi v7, qi ((x192 &&& (2147483647 : Int32)) % (10 : Int32)), qi (x193 &&& (2147483647 : Int32)), qi (x194 &&& (2147483647 : Int32)), qi (x195 &&& (2147483647 : Int32)), qu, qu, qu, qu, qu, qu]) (S' := [.int (v3 + (2 : Int32)), .int (x193 &&& (2147483647 : Int32))]) (H' := (qa scr :: bk0 zaw zbm zba zax zbt zbu zbv zbn zbo zbp zbb zbc zbd zbe zan zao zal zam zap zaq zar zas zat zau zbl zav zay zaz zbq zbr zbs zbf zbg zbh zbi zbj zbk [])) rfl ?_
                      by_cases hz241 : (v3 + (2 : Int32)) = 0
                      · simp only [if_pos hz241] at h
                        cases h
                      simp only [if_neg hz241] at h
                      refine OEndsQ.plain hm_0 rfl rfl (x_irem hz241) ?_
                      refine OEndsQ.adv hm_0 7 (pc' := 560) (L' := [qr 0, qr 1, qi v2, qi v3, qi v4, qi v5, qi v6, qi v7, qi ((x192 &&& (2147483647 : Int32)) % (10 : Int32)), qi (x193 &&& (2147483647 : Int32)), qi (x194 &&& (2147483647 : Int32)), qi (x195 &&& (2147483647 : Int32)), qi ((x193 &&& (2147483647 : Int32)) % (v3 + (2 : Int32))), qi ((x194 &&& (2147483647 : Int32)) % (300 : Int32)), qu, qu, qu, qu]) (S' := [.int v3, .int ((x193 &&& (2147483647 : Int32)) % (v3 + (2 : Int32)))]) (H' := (qa scr :: bk0 zaw zbm zba zax zbt zbu zbv zbn zbo zbp zbb zbc zbd zbe zan zao zal zam zap zaq zar zas zat zau zbl zav zay zaz zbq zbr zbs zbf zbg zbh zbi zbj zbk [])) rfl ?_
                      by_cases hc242 : ((x193 &&& (2147483647 : Int32)) % (v3 + (2 : Int32))) < v3
                      · simp only [if_pos hc242] at h
                        refine OEndsQ.icmpF hm_0 rfl ((tlt hc242).2.1) ?_
                        refine OEndsQ.adv hm_0 2 (pc' := 568) (L' := [qr 0, qr 1, qi v2, qi v3, qi v4, qi v5, qi v6, qi v7, qi ((x192 &&& (2147483647 : Int32)) % (10 : Int32)), qi (x193 &&& (2147483647 : Int32)), qi (x194 &&& (2147483647 : Int32)), qi (x195 &&& (2147483647 : Int32)), qi ((x193 &&& (2147483647 : Int32)) % (v3 + (2 : Int32))), qi ((x194 &&& (2147483647 : Int32)) % (300 : Int32)), qu, qu, qu, qu]) (S' := [.int 255, .int ((x194 &&& (2147483647 : Int32)) % (300 : Int32))]) (H' := (qa scr :: bk0 zaw zbm zba zax zbt zbu zbv zbn zbo zbp zbb zbc zbd zbe zan zao zal zam zap zaq zar zas zat zau zbl zav zay zaz zbq zbr zbs zbf zbg zbh zbi zbj zbk [])) rfl ?_
                        by_cases hc243 : (255 : Int32) < ((x194 &&& (2147483647 : Int32)) % (300 : Int32))
                        · simp only [if_pos hc243] at h
                          refine OEndsQ.icmpT hm_0 rfl (q := 575) rfl ((tlt hc243).2.2.1) ?_
                          refine OEndsQ.adv hm_0 1 (pc' := 576) (L' := [qr 0, qr 1, qi v2, qi v3, qi v4, qi v5, qi v6, qi v7, qi ((x192 &&& (2147483647 : Int32)) % (10 : Int32)), qi (x193 &&& (2147483647 : Int32)), qi (x194 &&& (2147483647 : Int32)), qi (x195 &&& (2147483647 : Int32)), qi ((x193 &&& (2147483647 : Int32)) % (v3 + (2 : Int32))), qi ((x194 &&& (2147483647 : Int32)) % (300 : Int32)), qu, qu, qu, qu]) (S' := [.int 0]) (H' := (qa scr :: bk0 zaw zbm zba zax zbt zbu zbv zbn zbo zbp zbb zbc zbd zbe zan zao zal zam zap zaq zar zas zat zau zbl zav zay zaz zbq zbr zbs zbf zbg zbh zbi zbj zbk [])) rfl ?_
                          exact ok_L_law_576 ih h
                        · simp only [if_neg hc243] at h
                          refine OEndsQ.icmpF hm_0 rfl ((flt hc243).2.2.1) ?_
                          refine OEndsQ.adv hm_0 2 (pc' := 576) (L' := [qr 0, qr 1, qi v2, qi v3, qi v4, qi v5, qi v6, qi v7, qi ((x192 &&& (2147483647 : Int32)) % (10 : Int32)), qi (x193 &&& (2147483647 : Int32)), qi (x194 &&& (2147483647 : Int32)), qi (x195 &&& (2147483647 : Int32)), qi ((x193 &&& (2147483647 : Int32)) % (v3 + (2 : Int32))), qi ((x194 &&& (2147483647 : Int32)) % (300 : Int32)), qu, qu, qu, qu]) (S' := [.int 1]) (H' := (qa scr :: bk0 zaw zbm zba zax zbt zbu zbv zbn zbo zbp zbb zbc zbd zbe zan zao zal zam zap zaq zar zas zat zau zbl zav zay zaz zbq zbr zbs zbf zbg zbh zbi zbj zbk [])) rfl ?_
                          exact ok_L_law_576 ih h
                      · simp only [if_neg hc242] at h
                        refine OEndsQ.icmpT hm_0 rfl (q := 575) rfl ((flt hc242).2.1) ?_
                        refine OEndsQ.adv hm_0 1 (pc' := 576) (L' := [qr 0, qr 1, qi v2, qi v3, qi v4, qi v5, qi v6, qi v7, qi ((x192 &&& (2147483647 : Int32)) % (10 : Int32)), qi (x193 &&& (2147483647 : Int32)), qi (x194 &&& (2147483647 : Int32)), qi (x195 &&& (2147483647 : Int32)), qi ((x193 &&& (2147483647 : Int32)) % (v3 + (2 : Int32))), qi ((x194 &&& (2147483647 : Int32)) % (300 : Int32)), qu, qu, qu, qu]) (S' := [.int 0]) (H' := (qa scr :: bk0 zaw zbm zba zax zbt zbu zbv zbn zbo zbp zbb zbc zbd zbe zan zao zal zam zap zaq zar zas zat zau zbl zav zay zaz zbq zbr zbs zbf zbg zbh zbi zbj zbk [])) rfl ?_
                        exact ok_L_law_576 ih h
                    · simp only [if_neg hc240] at h
                      refine OEndsQ.icmpT hm_0 rfl (q := 600) rfl ((feq hc240).2) ?_
                      refine OEndsQ.adv hm_0 2 (pc' := 604) (L' := [qr 0, qr 1, qi v2, qi v3, qi v4, qi v5, qi v6, qi v7, qi ((x192 &&& (2147483647 : Int32)) % (10 : Int32)), qi (x193 &&& (2147483647 : Int32)), qi (x194 &&& (2147483647 : Int32)), qi (x195 &&& (2147483647 : Int32)), qu, qu, qu, qu, qu, qu]) (S' := [.int 8, .int ((x192 &&& (2147483647 : Int32)) % (10 : Int32))]) (H' := (qa scr :: bk0 zaw zbm zba zax zbt zbu zbv zbn zbo zbp zbb zbc zbd zbe zan zao zal zam zap zaq zar zas zat zau zbl zav zay zaz zbq zbr zbs zbf zbg zbh zbi zbj zbk [])) rfl ?_
                      by_cases hc244 : ((x192 &&& (2147483647 : Int32)) % (10 : Int32)) = (8 : Int32)
                      · simp only [if_pos hc244] at h
                        refine OEndsQ.icmpF hm_0 rfl ((teq hc244).2) ?_
                        refine OEndsQ.adv hm_0 1 (pc' := 608) (L' := [qr 0, qr 1, qi v2, qi v3, qi v4, qi v5, qi v6, qi v7, qi ((x192 &&& (2147483647 : Int32)) % (10 : Int32)), qi (x193 &&& (2147483647 : Int32)), qi (x194 &&& (2147483647 : Int32)), qi (x195 &&& (2147483647 : Int32)), qu, qu, qu, qu, qu, qu]) (S' := [.ref 1]) (H' := (qa scr :: bk0 zaw zbm zba zax zbt zbu zbv zbn zbo zbp zbb zbc zbd zbe zan zao zal zam zap zaq zar zas zat zau zbl zav zay zaz zbq zbr zbs zbf zbg zbh zbi zbj zbk [])) rfl ?_
                        obtain ⟨⟨r213, s214, s215⟩, hq245, h⟩ := bnd h
                        refine OEndsQ.call0 hm_0 rfl rfl (by decide) rfl (as := [.ref 1]) (rest := []) rfl rfl (ok_loadInFromOut hq245) ?_
                        refine OEndsQ.adv hm_0 3 (pc' := 617) (L' := [qr 0, qr 1, qi v2, qi v3, qi v4, qi v5, qi v6, qi v7, qi ((x192 &&& (2147483647 : Int32)) % (10 : Int32)), qi (x193 &&& (2147483647 : Int32)), qi (x194 &&& (2147483647 : Int32)), qi (x195 &&& (2147483647 : Int32)), qi r213, qu, qu, qu, qu, qu]) (S' := [.int v4, .int r213]) (H' := (qa scr :: bk0 zaw zbm s214 zax zbt zbu zbv zbn zbo zbp zbb zbc zbd zbe zan zao zal zam zap zaq zar zas zat zau zbl s215 zay zaz zbq zbr zbs zbf zbg zbh zbi zbj zbk [])) rfl ?_
                        by_cases hc246 : r213 = v4
                        · simp only [if_pos hc246] at h
                          refine OEndsQ.icmpT hm_0 rfl (q := 622) rfl ((teq hc246).1) ?_
                          refine OEndsQ.adv hm_0 3 (pc' := 702) (L' := [qr 0, qr 1, qi v2, qi v4, qi v4, qi v5, qi v6, qi v7, qi ((x192 &&& (2147483647 : Int32)) % (10 : Int32)), qi (x193 &&& (2147483647 : Int32)), qi (x194 &&& (2147483647 : Int32)), qi (x195 &&& (2147483647 : Int32)), qi r213, qu, qu, qu, qu, qu]) (S' := []) (H' := (qa scr :: bk0 zaw zbm s214 zax zbt zbu zbv zbn zbo zbp zbb zbc zbd zbe zan zao zal zam zap zaq zar zas zat zau zbl s215 zay zaz zbq zbr zbs zbf zbg zbh zbi zbj zbk [])) rfl ?_
                          exact ok_L_law_702 ih h
                        · simp only [if_neg hc246] at h
                          refine OEndsQ.icmpF hm_0 rfl ((feq hc246).1) ?_
                          refine OEndsQ.adv hm_0 1 (pc' := 621) (L' := [qr 0, qr 1, qi v2, qi v3, qi v4, qi v5, qi v6, qi v7, qi ((x192 &&& (2147483647 : Int32)) % (10 : Int32)), qi (x193 &&& (2147483647 : Int32)), qi (x194 &&& (2147483647 : Int32)), qi (x195 &&& (2147483647 : Int32)), qi r213, qu, qu, qu, qu, qu]) (S' := [.int 0]) (H' := (qa scr :: bk0 zaw zbm s214 zax zbt zbu zbv zbn zbo zbp zbb zbc zbd zbe zan zao zal zam zap zaq zar zas zat zau zbl s215 zay zaz zbq zbr zbs zbf zbg zbh zbi zbj zbk [])) rfl ?_
                          cases h
                          exact OEndsQ.iret hm_0 rfl rfl
                      · simp only [if_neg hc244] at h
                        refine OEndsQ.icmpT hm_0 rfl (q := 628) rfl ((feq hc244).2) ?_
                        refine OEndsQ.adv hm_0 1 (pc' := 629) (L' := [qr 0, qr 1, qi v2, qi v3, qi v4, qi v5, qi v6, qi v7, qi ((x192 &&& (2147483647 : Int32)) % (10 : Int32)), qi (x193 &&& (2147483647 : Int32)), qi (x194 &&& (2147483647 : Int32)), qi (x195 &&& (2147483647 : Int32)), qu, qu, qu, qu, qu, qu]) (S' := [.ref 1]) (H' := (qa scr :: bk0 zaw zbm zba zax zbt zbu zbv zbn zbo zbp zbb zbc zbd zbe zan zao zal zam zap zaq zar zas zat zau zbl zav zay zaz zbq zbr zbs zbf zbg zbh zbi zbj zbk [])) rfl ?_
                        obtain ⟨⟨r196, s197, s198, s199, s200, s201, s202, s203, s204, s205, s206, s207, s208, s209, s210, s211, s212⟩, hq247, h⟩ := bnd h
                        refine OEndsQ.call0 hm_0 rfl rfl (by decide) rfl (as := [.ref 1]) (rest := []) rfl rfl (ok_decode hq247) ?_
                        refine OEndsQ.adv hm_0 4 (pc' := 640) (L' := [qr 0, qr 1, qi v2, qi v3, qi v4, qi r196, qi v6, qi v7, qi ((x192 &&& (2147483647 : Int32)) % (10 : Int32)), qi (x193 &&& (2147483647 : Int32)), qi (x194 &&& (2147483647 : Int32)), qi (x195 &&& (2147483647 : Int32)), qi r196, qu, qu, qu, qu, qu]) (S' := [.int r196]) (H' := (qa scr :: bk0 zaw zbm zba s197 s198 s199 s200 zbn zbo zbp s201 s202 s203 s204 zan zao zal zam zap zaq zar zas zat zau zbl zav s205 s206 zbq zbr zbs s207 s208 s209 s210 s211 s212 [])) rfl ?_
                        by_cases hc248 : (0 : Int32) < r196
                        · simp only [if_pos hc248] at h
                          refine OEndsQ.ifT hm_0 rfl (q := 650) rfl ((tlt hc248).2.2.1) ?_
                          refine OEndsQ.adv hm_0 1 (pc' := 651) (L' := [qr 0, qr 1, qi v2, qi v3, qi v4, qi r196, qi v6, qi v7, qi ((x192 &&& (2147483647 : Int32)) % (10 : Int32)), qi (x193 &&& (2147483647 : Int32)), qi (x194 &&& (2147483647 : Int32)), qi (x195 &&& (2147483647 : Int32)), qi r196, qu, qu, qu, qu, qu]) (S' := [.int 0]) (H' := (qa scr :: bk0 zaw zbm zba s197 s198 s199 s200 zbn zbo zbp s201 s202 s203 s204 zan zao zal zam zap zaq zar zas zat zau zbl zav s205 s206 zbq zbr zbs s207 s208 s209 s210 s211 s212 [])) rfl ?_
                          cases h
                          exact OEndsQ.iret hm_0 rfl rfl
                        · simp only [if_neg hc248] at h
                          refine OEndsQ.ifF hm_0 rfl ((flt hc248).2.2.1) ?_
                          refine OEndsQ.adv hm_0 2 (pc' := 647) (L' := [qr 0, qr 1, qi v2, qi v3, qi v4, qi r196, qi v6, qi v7, qi ((x192 &&& (2147483647 : Int32)) % (10 : Int32)), qi (x193 &&& (2147483647 : Int32)), qi (x194 &&& (2147483647 : Int32)), qi (x195 &&& (2147483647 : Int32)), qi r196, qu, qu, qu, qu, qu]) (S' := [.int (-8), .int r196]) (H' := (qa scr :: bk0 zaw zbm zba s197 s198 s199 s200 zbn zbo zbp s201 s202 s203 s204 zan zao zal zam zap zaq zar zas zat zau zbl zav s205 s206 zbq zbr zbs s207 s208 s209 s210 s211 s212 [])) rfl ?_
                          by_cases hc249 : r196 < (-8 : Int32)
                          · simp only [if_pos hc249] at h
                            refine OEndsQ.icmpF hm_0 rfl ((tlt hc249).2.1) ?_
                            refine OEndsQ.adv hm_0 1 (pc' := 651) (L' := [qr 0, qr 1, qi v2, qi v3, qi v4, qi r196, qi v6, qi v7, qi ((x192 &&& (2147483647 : Int32)) % (10 : Int32)), qi (x193 &&& (2147483647 : Int32)), qi (x194 &&& (2147483647 : Int32)), qi (x195 &&& (2147483647 : Int32)), qi r196, qu, qu, qu, qu, qu]) (S' := [.int 0]) (H' := (qa scr :: bk0 zaw zbm zba s197 s198 s199 s200 zbn zbo zbp s201 s202 s203 s204 zan zao zal zam zap zaq zar zas zat zau zbl zav s205 s206 zbq zbr zbs s207 s208 s209 s210 s211 s212 [])) rfl ?_
                            cases h
                            exact OEndsQ.iret hm_0 rfl rfl
                          · simp only [if_neg hc249] at h
                            refine OEndsQ.icmpT hm_0 rfl (q := 652) rfl ((flt hc249).2.1) ?_
                            refine OEndsQ.adv hm_0 1 (pc' := 653) (L' := [qr 0, qr 1, qi v2, qi v3, qi v4, qi r196, qi v6, qi v7, qi ((x192 &&& (2147483647 : Int32)) % (10 : Int32)), qi (x193 &&& (2147483647 : Int32)), qi (x194 &&& (2147483647 : Int32)), qi (x195 &&& (2147483647 : Int32)), qi r196, qu, qu, qu, qu, qu]) (S' := [.int v3]) (H' := (qa scr :: bk0 zaw zbm zba s197 s198 s199 s200 zbn zbo zbp s201 s202 s203 s204 zan zao zal zam zap zaq zar zas zat zau zbl zav s205 s206 zbq zbr zbs s207 s208 s209 s210 s211 s212 [])) rfl ?_
                            by_cases hc250 : v3 = (0 : Int32)
                            · simp only [if_pos hc250] at h
                              refine OEndsQ.ifF hm_0 rfl ((teq hc250).2) ?_
                              refine OEndsQ.adv hm_0 2 (pc' := 659) (L' := [qr 0, qr 1, qi v2, qi v3, qi v4, qi r196, qi v6, qi v7, qi ((x192 &&& (2147483647 : Int32)) % (10 : Int32)), qi (x193 &&& (2147483647 : Int32)), qi (x194 &&& (2147483647 : Int32)), qi (x195 &&& (2147483647 : Int32)), qi r196, qu, qu, qu, qu, qu]) (S' := [.int (-1), .int r196]) (H' := (qa scr :: bk0 zaw zbm zba s197 s198 s199 s200 zbn zbo zbp s201 s202 s203 s204 zan zao zal zam zap zaq zar zas zat zau zbl zav s205 s206 zbq zbr zbs s207 s208 s209 s210 s211 s212 [])) rfl ?_
                              by_cases hc251 : r196 = (-1 : Int32)
                              · simp only [if_pos hc251] at h
                                refine OEndsQ.icmpT hm_0 rfl (q := 664) rfl ((teq hc251).1) ?_
                                show OEndsQ own_P 0 664 [qr 0, qr 1, qi v2, qi v3, qi v4, qi r196, qi v6, qi v7, qi ((x192 &&& (2147483647 : Int32)) % (10 : Int32)), qi (x193 &&& (2147483647 : Int32)), qi (x194 &&& (2147483647 : Int32)), qi (x195 &&& (2147483647 : Int32)), qi r196, qu, qu, qu, qu, qu] [] (qa scr :: bk0 zaw zbm zba s197 s198 s199 s200 zbn zbo zbp s201 s202 s203 s204 zan zao zal zam zap zaq zar zas zat zau zbl zav s205 s206 zbq zbr zbs s207 s208 s209 s210 s211 s212 []) _
                                exact ok_L_law_664 ih h
                              · simp only [if_neg hc251] at h
                                refine OEndsQ.icmpF hm_0 rfl ((feq hc251).1) ?_
                                refine OEndsQ.adv hm_0 1 (pc' := 663) (L' := [qr 0, qr 1, qi v2, qi v3, qi v4, qi r196, qi v6, qi v7, qi ((x192 &&& (2147483647 : Int32)) % (10 : Int32)), qi (x193 &&& (2147483647 : Int32)), qi (x194 &&& (2147483647 : Int32)), qi (x195 &&& (2147483647 : Int32)), qi r196, qu, qu, qu, qu, qu]) (S' := [.int 0]) (H' := (qa scr :: bk0 zaw zbm zba s197 s198 s199 s200 zbn zbo zbp s201 s202 s203 s204 zan zao zal zam zap zaq zar zas zat zau zbl zav s205 s206 zbq zbr zbs s207 s208 s209 s210 s211 s212 [])) rfl ?_
                                cases h
                                exact OEndsQ.iret hm_0 rfl rfl
                            · simp only [if_neg hc250] at h
                              refine OEndsQ.ifT hm_0 rfl (q := 664) rfl ((feq hc250).2) ?_
                              show OEndsQ own_P 0 664 [qr 0, qr 1, qi v2, qi v3, qi v4, qi r196, qi v6, qi v7, qi ((x192 &&& (2147483647 : Int32)) % (10 : Int32)), qi (x193 &&& (2147483647 : Int32)), qi (x194 &&& (2147483647 : Int32)), qi (x195 &&& (2147483647 : Int32)), qi r196, qu, qu, qu, qu, qu] [] (qa scr :: bk0 zaw zbm zba s197 s198 s199 s200 zbn zbo zbp s201 s202 s203 s204 zan zao zal zam zap zaq zar zas zat zau zbl zav s205 s206 zbq zbr zbs s207 s208 s209 s210 s211 s212 []) _
                              exact ok_L_law_664 ih h
    · simp only [if_neg hc210] at h
      refine OEndsQ.icmpT hm_0 rfl (q := 806) rfl ((flt hc210).2.1) ?_
      refine OEndsQ.adv hm_0 1 (pc' := 807) (L' := [qr 0, qr 1, qi v2, qi v3, qi v4, qi v5, qi v6, qi v7, qu, qu, qu, qu, qu, qu, qu, qu, qu, qu]) (S' := [.int 1]) (H' := (qa scr :: bk0 zaw zbm zba zax zbt zbu zbv zbn zbo zbp zbb zbc zbd zbe zan zao zal zam zap zaq zar zas zat zau zbl zav zay zaz zbq zbr zbs zbf zbg zbh zbi zbj zbk [])) rfl ?_
      cases h
      exact OEndsQ.iret hm_0 rfl rfl
theorem ok_L_law {scr : List Int32} {res : Int32} (h : f_L_law scr = some res) : OEndsQ own_P 0 0 [qr 0, qu, qu, qu, qu, qu, qu, qu, qu, qu, qu, qu, qu, qu, qu, qu, qu, qu] [] (qa scr :: []) (LawQ res 15 5829) := by
  unfold f_L_law at h
  refine OEndsQ.made hm_0 rfl rfl (ks := 37) (c0 := 14) (s0 := 5792) rfl (Nat.le_of_ble_eq_true rfl) (Nat.le_of_ble_eq_true rfl) ?_
  refine OEndsQ.adv hm_0 5 (pc' := 9) (L' := [qr 0, qu, qu, qu, qu, qu, qu, qu, qu, qu, qu, qu, qu, qu, qu, qu, qu, qu]) (S' := [.int 9, .int 4, .int 2, .int 4, .ref 1, .ref 1]) (H' := (qa scr :: (.inl (0, [.null, .null, .null, .null, .null, .null, .null, .null, .null, .null, .null, .null, .null, .null, .int 0, .int 0, .int 0, .int 0, .int 0, .int 0, .int 0, .int 0, .int 0, .int 0, .int 0, .int 0, .int 0, .int 0, .int 0, .int 0, .int 0, .int 0, .int 0, .int 0, .int 0, .int 0, .int 0]) : ACell) :: [])) rfl ?_
  obtain ⟨⟨s155, s156, s157, s158, s159, s160, s161, s162, s163, s164, s165, s166, s167, s168, s169, s170, s171, s172, s173, s174, s175, s176, s177, s178, s179, s180, s181, s182, s183, s184, s185, s186, s187, s188, s189, s190, s191⟩, hq252, h⟩ := bnd h
  refine OEndsQ.callN hm_0 rfl rfl (by decide) rfl (as := [.ref 1, .int 4, .int 2, .int 4, .int 9]) (rest := [.ref 1]) rfl rfl (c0 := 0) (s0 := 0) (ok_init hq252) (Nat.le_of_ble_eq_true rfl) (Nat.le_of_ble_eq_true rfl) ?_
  refine OEndsQ.adv hm_0 16 (pc' := 32) (L' := [qr 0, qr 1, qi 0, qi 0, qi 0, qi 1, qi (scr.length.toInt32 / (4 : Int32)), qi 0, qu, qu, qu, qu, qu, qu, qu, qu, qu, qu]) (S' := []) (H' := (qa scr :: bk0 s155 s156 s157 s158 s159 s160 s161 s162 s163 s164 s165 s166 s167 s168 s169 s170 s171 s172 s173 s174 s175 s176 s177 s178 s179 s180 s181 s182 s183 s184 s185 s186 s187 s188 s189 s190 s191 [])) rfl ?_
  exact ok_L_law_32 100000 h
theorem own_iL {α : Type} {Q : α → Prop} {a b : Int32} {x y : Option α} (h1 : a.toInt < b.toInt → Tot x Q) (h2 : b.toInt ≤ a.toInt → Tot y Q) : Tot (if a < b then x else y) Q :=
  Tot.ite (fun c => h1 (ilt.mp c)) (fun c => h2 (by rw [ilt] at c; omega))
theorem own_iE {α : Type} {Q : α → Prop} {a b : Int32} {x y : Option α} (h1 : a = b → Tot x Q) (h2 : ¬ a = b → Tot y Q) : Tot (if a = b then x else y) Q :=
  Tot.ite h1 h2
theorem own_bs {α β : Type} {a : α} {f : α → Option β} {Q : β → Prop} (h : Tot (f a) Q) : Tot ((some a).bind f) Q := h
theorem own_p1 {a : Int32} (h : a.toInt < 2147483647) : (a + 1).toInt = a.toInt + 1 := by
  have := Int32.le_toInt a
  ((try simp only [ilt, ile, ieq, iadd_e, isub_e, imul_e, Int32.reduceToInt] at *) <;> omega)
theorem own_m1 {a : Int32} (h : -2147483648 < a.toInt) : (a - 1).toInt = a.toInt - 1 := by
  have := Int32.toInt_lt a
  ((try simp only [ilt, ile, ieq, iadd_e, isub_e, imul_e, Int32.reduceToInt] at *) <;> omega)
def own_R (m : Int) (L : List Int32) : Prop := ∀ x ∈ L, 0 ≤ x.toInt ∧ x.toInt < m
theorem own_Rg {m : Int} {L : List Int32} (h : own_R m L) {j : Int32} (h0 : 0 ≤ j.toInt) (h1 : j.toInt < L.length) : 0 ≤ (gI L j).toInt ∧ (gI L j).toInt < m := by
  have h2 : j.toInt.toNat < L.length := by omega
  unfold gI
  rw [rdA_in h0 h2]
  exact h _ (List.getElem_mem h2)
theorem own_Rs {m : Int} {L : List Int32} (h : own_R m L) {j : Nat} {x : Int32} (x0 : 0 ≤ x.toInt) (x1 : x.toInt < m) : own_R m (L.set j x) := by
  intro y hy
  rcases List.mem_or_eq_of_mem_set hy with h' | h'
  · exact h y h'
  · rw [h']; exact ⟨x0, x1⟩
theorem own_rdR {β : Type} {m : Int} {L : List Int32} {j : Int32} {f : Int32 → Option β} {Q : β → Prop} (hR : own_R m L) (h0 : 0 ≤ j.toInt) (h1 : j.toInt < L.length) (g : ∀ a : Int32, 0 ≤ a.toInt → a.toInt < m → Tot (f a) Q) : Tot ((rdA L j).bind f) Q := by
  rw [rdg h0 h1]
  exact g _ (own_Rg hR h0 h1).1 (own_Rg hR h0 h1).2
theorem own_wrR {β : Type} {m : Int} {L : List Int32} {j x : Int32} {f : List Int32 → Option β} {Q : β → Prop} (hR : own_R m L) (h0 : 0 ≤ j.toInt) (h1 : j.toInt < L.length) (x0 : 0 ≤ x.toInt) (x1 : x.toInt < m) (g : ∀ L' : List Int32, own_R m L' → L'.length = L.length → Tot (f L') Q) : Tot ((wrA L j x).bind f) Q :=
  Tot.wr h0 h1 (fun L' e l => g L' (by rw [e]; exact own_Rs hR x0 x1) l)
theorem own_Rrep {m : Int} (n : Nat) (h : 0 < m) : own_R m (List.replicate n 0) := by
  intro x hx
  rw [List.eq_of_mem_replicate hx]
  exact ⟨by decide, h⟩
abbrev own_K (W H T P M C X K : Int32) : Prop := (1 ≤ W.toInt) ∧ (H.toInt ≤ 16) ∧ (1 ≤ T.toInt) ∧ (T.toInt ≤ 16) ∧ (1 ≤ P.toInt) ∧ (P.toInt ≤ C.toInt) ∧ (4 ≤ C.toInt) ∧ (C.toInt ≤ 8) ∧ (2 ≤ M.toInt) ∧ (M.toInt ≤ 3) ∧ (M.toInt + 1 ≤ X.toInt) ∧ (X.toInt ≤ 9) ∧ (K.toInt = 16 ∨ (K.toInt = 512 ∧ T.toInt ≤ 8 ∧ C.toInt ≤ 4))
theorem own_K.w {W H T P M C X K : Int32} (self : own_K W H T P M C X K) : 1 ≤ W.toInt := self.1
theorem own_K.h {W H T P M C X K : Int32} (self : own_K W H T P M C X K) : H.toInt ≤ 16 := self.2.1
theorem own_K.t0 {W H T P M C X K : Int32} (self : own_K W H T P M C X K) : 1 ≤ T.toInt := self.2.2.1
theorem own_K.t1 {W H T P M C X K : Int32} (self : own_K W H T P M C X K) : T.toInt ≤ 16 := self.2.2.2.1
theorem own_K.p0 {W H T P M C X K : Int32} (self : own_K W H T P M C X K) : 1 ≤ P.toInt := self.2.2.2.2.1
theorem own_K.p1 {W H T P M C X K : Int32} (self : own_K W H T P M C X K) : P.toInt ≤ C.toInt := self.2.2.2.2.2.1
theorem own_K.c0 {W H T P M C X K : Int32} (self : own_K W H T P M C X K) : 4 ≤ C.toInt := self.2.2.2.2.2.2.1
theorem own_K.c1 {W H T P M C X K : Int32} (self : own_K W H T P M C X K) : C.toInt ≤ 8 := self.2.2.2.2.2.2.2.1
theorem own_K.m0 {W H T P M C X K : Int32} (self : own_K W H T P M C X K) : 2 ≤ M.toInt := self.2.2.2.2.2.2.2.2.1
theorem own_K.m1 {W H T P M C X K : Int32} (self : own_K W H T P M C X K) : M.toInt ≤ 3 := self.2.2.2.2.2.2.2.2.2.1
theorem own_K.x0 {W H T P M C X K : Int32} (self : own_K W H T P M C X K) : M.toInt + 1 ≤ X.toInt := self.2.2.2.2.2.2.2.2.2.2.1
theorem own_K.x1 {W H T P M C X K : Int32} (self : own_K W H T P M C X K) : X.toInt ≤ 9 := self.2.2.2.2.2.2.2.2.2.2.2.1
theorem own_K.k {W H T P M C X K : Int32} (self : own_K W H T P M C X K) : K.toInt = 16 ∨ (K.toInt = 512 ∧ T.toInt ≤ 8 ∧ C.toInt ≤ 4) := self.2.2.2.2.2.2.2.2.2.2.2.2
theorem own_ar6 {H : Int32} (hH : H.toInt ≤ 16) : ∀ (n : Nat) (RO : List Int32) (v3 v4 v5 : Int32), RO.length = 16 → 1 ≤ v3.toInt → v3.toInt ≤ 8 → 0 ≤ v5.toInt → v5.toInt ≤ 32 → 33 - v5.toInt ≤ n → Tot (f_addRows_6 H n RO v3 v4 v5) (fun p => p.2.length = 16) := by
  intro n
  have e0 : (0 : Int32).toInt = 0 := rfl
  have e16 : (16 : Int32).toInt = 16 := rfl
  induction n with
  | zero => intro RO v3 v4 v5 l a b c d e; omega
  | succ n ih =>
    intro RO v3 v4 v5 l a b c d e
    unfold f_addRows_6 f_addRows_36
    by_cases hv : v5 < H
    · rw [if_pos hv]
      rw [ilt] at hv
      have q : (v5 + v3).toInt = v5.toInt + v3.toInt := iadd_i (by omega) (by omega)
      (repeat' (first | with_reducible refine own_iL (fun _ => ?_) (fun _ => ?_) | with_reducible refine own_iE (fun _ => ?_) (fun _ => ?_) | with_reducible refine own_rdR (by assumption) (by omega) (by omega) (fun _ _ _ => ?_) | with_reducible refine Tot.rd (by omega) (by omega) (fun _ _ => ?_) | with_reducible refine own_wrR (by assumption) (by omega) (by omega) (by omega) (by omega) (fun _ _ _ => ?_) | with_reducible refine Tot.wr (by omega) (by omega) (fun _ _ _ => ?_) | with_reducible refine own_bs ?_))
      all_goals exact ih _ _ _ _ (by omega) a b (by omega) (by omega) (by omega)
    · rw [if_neg hv]
      exact Tot.mk l
theorem own_bro9 {H I : Int32} (hH : H.toInt ≤ 16) : ∀ (n : Nat) (RO : List Int32) (v1 : Int32), RO.length = 16 → 0 ≤ v1.toInt → v1.toInt ≤ 16 → 17 - v1.toInt ≤ n → Tot (f_buildRowOrder_9 H I n RO v1) (fun p => p.length = 16) := by
  intro n
  have e16 : (16 : Int32).toInt = 16 := rfl
  induction n with
  | zero => intro RO v1 l a b c; omega
  | succ n ih =>
    intro RO v1 l a b c
    have p := own_p1 (a := v1) (by omega)
    unfold f_buildRowOrder_9
    (repeat' (first | with_reducible refine own_iL (fun _ => ?_) (fun _ => ?_) | with_reducible refine own_iE (fun _ => ?_) (fun _ => ?_) | with_reducible refine own_rdR (by assumption) (by omega) (by omega) (fun _ _ _ => ?_) | with_reducible refine Tot.rd (by omega) (by omega) (fun _ _ => ?_) | with_reducible refine own_wrR (by assumption) (by omega) (by omega) (by omega) (by omega) (fun _ _ _ => ?_) | with_reducible refine Tot.wr (by omega) (by omega) (fun _ _ _ => ?_) | with_reducible refine own_bs ?_))
    all_goals first | exact Tot.mk l | exact ih _ _ (by omega) (by omega) (by omega) (by omega)
theorem own_bro {H I : Int32} (hH : H.toInt ≤ 16) {RO : List Int32} (l : RO.length = 16) : Tot (f_buildRowOrder H I RO) (fun p => p.length = 16) := by
  unfold f_buildRowOrder f_addRows
  refine own_iE (fun _ => own_bro9 hH 100000 RO 0 l (by decide) (by decide) (by decide)) (fun _ => ?_)
  refine Tot.bind (own_ar6 hH 100000 RO 8 0 0 l (by decide) (by decide) (by decide) (by decide) (by decide)) ?_
  rintro ⟨r, s⟩ hs
  refine Tot.bind (own_ar6 hH 100000 s 8 r 4 hs (by decide) (by decide) (by decide) (by decide) (by decide)) ?_
  rintro ⟨r, s⟩ hs
  refine Tot.bind (own_ar6 hH 100000 s 4 r 2 hs (by decide) (by decide) (by decide) (by decide) (by decide)) ?_
  rintro ⟨r, s⟩ hs
  refine Tot.bind (own_ar6 hH 100000 s 2 r 1 hs (by decide) (by decide) (by decide) (by decide) (by decide)) ?_
  rintro ⟨r, s⟩ hs
  exact Tot.mk hs
theorem own_ras {RO : List Int32} {W : Int32} (l : RO.length = 16) (hW : 1 ≤ W.toInt) (v : Int32) : Tot (f_rasterOf RO W v) (fun _ => True) := by
  have e0 : (0 : Int32).toInt = 0 := rfl
  have e16 : (16 : Int32).toInt = 16 := rfl
  have hz : ¬ W = 0 := by rw [ieq]; omega
  unfold f_rasterOf
  rw [if_neg hz, if_neg hz]
  (repeat' (first | with_reducible refine own_iL (fun _ => ?_) (fun _ => ?_) | with_reducible refine own_iE (fun _ => ?_) (fun _ => ?_) | with_reducible refine own_rdR (by assumption) (by omega) (by omega) (fun _ _ _ => ?_) | with_reducible refine Tot.rd (by omega) (by omega) (fun _ _ => ?_) | with_reducible refine own_wrR (by assumption) (by omega) (by omega) (by omega) (by omega) (fun _ _ _ => ?_) | with_reducible refine Tot.wr (by omega) (by omega) (fun _ _ _ => ?_) | with_reducible refine own_bs ?_))
  all_goals exact Tot.mk trivial
theorem own_ret2 : ∀ (n : Nat) (FC : List Int32) (v1 v2 : Int32), FC.length = 512 → 0 ≤ v2.toInt → v2.toInt ≤ 512 → 513 - v2.toInt ≤ n → Tot (f_resetEncoderTable_2 n FC v1 v2) (fun p => p.length = 512) := by
  intro n
  have e : (512 : Int32).toInt = 512 := rfl
  induction n with
  | zero => intro FC v1 v2 l a b c; omega
  | succ n ih =>
    intro FC v1 v2 l a b c
    have p := own_p1 (a := v2) (by omega)
    unfold f_resetEncoderTable_2
    (repeat' (first | with_reducible refine own_iL (fun _ => ?_) (fun _ => ?_) | with_reducible refine own_iE (fun _ => ?_) (fun _ => ?_) | with_reducible refine own_rdR (by assumption) (by omega) (by omega) (fun _ _ _ => ?_) | with_reducible refine Tot.rd (by omega) (by omega) (fun _ _ => ?_) | with_reducible refine own_wrR (by assumption) (by omega) (by omega) (by omega) (by omega) (fun _ _ _ => ?_) | with_reducible refine Tot.wr (by omega) (by omega) (fun _ _ _ => ?_) | with_reducible refine own_bs ?_))
    all_goals first | exact Tot.mk l | exact ih _ _ _ (by omega) (by omega) (by omega) (by omega)
theorem own_ret {FC : List Int32} (l : FC.length = 512) (v : Int32) : Tot (f_resetEncoderTable FC v) (fun p => p.length = 512) :=
  own_ret2 100000 FC v 0 l (by decide) (by decide) (by decide)
theorem own_pc2 {EW : Int32} (hE : EW.toInt ≤ 9) : ∀ (n : Nat) (D : List Int32) (bp v1 v2 : Int32), D.length = 512 → 0 ≤ v2.toInt → v2.toInt ≤ EW.toInt → EW.toInt - v2.toInt < n → 0 ≤ bp.toInt → bp.toInt + (EW.toInt - v2.toInt) ≤ 100000 → Tot (f_putCode_2 EW n D bp v1 v2) (fun p => p.1.length = 512 ∧ p.2.toInt = bp.toInt + (EW.toInt - v2.toInt)) := by
  intro n
  have e0 : (0 : Int32).toInt = 0 := rfl
  have e : (512 : Int32).toInt = 512 := rfl
  induction n with
  | zero => intro D bp v1 v2 l a b c; omega
  | succ n ih =>
    intro D bp v1 v2 l a b c d f
    have p := own_p1 (a := v2) (by omega)
    unfold f_putCode_2 f_putCode_49 f_putCode_74
    refine own_iL (fun c1 => ?_) (fun c1 => Tot.mk ⟨l, by dsimp only; omega⟩)
    have q := own_p1 (a := bp) (by omega)
    (repeat' (first | with_reducible refine own_iL (fun _ => ?_) (fun _ => ?_) | with_reducible refine own_iE (fun _ => ?_) (fun _ => ?_) | with_reducible refine own_rdR (by assumption) (by omega) (by omega) (fun _ _ _ => ?_) | with_reducible refine Tot.rd (by omega) (by omega) (fun _ _ => ?_) | with_reducible refine own_wrR (by assumption) (by omega) (by omega) (by omega) (by omega) (fun _ _ _ => ?_) | with_reducible refine Tot.wr (by omega) (by omega) (fun _ _ _ => ?_) | with_reducible refine own_bs ?_))
    all_goals exact Tot.mono (ih _ _ _ _ (by omega) (by omega) (by omega) (by omega) (by omega) (by omega)) (fun p hp => ⟨hp.1, by have := hp.2; omega⟩)
theorem own_pc {EW : Int32} (h0 : 0 ≤ EW.toInt) (hE : EW.toInt ≤ 9) {D : List Int32} (l : D.length = 512) {bp : Int32} (v : Int32) (b0 : 0 ≤ bp.toInt) (b1 : bp.toInt ≤ 10000) : Tot (f_putCode EW D bp v) (fun p => p.1.length = 512 ∧ p.2.toInt = bp.toInt + EW.toInt) := by
  have e0 : (0 : Int32).toInt = 0 := rfl
  exact Tot.mono (own_pc2 hE 100000 D bp v 0 l (by omega) (by omega) (by omega) b0 (by omega)) (fun p hp => ⟨hp.1, by have := hp.2; omega⟩)
theorem own_fc {FC NS CP : List Int32} (l1 : FC.length = 512) (l2 : NS.length = 512) (l3 : CP.length = 512) (v1 v2 : Int32) : Tot (f_findChild FC NS CP v1 v2) (fun _ => True) := by
  have e0 : (0 : Int32).toInt = 0 := rfl
  have e : (512 : Int32).toInt = 512 := rfl
  have key : ∀ (n : Nat) (v3 v4 : Int32), 0 ≤ v4.toInt → v4.toInt ≤ 512 → 513 - v4.toInt ≤ n → Tot (f_findChild_23 FC NS CP n v2 v3 v4) (fun _ => True) := by
    intro n
    induction n with
    | zero => intro v3 v4 a b c; omega
    | succ n ih =>
      intro v3 v4 a b c
      have p := own_p1 (a := v4) (by omega)
      unfold f_findChild_23
      (repeat' (first | with_reducible refine own_iL (fun _ => ?_) (fun _ => ?_) | with_reducible refine own_iE (fun _ => ?_) (fun _ => ?_) | with_reducible refine own_rdR (by assumption) (by omega) (by omega) (fun _ _ _ => ?_) | with_reducible refine Tot.rd (by omega) (by omega) (fun _ _ => ?_) | with_reducible refine own_wrR (by assumption) (by omega) (by omega) (by omega) (by omega) (fun _ _ _ => ?_) | with_reducible refine Tot.wr (by omega) (by omega) (fun _ _ _ => ?_) | with_reducible refine own_bs ?_))
      all_goals first | exact Tot.mk trivial | exact ih _ _ (by omega) (by omega) (by omega)
  unfold f_findChild
  (repeat' (first | with_reducible refine own_iL (fun _ => ?_) (fun _ => ?_) | with_reducible refine own_iE (fun _ => ?_) (fun _ => ?_) | with_reducible refine own_rdR (by assumption) (by omega) (by omega) (fun _ _ _ => ?_) | with_reducible refine Tot.rd (by omega) (by omega) (fun _ _ => ?_) | with_reducible refine own_wrR (by assumption) (by omega) (by omega) (by omega) (by omega) (fun _ _ _ => ?_) | with_reducible refine Tot.wr (by omega) (by omega) (fun _ _ _ => ?_) | with_reducible refine own_bs ?_))
  · exact Tot.mk trivial
  · exact key 100000 _ 0 (by omega) (by omega) (by omega)
  · exact Tot.mk trivial
theorem own_aec60 {W H T P M C X K : Int32} (k : own_K W H T P M C X K) {D FC NS CP : List Int32} {bp EW EN : Int32} (lD : D.length = 512) (lF : FC.length = 512) (lN : NS.length = 512) (lC : CP.length = 512) (b0 : 0 ≤ bp.toInt) (b1 : bp.toInt ≤ 9000) (w0 : 3 ≤ EW.toInt) (w1 : EW.toInt ≤ 4) (n0 : 0 ≤ EN.toInt) (n1 : EN.toInt ≤ 15) :
    Tot (f_addEncoderCode_60 M C X K D FC NS CP bp EW EN EN) (fun (D, FC, NS, CP, bp', EW', EN') => D.length = 512 ∧ FC.length = 512 ∧ NS.length = 512 ∧ CP.length = 512 ∧ 3 ≤ EW'.toInt ∧ EW'.toInt ≤ 4 ∧ bp.toInt ≤ bp'.toInt ∧ bp'.toInt ≤ bp.toInt + 4 ∧ ((EN'.toInt = EN.toInt + 1 ∧ ¬ EN.toInt + 1 = K.toInt ∧ bp'.toInt = bp.toInt) ∨ (EN.toInt + 1 = K.toInt ∧ EN'.toInt = C.toInt + 2))) := by
  obtain ⟨kw, kh, t0, t1, p0, p1, c0, c1, m0, m1, x0, x1, kk⟩ := k
  have p := own_p1 (a := EN) (by omega)
  have q := own_p1 (a := M) (by omega)
  have qc : (C + 2).toInt = C.toInt + 2 := by ((try simp only [ilt, ile, ieq, iadd_e, isub_e, imul_e, Int32.reduceToInt] at *) <;> omega)
  have hw : ∃ EW' : Int32, (if ((1 : Int32) <<< (EW &&& 31)) < (EN + (1 : Int32)) then (if EW < X then (EW + (1 : Int32)) else EW) else EW) = EW' ∧ 3 ≤ EW'.toInt ∧ EW'.toInt ≤ 4 := by
    refine ⟨_, rfl, ?_⟩
    have h34 : EW = 3 ∨ EW = 4 := by
      have e3 : (3 : Int32).toInt = 3 := rfl
      have e4 : (4 : Int32).toInt = 4 := rfl
      rw [ieq, ieq]
      omega
    rcases h34 with h | h
    · subst h
      split
      · split
        · decide
        · decide
      · decide
    · subst h
      have e16 : ((1 : Int32) <<< ((4 : Int32) &&& 31)).toInt = 16 := rfl
      rw [if_neg (by rw [ilt]; omega)]
      decide
  obtain ⟨EW', ew, w0', w1'⟩ := hw
  unfold f_addEncoderCode_60 f_addEncoderCode_101
  rw [ew]
  refine own_iE (fun c => ?_) (fun c => ?_)
  · refine Tot.bind (own_pc (by omega) (by omega) lD C b0 (by omega)) ?_
    rintro ⟨s31, s32⟩ ⟨h1, h2⟩
    refine Tot.bind (own_ret lF _) ?_
    intro s33 h3
    have h2' : s32.toInt = bp.toInt + EW'.toInt := h2
    refine Tot.mk ⟨h1, h3, lN, lC, by omega, by omega, by omega, by omega, Or.inr ⟨?_, qc⟩⟩
    rw [ieq] at c
    omega
  · refine Tot.mk ⟨lD, lF, lN, lC, w0', w1', by omega, by omega, Or.inl ⟨p, ?_, rfl⟩⟩
    rw [ieq] at c
    omega
theorem own_aec {W H T P M C X K : Int32} (k : own_K W H T P M C X K) {D FC NS CP : List Int32} {bp EW EN : Int32} (lD : D.length = 512) (lF : FC.length = 512) (lN : NS.length = 512) (lC : CP.length = 512) (b0 : 0 ≤ bp.toInt) (b1 : bp.toInt ≤ 9000) (w0 : 3 ≤ EW.toInt) (w1 : EW.toInt ≤ 4) (n0 : 0 ≤ EN.toInt) (n1 : EN.toInt ≤ 15) (v1 v2 : Int32) :
    Tot (f_addEncoderCode M C X K D FC NS CP bp EW EN v1 v2) (fun (D, FC, NS, CP, bp', EW', EN') => D.length = 512 ∧ FC.length = 512 ∧ NS.length = 512 ∧ CP.length = 512 ∧ 3 ≤ EW'.toInt ∧ EW'.toInt ≤ 4 ∧ bp.toInt ≤ bp'.toInt ∧ bp'.toInt ≤ bp.toInt + 4 ∧ ((EN'.toInt = EN.toInt + 1 ∧ ¬ EN.toInt + 1 = K.toInt ∧ bp'.toInt = bp.toInt) ∨ (EN.toInt + 1 = K.toInt ∧ EN'.toInt = C.toInt + 2))) := by
  have e0 : (0 : Int32).toInt = 0 := rfl
  have e : (512 : Int32).toInt = 512 := rfl
  unfold f_addEncoderCode
  (repeat' (first | with_reducible refine own_iL (fun _ => ?_) (fun _ => ?_) | with_reducible refine own_iE (fun _ => ?_) (fun _ => ?_) | with_reducible refine own_rdR (by assumption) (by omega) (by omega) (fun _ _ _ => ?_) | with_reducible refine Tot.rd (by omega) (by omega) (fun _ _ => ?_) | with_reducible refine own_wrR (by assumption) (by omega) (by omega) (by omega) (by omega) (fun _ _ _ => ?_) | with_reducible refine Tot.wr (by omega) (by omega) (fun _ _ _ => ?_) | with_reducible refine own_bs ?_))
  all_goals exact own_aec60 k lD (by omega) (by omega) (by omega) b0 b1 w0 w1 n0 n1
theorem own_cm50 {W H T P M C X K : Int32} (k : own_K W H T P M C X K) {SB : List Int32} (lSB : SB.length = 256) : ∀ (n : Nat) (D FC NS CP : List Int32) (bp EW EN v1 v2 : Int32), D.length = 512 → FC.length = 512 → NS.length = 512 → CP.length = 512 → 3 ≤ EW.toInt → EW.toInt ≤ 4 → 0 ≤ EN.toInt → EN.toInt ≤ 15 → (K.toInt = 16 ∨ EN.toInt ≤ 5 + v2.toInt) → 3 ≤ bp.toInt → bp.toInt ≤ 8 * v2.toInt → (K.toInt = 16 ∨ bp.toInt ≤ 4 * v2.toInt) → 1 ≤ v2.toInt → v2.toInt ≤ T.toInt → T.toInt - v2.toInt < n →
    Tot (f_compress_50 (f_compress_103 SB T M C X K) SB T M C X K n D FC NS CP bp EW EN v1 v2) (fun (D, FC, NS, CP, bp, EW, EN) => D.length = 512 ∧ FC.length = 512 ∧ NS.length = 512 ∧ CP.length = 512 ∧ 9 ≤ bp.toInt ∧ bp.toInt ≤ 140 ∧ (K.toInt = 16 ∨ bp.toInt ≤ 40)) := by
  intro n
  have e0 : (0 : Int32).toInt = 0 := rfl
  have kt1 := k.t1
  have kk := k.k
  have kc := k.c1
  induction n with
  | zero => intro D FC NS CP bp EW EN v1 v2 lD lF lN lC w0 w1 n0 n1 hn b0 b1 b2 a0 a1 a2; omega
  | succ n ih =>
    intro D FC NS CP bp EW EN v1 v2 lD lF lN lC w0 w1 n0 n1 hn b0 b1 b2 a0 a1 a2
    have p := own_p1 (a := v2) (by omega)
    unfold f_compress_50
    refine own_iL (fun c => ?_) (fun c => ?_)
    · refine Tot.rd (by omega) (by omega) fun x38 _ => ?_
      refine Tot.bind (own_fc lF lN lC v1 x38) fun r39 _ => ?_
      refine own_iL (fun c2 => ?_) (fun c2 => ?_)
      · refine Tot.bind (own_pc (by omega) (by omega) lD v1 (by omega) (by omega)) ?_
        rintro ⟨s40, s41⟩ ⟨h1, h2⟩
        have h2' : s41.toInt = bp.toInt + EW.toInt := h2
        refine Tot.bind (own_aec (bp := s41) k h1 lF lN lC (by omega) (by omega) w0 w1 n0 n1 v1 x38) ?_
        rintro ⟨s42, s43, s44, s45, s46, s47, s48⟩ ⟨g1, g2, g3, g4, g5, g6, g7, g8, g9⟩
        have g5' : 3 ≤ s47.toInt := g5
        have g6' : s47.toInt ≤ 4 := g6
        have g7' : s41.toInt ≤ s46.toInt := g7
        have g8' : s46.toInt ≤ s41.toInt + 4 := g8
        have g9' : (s48.toInt = EN.toInt + 1 ∧ ¬ EN.toInt + 1 = K.toInt ∧ s46.toInt = s41.toInt) ∨ (EN.toInt + 1 = K.toInt ∧ s48.toInt = C.toInt + 2) := g9
        clear g5 g6 g7 g8 g9
        have kc0 := k.c0
        exact ih _ _ _ _ _ _ _ _ _ g1 g2 g3 g4 g5' g6' (by omega) (by omega) (by omega) (by omega) (by omega) (by omega) (by omega) (by omega) (by omega)
      · exact ih _ _ _ _ _ _ _ _ _ lD lF lN lC w0 w1 n0 n1 (by omega) (by omega) (by omega) (by omega) (by omega) (by omega) (by omega)
    · unfold f_compress_103
      refine Tot.bind (own_pc (by omega) (by omega) lD v1 (by omega) (by omega)) ?_
      rintro ⟨s49, s50⟩ ⟨h1, h2⟩
      have h2' : s50.toInt = bp.toInt + EW.toInt := h2
      refine Tot.bind (own_pc (bp := s50) (by omega) (by omega) h1 (C + 1) (by omega) (by omega)) ?_
      rintro ⟨s51, s52⟩ ⟨h3, h4⟩
      have h4' : s52.toInt = s50.toInt + EW.toInt := h4
      exact Tot.mk ⟨h3, lF, lN, lC, by omega, by omega, by omega⟩
theorem own_cm {W H T P M C X K : Int32} (k : own_K W H T P M C X K) {SB D FC NS CP : List Int32} (lSB : SB.length = 256) (lD : D.length = 512) (lF : FC.length = 512) (lN : NS.length = 512) (lC : CP.length = 512) (bp EW EN : Int32) :
    Tot (f_compress SB T M C X K D FC NS CP bp EW EN) (fun (D, FC, NS, CP, bp, EW, EN) => D.length = 512 ∧ FC.length = 512 ∧ NS.length = 512 ∧ CP.length = 512 ∧ 9 ≤ bp.toInt ∧ bp.toInt ≤ 140 ∧ (K.toInt = 16 ∨ bp.toInt ≤ 40)) := by
  have e0 : (0 : Int32).toInt = 0 := rfl
  have e1 : (1 : Int32).toInt = 1 := rfl
  have kt0 := k.t0
  have kt1 := k.t1
  have kk := k.k
  have kc := k.c1
  have kc0 := k.c0
  have km0 := k.m0
  have km1 := k.m1
  have q := own_p1 (a := M) (by omega)
  have qc : (C + 2).toInt = C.toInt + 2 := by ((try simp only [ilt, ile, ieq, iadd_e, isub_e, imul_e, Int32.reduceToInt] at *) <;> omega)
  unfold f_compress
  refine Tot.bind (own_ret lF K) ?_
  intro s34 h34
  refine Tot.bind (own_pc (bp := 0) (by omega) (by omega) lD C (by omega) (by omega)) ?_
  rintro ⟨s35, s36⟩ ⟨h1, h2⟩
  have h2' : s36.toInt = (0 : Int32).toInt + (M + 1).toInt := h2
  refine Tot.rd (by omega) (by omega) fun x37 _ => ?_
  exact own_cm50 k lSB 100000 _ _ _ _ _ _ _ _ _ h1 h34 lN lC (by omega) (by omega) (by omega) (by omega) (by omega) (by omega) (by omega) (by omega) (by omega) (by omega) (by omega)
theorem own_of {x : Int32} (h : 0 ≤ x.toInt) : x = Int32.ofNat x.toInt.toNat := by
  have := Int32.toInt_lt x
  rw [ieq, Int32.toInt_ofNat_of_lt (by omega)]
  omega
theorem own_255 {x : Int32} (h0 : 0 ≤ x.toInt) (h1 : x.toInt < 256) : x &&& 255 = x := by
  have key : ∀ k : Nat, k < 256 → Int32.ofNat k &&& 255 = Int32.ofNat k := by decide +kernel
  rw [own_of h0]
  exact key _ (by omega)
theorem own_by {x : Int32} (h0 : 0 ≤ x.toInt) (h1 : x.toInt ≤ 140) : ((x + 7) >>> ((3 : Int32) &&& 31)).toInt = (x.toInt + 7) / 8 := by
  have key : ∀ k : Nat, k < 141 → ((Int32.ofNat k + 7) >>> ((3 : Int32) &&& 31)).toInt = ((k : Int) + 7) / 8 := by decide +kernel
  have e := key x.toInt.toNat (by omega)
  rw [← own_of h0] at e
  rw [e]
  omega
theorem own_wo {OUT : List Int32} {OL : Int32} (l : OUT.length = 400) (h0 : 0 ≤ OL.toInt) (h1 : OL.toInt < 400) (v : Int32) : f_writeOut OUT OL v = some (OUT.set OL.toInt.toNat (v &&& 255), OL + 1) := by
  have e0 : (0 : Int32).toInt = 0 := rfl
  have e : (400 : Int32).toInt = 400 := rfl
  unfold f_writeOut
  rw [if_neg (by rw [ilt]; omega), if_pos (by rw [ilt]; omega), wrA_in h0 (by omega), Option.bind_some]
theorem own_r255 (v : Int32) : 0 ≤ (v &&& 255).toInt ∧ (v &&& 255).toInt < 256 := by
  have := iand_rng v 255 (by decide)
  have e : (255 : Int32).toInt = 255 := rfl
  omega
theorem own_pk79 {D : List Int32} (lD : D.length = 512) (M B bp : Int32) {k38 : List Int32 → Int32 → Int32 → Int32 → Int32 → Option (List Int32 × Int32)} {Q : List Int32 × Int32 → Prop} (l1 m0 v1 v3 v4 e2 eO : Int32)
    (hk : ∀ (OUT : List Int32) (OL v2 : Int32), OUT.length = 400 → own_R 256 OUT → gI OUT 0 = m0 → gI OUT 1 = l1 → OL.toInt = eO.toInt → v2.toInt = e2.toInt → Tot (k38 OUT OL v1 v2 (v3 + 1)) Q) :
    ∀ (n : Nat) (OUT : List Int32) (OL v2 v5 : Int32), OUT.length = 400 → own_R 256 OUT → gI OUT 0 = m0 → gI OUT 1 = l1 → 2 ≤ OL.toInt → OL.toInt + (v4.toInt - v5.toInt) = eO.toInt → eO.toInt ≤ 399 → 0 ≤ v2.toInt → v2.toInt + (v4.toInt - v5.toInt) = e2.toInt → e2.toInt ≤ 512 → 0 ≤ v5.toInt → v5.toInt ≤ v4.toInt → v4.toInt - v5.toInt < n → Tot (f_packBlocks_79 k38 D M B bp n OUT OL v1 v2 v3 v4 v5) Q := by
  intro n
  have e0 : (0 : Int32).toInt = 0 := rfl
  have e1 : (1 : Int32).toInt = 1 := rfl
  induction n with
  | zero => intro OUT OL v2 v5 a1 a2 a3 a4 a5 a6 a7 a8 a9 a10 a11 a12 a13; omega
  | succ n ih =>
    intro OUT OL v2 v5 a1 a2 a3 a4 a5 a6 a7 a8 a9 a10 a11 a12 a13
    have p2 := own_p1 (a := v2) (by omega)
    have pO := own_p1 (a := OL) (by omega)
    unfold f_packBlocks_79
    refine own_iL (fun c => ?_) (fun c => ?_)
    · have p5 := own_p1 (a := v5) (by have := Int32.toInt_lt v4; omega)
      refine Tot.rd (by omega) (by omega) fun x _ => ?_
      rw [own_wo a1 (by omega) (by omega) x]
      refine own_bs ?_
      have r := own_r255 x
      refine ih _ _ _ _ (by rw [List.length_set]; exact a1) (own_Rs a2 r.1 r.2) ?_ ?_ (by omega) (by omega) (by omega) (by omega) (by omega) (by omega) (by omega) (by omega) (by omega)
      · rw [gset (by omega) (by omega) (by omega), if_neg (by rw [ieq]; omega)]; exact a3
      · rw [gset (by omega) (by omega) (by omega), if_neg (by rw [ieq]; omega)]; exact a4
    · exact hk _ _ _ a1 a2 a3 a4 (by omega) (by omega)
theorem own_pk38 {D : List Int32} (lD : D.length = 512) (M B bp : Int32) (l1 m0 v1 : Int32) (hB0 : 4 ≤ B.toInt) (hB1 : B.toInt ≤ 255) (hv0 : 1 ≤ v1.toInt) (hv1 : v1.toInt ≤ 30) (hl1 : l1.toInt = if B.toInt < v1.toInt then B.toInt else v1.toInt) :
    ∀ (n : Nat) (OUT : List Int32) (OL v2 v3 : Int32), OUT.length = 400 → own_R 256 OUT → gI OUT 0 = m0 → (1 ≤ v3.toInt → gI OUT 1 = l1) → OL.toInt = 1 + v2.toInt + v3.toInt → 0 ≤ v2.toInt → v2.toInt ≤ v1.toInt → 0 ≤ v3.toInt → (v3.toInt = 0 → v2.toInt = 0) → (4 * v3.toInt ≤ v2.toInt ∨ (v2.toInt = v1.toInt ∧ 4 * (v3.toInt - 1) < v2.toInt)) → 65 - v3.toInt ≤ n →
      Tot (f_packBlocks_38 (f_packBlocks_111 D M B bp) D M B bp n OUT OL v1 v2 v3) (fun (O, N) => O.length = 400 ∧ own_R 256 O ∧ gI O 0 = m0 ∧ gI O 1 = l1 ∧ v1.toInt + 3 ≤ N.toInt ∧ N.toInt ≤ 400 ∧ gI O (N - 1) = 0 ∧ (v1.toInt ≤ 5 → N.toInt ≤ 9)) := by
  intro n
  have e0 : (0 : Int32).toInt = 0 := rfl
  have e1 : (1 : Int32).toInt = 1 := rfl
  have e512 : (512 : Int32).toInt = 512 := rfl
  induction n with
  | zero => intro OUT OL v2 v3 a1 a2 a3 a4 a5 a6 a7 a8 a9 a10 a11; omega
  | succ n ih =>
    intro OUT OL v2 v3 a1 a2 a3 a4 a5 a6 a7 a8 a9 a10 a11
    unfold f_packBlocks_38
    refine own_iL (fun c => ?_) (fun c => absurd c (by omega))
    refine own_iL (fun c2 => ?_) (fun c2 => ?_)
    · have ps : (v1 - v2).toInt = v1.toInt - v2.toInt := isub_i (by omega) (by omega)
      have hlen : ∃ len : Int32, (if B < (v1 - v2) then B else (v1 - v2)) = len ∧ len.toInt = if B.toInt < v1.toInt - v2.toInt then B.toInt else v1.toInt - v2.toInt := by
        refine ⟨_, rfl, ?_⟩
        by_cases hb : B < v1 - v2
        · rw [if_pos hb]; rw [ilt] at hb; rw [if_pos (by omega)]
        · rw [if_neg hb]; rw [ilt] at hb; rw [if_neg (by omega)]; exact ps
      obtain ⟨len, el, hl⟩ := hlen
      rw [el]
      have hl0 : 1 ≤ len.toInt := by rw [hl]; split <;> omega
      have hl2 : len.toInt ≤ v1.toInt - v2.toInt := by rw [hl]; split <;> omega
      have pO := own_p1 (a := OL) (by omega)
      have p3 := own_p1 (a := v3) (by omega)
      have pe2 : (v2 + len).toInt = v2.toInt + len.toInt := iadd_i (by omega) (by omega)
      have peO : (OL + 1 + len).toInt = OL.toInt + 1 + len.toInt := by rw [iadd_i (by omega) (by omega), pO]
      unfold f_packBlocks_70
      rw [own_wo a1 (by omega) (by omega) len]
      refine own_bs ?_
      have r := own_r255 len
      refine own_pk79 lD M B bp l1 m0 v1 v3 len (v2 + len) (OL + 1 + len) ?_ 100000 _ (OL + 1) v2 0 (by rw [List.length_set]; exact a1) (own_Rs a2 r.1 r.2) ?_ ?_ (by omega) (by omega) (by omega) (by omega) (by omega) (by omega) (by omega) (by omega) (by omega)
      · intro O' OL' v2' b1 b2 b3 b4 b5 b6
        refine ih O' OL' v2' (v3 + 1) b1 b2 b3 (fun _ => b4) (by omega) (by omega) (by omega) (by omega) (by omega) ?_ (by omega)
        rcases a10 with h | h
        · by_cases hb : B.toInt < v1.toInt - v2.toInt
          · rw [if_pos hb] at hl; left; omega
          · rw [if_neg hb] at hl; right; omega
        · omega
      · rw [gset (by omega) (by omega) (by omega), if_neg (by rw [ieq]; omega)]; exact a3
      · rw [gset (by omega) (by omega) (by omega)]
        by_cases h3 : v3.toInt = 0
        · have h2 := a9 h3
          rw [if_pos (by rw [ieq]; omega), own_255 (by omega) (by omega), ieq, hl, hl1, h2, Int.sub_zero]
        · rw [if_neg (by rw [ieq]; omega)]
          exact a4 (by omega)
    · have pO := own_p1 (a := OL) (by omega)
      have pM := own_m1 (a := OL + 1) (by omega)
      have e399 : OL + 1 - 1 = OL := by rw [ieq, pM, pO]; omega
      unfold f_packBlocks_111
      rw [own_wo a1 (by omega) (by omega) 0]
      refine own_bs ?_
      have z : (0 : Int32) &&& 255 = 0 := rfl
      rw [z]
      refine Tot.mk ⟨by rw [List.length_set]; exact a1, own_Rs a2 (by decide) (by decide), ?_, ?_, ?_, ?_, ?_, ?_⟩
      · rw [gset (by omega) (by omega) (by omega), if_neg (by rw [ieq]; omega)]; exact a3
      · rw [gset (by omega) (by omega) (by omega), if_neg (by rw [ieq]; omega)]; exact a4 (by omega)
      · omega
      · omega
      · rw [e399, gset (by omega) (by omega) (by omega), if_pos rfl]
      · omega
theorem own_pk {D OUT : List Int32} (lD : D.length = 512) {M B bp : Int32} (OL : Int32) (hB0 : 4 ≤ B.toInt) (hB1 : B.toInt ≤ 255) (b0 : 9 ≤ bp.toInt) (b1 : bp.toInt ≤ 140) (lO : OUT.length = 400) (rO : own_R 256 OUT) (m0 : 0 ≤ M.toInt) (m1 : M.toInt < 256) :
    Tot (f_packBlocks D M B bp OUT OL) (fun (O, N) => O.length = 400 ∧ own_R 256 O ∧ gI O 0 = M ∧ 5 ≤ N.toInt ∧ N.toInt ≤ 400 ∧ gI O (N - 1) = 0 ∧ 2 ≤ (gI O 1).toInt ∧ (bp.toInt ≤ 40 → N.toInt ≤ 9 ∧ (gI O 1).toInt ≤ 5)) := by
  have e0 : (0 : Int32).toInt = 0 := rfl
  have e1 : (1 : Int32).toInt = 1 := rfl
  have e512 : (512 : Int32).toInt = 512 := rfl
  unfold f_packBlocks f_packBlocks_21
  have hb := own_by (x := bp) (by omega) b1
  generalize ((bp + 7) >>> ((3 : Int32) &&& 31)) = v1 at hb ⊢
  rw [if_neg (by rw [ilt]; omega)]
  rw [own_wo lO (by omega) (by omega) M]
  refine own_bs ?_
  rw [own_255 m0 m1]
  have hl1 : ∃ l1 : Int32, l1.toInt = if B.toInt < v1.toInt then B.toInt else v1.toInt := by
    by_cases h : B.toInt < v1.toInt
    · exact ⟨B, by rw [if_pos h]⟩
    · exact ⟨v1, by rw [if_neg h]⟩
  obtain ⟨l1, hl1⟩ := hl1
  refine Tot.mono (own_pk38 lD M B bp l1 M v1 hB0 hB1 (by omega) (by omega) hl1 100000 _ (0 + 1) 0 0 (by rw [List.length_set]; exact lO) (own_Rs rO m0 m1) ?_ ?_ (by decide) (by decide) (by omega) (by decide) (by decide) (Or.inl (by decide)) (by decide)) ?_
  · rw [gset (by omega) (by omega) (by omega), if_pos rfl]
  · intro h; omega
  · rintro ⟨O, N⟩ ⟨q1, q2, q3, q4, q5, q6, q7, q8⟩
    refine ⟨q1, q2, q3, by omega, q6, q7, ?_, ?_⟩
    · rw [q4, hl1]; split <;> omega
    · intro h
      refine ⟨q8 (by omega), ?_⟩
      rw [q4, hl1]; split <;> omega
theorem own_enc {W H T P M C X K : Int32} (k : own_K W H T P M C X K) {PX OUT RO SB D FC NS CP : List Int32} {I B : Int32} (hB0 : 4 ≤ B.toInt) (hB1 : B.toInt ≤ 255) (rP : own_R P.toInt PX) (lP : PX.length = 256) (lO : OUT.length = 400) (rO : own_R 256 OUT) (lR : RO.length = 16) (rS : own_R P.toInt SB) (lS : SB.length = 256) (lD : D.length = 512) (lF : FC.length = 512) (lN : NS.length = 512) (lC : CP.length = 512) (OL bp EW EN : Int32) :
    Tot (f_encode PX W H T M C X K I B OUT RO SB D FC NS CP OL bp EW EN) (fun (r, O, RO, SB, D, FC, NS, CP, N, bp, EW, EN) => r = N ∧ O.length = 400 ∧ own_R 256 O ∧ gI O 0 = M ∧ 5 ≤ N.toInt ∧ N.toInt ≤ 400 ∧ gI O (N - 1) = 0 ∧ 2 ≤ (gI O 1).toInt ∧ (K.toInt = 16 ∨ (N.toInt ≤ 9 ∧ (gI O 1).toInt ≤ 5)) ∧ RO.length = 16 ∧ own_R P.toInt SB ∧ SB.length = 256 ∧ D.length = 512 ∧ FC.length = 512 ∧ NS.length = 512 ∧ CP.length = 512) := by
  have e0 : (0 : Int32).toInt = 0 := rfl
  have e256 : (256 : Int32).toInt = 256 := rfl
  have kt0 := k.t0
  have kt1 := k.t1
  unfold f_encode
  refine Tot.bind (own_bro k.h lR) fun RO' lR' => ?_
  have key : ∀ (n : Nat) (SB : List Int32) (v1 : Int32), own_R P.toInt SB → SB.length = 256 → 0 ≤ v1.toInt → v1.toInt ≤ T.toInt → T.toInt - v1.toInt < n → Tot (f_encode_6 (f_encode_49 PX W H T M C X K I B) PX W H T M C X K I B n OUT RO' SB D FC NS CP OL bp EW EN v1) (fun (r, O, RO, SB, D, FC, NS, CP, N, bp, EW, EN) => r = N ∧ O.length = 400 ∧ own_R 256 O ∧ gI O 0 = M ∧ 5 ≤ N.toInt ∧ N.toInt ≤ 400 ∧ gI O (N - 1) = 0 ∧ 2 ≤ (gI O 1).toInt ∧ (K.toInt = 16 ∨ (N.toInt ≤ 9 ∧ (gI O 1).toInt ≤ 5)) ∧ RO.length = 16 ∧ own_R P.toInt SB ∧ SB.length = 256 ∧ D.length = 512 ∧ FC.length = 512 ∧ NS.length = 512 ∧ CP.length = 512) := by
    intro n
    induction n with
    | zero => intro SB v1 a1 a2 a3 a4 a5; omega
    | succ n ih =>
      intro SB v1 a1 a2 a3 a4 a5
      have p := own_p1 (a := v1) (by omega)
      unfold f_encode_6
      refine own_iL (fun c => ?_) (fun c => ?_)
      · refine Tot.bind (own_ras lR' k.w v1) fun r64 _ => ?_
        refine own_iL (fun c1 => ?_) (fun c1 => own_iL (fun c2 => ?_) (fun c2 => ?_))
        · exact ih _ _ a1 a2 (by omega) (by omega) (by omega)
        · refine own_rdR rP (by omega) (by omega) fun x x0 x1 => ?_
          refine own_wrR a1 (by omega) (by omega) x0 x1 fun S' h1 h2 => ?_
          exact ih _ _ h1 (by omega) (by omega) (by omega) (by omega)
        · exact ih _ _ a1 a2 (by omega) (by omega) (by omega)
      · unfold f_encode_49
        refine Tot.bind (own_cm k a2 lD lF lN lC bp EW EN) ?_
        rintro ⟨s67, s68, s69, s70, s71, s72, s73⟩ ⟨g1, g2, g3, g4, g5, g6, g7⟩
        have g5' : 9 ≤ s71.toInt := g5
        have g6' : s71.toInt ≤ 140 := g6
        have g7' : K.toInt = 16 ∨ s71.toInt ≤ 40 := g7
        have km0 := k.m0
        have km1 := k.m1
        refine Tot.bind (own_pk (bp := s71) (M := M) (B := B) g1 OL hB0 hB1 g5' g6' lO rO (by omega) (by omega)) ?_
        rintro ⟨O, N⟩ ⟨q1, q2, q3, q4, q5, q6, q7, q8⟩
        exact Tot.mk ⟨rfl, q1, q2, q3, q4, q5, q6, q7, g7'.imp id (fun h => q8 h), lR', a1, a2, g1, g2, g3, g4⟩
  exact key 100000 SB 0 rS lS (by omega) (by omega) (by omega)
theorem own_ld {OUT IN : List Int32} {OL : Int32} (IL : Int32) (lO : OUT.length = 400) (rO : own_R 256 OUT) (lI : IN.length = 512) (rI : own_R 256 IN) (h0 : 0 ≤ OL.toInt) (h1 : OL.toInt ≤ 400) :
    Tot (f_loadInFromOut OUT OL IN IL) (fun (r, IN, IL) => r = OL ∧ IL = OL ∧ IN.length = 512 ∧ own_R 256 IN) := by
  have e0 : (0 : Int32).toInt = 0 := rfl
  have e512 : (512 : Int32).toInt = 512 := rfl
  have key : ∀ (n : Nat) (IN : List Int32) (v : Int32), IN.length = 512 → own_R 256 IN → 0 ≤ v.toInt → v.toInt ≤ OL.toInt → OL.toInt - v.toInt < n → Tot (f_loadInFromOut_4 (f_loadInFromOut_40 OUT OL) OUT OL n IN IL v v) (fun (r, IN, IL) => r = OL ∧ IL = OL ∧ IN.length = 512 ∧ own_R 256 IN) := by
    intro n
    induction n with
    | zero => intro IN v a1 a2 a3 a4 a5; omega
    | succ n ih =>
      intro IN v a1 a2 a3 a4 a5
      have p := own_p1 (a := v) (by omega)
      unfold f_loadInFromOut_4
      refine own_iL (fun c => own_iL (fun c1 => ?_) (fun c1 => absurd c1 (by omega))) (fun c => ?_)
      · refine own_rdR rO (by omega) (by omega) fun x x0 x1 => ?_
        refine own_wrR a2 (by omega) (by omega) x0 x1 fun S' h1 h2 => ?_
        exact ih _ _ (by omega) h1 (by omega) (by omega) (by omega)
      · have hv : v = OL := by rw [ieq]; omega
        exact Tot.mk ⟨hv, hv, a1, a2⟩
  exact key 100000 IN 0 lI rI (by omega) (by omega) (by omega)
theorem own_gb {IN D : List Int32} {IL : Int32} (DL : Int32) (lI : IN.length = 512) (rI : own_R 256 IN) (h0 : 0 ≤ IL.toInt) (h1 : IL.toInt ≤ 512) (lD : D.length = 512) :
    Tot (f_gatherBlocks IN IL D DL) (fun (r, D, DL) => D.length = 512) := by
  have e0 : (0 : Int32).toInt = 0 := rfl
  have e512 : (512 : Int32).toInt = 512 := rfl
  have k57 : ∀ (kb : List Int32 → Int32 → Int32 → Int32 → Int32 → Option (Int32 × List Int32 × Int32)) (Q : Int32 × List Int32 × Int32 → Prop) (v1 v2 v3 : Int32), 0 ≤ v1.toInt → v1.toInt ≤ 512 → v3.toInt ≤ 255 → (∀ D DL, D.length = 512 → 0 ≤ DL.toInt → DL.toInt ≤ 512 → Tot (kb D DL v1 v2 v3) Q) → ∀ (n : Nat) (D : List Int32) (DL v4 : Int32), D.length = 512 → 0 ≤ DL.toInt → DL.toInt ≤ 512 → 0 ≤ v4.toInt → v4.toInt ≤ 256 → 257 - v4.toInt ≤ n → Tot (f_gatherBlocks_57 kb IN IL n D DL v1 v2 v3 v4) Q := by
    intro kb Q v1 v2 v3 a0 a1 a2 hk n
    induction n with
    | zero => intro D DL v4 b1 b2 b3 b4 b5 b6; omega
    | succ n ih =>
      intro D DL v4 b1 b2 b3 b4 b5 b6
      have p4 := own_p1 (a := v4) (by omega)
      have pD := own_p1 (a := DL) (by omega)
      have ps : (v1 + v4).toInt = v1.toInt + v4.toInt := iadd_i (by omega) (by omega)
      unfold f_gatherBlocks_57
      (repeat' (first | with_reducible refine own_iL (fun _ => ?_) (fun _ => ?_) | with_reducible refine own_iE (fun _ => ?_) (fun _ => ?_) | with_reducible refine own_rdR (by assumption) (by omega) (by omega) (fun _ _ _ => ?_) | with_reducible refine Tot.rd (by omega) (by omega) (fun _ _ => ?_) | with_reducible refine own_wrR (by assumption) (by omega) (by omega) (by omega) (by omega) (fun _ _ _ => ?_) | with_reducible refine Tot.wr (by omega) (by omega) (fun _ _ _ => ?_) | with_reducible refine own_bs ?_))
      all_goals first | exact ih _ _ _ (by omega) (by omega) (by omega) (by omega) (by omega) (by omega) | exact hk _ _ b1 b2 b3
  have key : ∀ (n : Nat) (D : List Int32) (DL v1 v2 : Int32), D.length = 512 → 0 ≤ DL.toInt → DL.toInt ≤ 512 → 0 ≤ v1.toInt → 0 ≤ v2.toInt → v2.toInt ≤ 513 → 514 - v2.toInt ≤ n → Tot (f_gatherBlocks_9 IN IL n D DL v1 v2) (fun (r, D, DL) => D.length = 512) := by
    intro n
    induction n with
    | zero => intro D DL v1 v2 b1 b2 b3 b4 b5 b6 b7; omega
    | succ n ih =>
      intro D DL v1 v2 b1 b2 b3 b4 b5 b6 b7
      have p2 := own_p1 (a := v2) (by omega)
      unfold f_gatherBlocks_9
      refine own_iL (fun _ => Tot.mk b1) (fun c => ?_)
      refine own_iL (fun c1 => ?_) (fun _ => Tot.mk b1)
      have p1 := own_p1 (a := v1) (by omega)
      refine own_rdR rI (by omega) (by omega) fun x x0 x1 => ?_
      refine own_iE (fun _ => Tot.mk b1) (fun c2 => ?_)
      refine own_iL (fun _ => Tot.mk b1) (fun c3 => ?_)
      refine k57 _ _ (v1 + 1) v2 x (by omega) (by omega) (by omega) ?_ 100000 D DL 0 b1 b2 b3 (by omega) (by omega) (by omega)
      intro D DL d1 d2 d3
      have ps : (v1 + 1 + x).toInt = v1.toInt + 1 + x.toInt := by rw [iadd_i (by omega) (by omega), p1]
      unfold f_gatherBlocks_117
      exact ih _ _ _ _ d1 d2 d3 (by omega) (by omega) (by omega) (by omega)
  exact key 100000 D 0 1 0 lD (by decide) (by decide) (by decide) (by decide) (by decide) (by decide)
theorem own_or {x y : Int32} (hx : 0 ≤ x.toInt) (hy : 0 ≤ y.toInt) : 0 ≤ (x ||| y).toInt := by
  have mx : x.toBitVec.msb = false := by rw [BitVec.msb_eq_toInt]; simpa using hx
  have my : y.toBitVec.msb = false := by rw [BitVec.msb_eq_toInt]; simpa using hy
  have m : (x ||| y).toBitVec.msb = false := by rw [Int32.toBitVec_or, BitVec.msb_or, mx, my]; rfl
  have e : (x ||| y).toInt = (((x ||| y).toBitVec).toNat : Int) := BitVec.toInt_eq_toNat_of_msb m
  omega
theorem own_sh {v b : Int32} (hv : v = 0 ∨ v = 1) (h0 : 0 ≤ b.toInt) (h1 : b.toInt < 9) : 0 ≤ (v <<< (b &&& 31)).toInt := by
  have key : ∀ k : Nat, k < 9 → 0 ≤ ((0 : Int32) <<< (Int32.ofNat k &&& 31)).toInt ∧ 0 ≤ ((1 : Int32) <<< (Int32.ofNat k &&& 31)).toInt := by decide +kernel
  have e := key b.toInt.toNat (by omega)
  rw [← own_of h0] at e
  rcases hv with h | h <;> rw [h]
  · exact e.1
  · exact e.2
theorem own_bit {x : Int32} : (x &&& 1) = 0 ∨ (x &&& 1) = 1 := by
  have e0 : (0 : Int32).toInt = 0 := rfl
  have e1 : (1 : Int32).toInt = 1 := rfl
  have := iand_rng x 1 (by decide)
  by_cases h : (x &&& 1) = 0
  · exact Or.inl h
  · refine Or.inr ?_
    rw [ieq] at h ⊢
    omega
theorem own_rc {D : List Int32} {DW : Int32} (lD : D.length = 512) (h0 : 0 ≤ DW.toInt) (h1 : DW.toInt ≤ 9) (rp : Int32) : Tot (f_readCode D DW rp) (fun p => 0 ≤ p.1.toInt) := by
  have e0 : (0 : Int32).toInt = 0 := rfl
  have e512 : (512 : Int32).toInt = 512 := rfl
  have key : ∀ (n : Nat) (rp v1 v2 : Int32), 0 ≤ v1.toInt → 0 ≤ v2.toInt → v2.toInt ≤ DW.toInt → DW.toInt - v2.toInt < n → Tot (f_readCode_4 D DW n rp v1 v2) (fun p => 0 ≤ p.1.toInt) := by
    intro n
    induction n with
    | zero => intro rp v1 v2 a b c d; omega
    | succ n ih =>
      intro rp v1 v2 a b c d
      have p := own_p1 (a := v2) (by omega)
      unfold f_readCode_4 f_readCode_51
      refine own_iL (fun c1 => ?_) (fun _ => Tot.mk a)
      (repeat' (first | with_reducible refine own_iL (fun _ => ?_) (fun _ => ?_) | with_reducible refine own_iE (fun _ => ?_) (fun _ => ?_) | with_reducible refine own_rdR (by assumption) (by omega) (by omega) (fun _ _ _ => ?_) | with_reducible refine Tot.rd (by omega) (by omega) (fun _ _ => ?_) | with_reducible refine own_wrR (by assumption) (by omega) (by omega) (by omega) (by omega) (fun _ _ _ => ?_) | with_reducible refine Tot.wr (by omega) (by omega) (fun _ _ _ => ?_) | with_reducible refine own_bs ?_))
      · exact ih _ _ _ (own_or a (own_sh (Or.inl rfl) b (by omega))) (by omega) (by omega) (by omega)
      · exact ih _ _ _ (own_or a (own_sh own_bit b (by omega))) (by omega) (by omega) (by omega)
      · exact ih _ _ _ (own_or a (own_sh (Or.inl rfl) b (by omega))) (by omega) (by omega) (by omega)
  exact key 100000 rp 0 0 (by omega) (by omega) (by omega) (by omega)
theorem own_lo {SL : List Int32} {C : Int32} (l : SL.length = 512) (c0 : 0 ≤ C.toInt) (v : Int32) : Tot (f_lengthOf SL C v) (fun _ => True) := by
  have e512 : (512 : Int32).toInt = 512 := rfl
  unfold f_lengthOf
  (repeat' (first | with_reducible refine own_iL (fun _ => ?_) (fun _ => ?_) | with_reducible refine own_iE (fun _ => ?_) (fun _ => ?_) | with_reducible refine own_rdR (by assumption) (by omega) (by omega) (fun _ _ _ => ?_) | with_reducible refine Tot.rd (by omega) (by omega) (fun _ _ => ?_) | with_reducible refine own_wrR (by assumption) (by omega) (by omega) (by omega) (by omega) (fun _ _ _ => ?_) | with_reducible refine Tot.wr (by omega) (by omega) (fun _ _ _ => ?_) | with_reducible refine own_bs ?_))
  all_goals exact Tot.mk trivial
def own_C (P C x : Int32) : Prop := 0 ≤ x.toInt ∧ (x.toInt < P.toInt ∨ C.toInt ≤ x.toInt)
theorem own_fo {FP : List Int32} {P C : Int32} (l : FP.length = 512) (r : own_R P.toInt FP) (p0 : 1 ≤ P.toInt) (p1 : P.toInt ≤ C.toInt) {v : Int32} (hv : own_C P C v) : Tot (f_firstOf FP C v) (fun r => 0 ≤ r.toInt ∧ r.toInt < P.toInt) := by
  have e0 : (0 : Int32).toInt = 0 := rfl
  have e512 : (512 : Int32).toInt = 512 := rfl
  obtain ⟨h0, h1⟩ := hv
  unfold f_firstOf
  (repeat' (first | with_reducible refine own_iL (fun _ => ?_) (fun _ => ?_) | with_reducible refine own_iE (fun _ => ?_) (fun _ => ?_) | with_reducible refine own_rdR (by assumption) (by omega) (by omega) (fun _ _ _ => ?_) | with_reducible refine Tot.rd (by omega) (by omega) (fun _ _ => ?_) | with_reducible refine own_wrR (by assumption) (by omega) (by omega) (by omega) (by omega) (fun _ _ _ => ?_) | with_reducible refine Tot.wr (by omega) (by omega) (fun _ _ _ => ?_) | with_reducible refine own_bs ?_))
  · exact Tot.mk ⟨h0, by omega⟩
  · exact Tot.mk ⟨by omega, by omega⟩
  · exact Tot.mk ⟨by omega, by omega⟩
abbrev own_T (P C : Int32) (SB PF SF FP SL : List Int32) : Prop := (own_R P.toInt SB) ∧ (SB.length = 256) ∧ (∀ x ∈ PF, own_C P C x) ∧ (PF.length = 512) ∧ (own_R P.toInt SF) ∧ (SF.length = 512) ∧ (own_R P.toInt FP) ∧ (FP.length = 512) ∧ (SL.length = 512)
theorem own_T.rS {P C : Int32} {SB PF SF FP SL : List Int32} (self : own_T P C SB PF SF FP SL) : own_R P.toInt SB := self.1
theorem own_T.lS {P C : Int32} {SB PF SF FP SL : List Int32} (self : own_T P C SB PF SF FP SL) : SB.length = 256 := self.2.1
theorem own_T.cP {P C : Int32} {SB PF SF FP SL : List Int32} (self : own_T P C SB PF SF FP SL) : ∀ x ∈ PF, own_C P C x := self.2.2.1
theorem own_T.lP {P C : Int32} {SB PF SF FP SL : List Int32} (self : own_T P C SB PF SF FP SL) : PF.length = 512 := self.2.2.2.1
theorem own_T.rF {P C : Int32} {SB PF SF FP SL : List Int32} (self : own_T P C SB PF SF FP SL) : own_R P.toInt SF := self.2.2.2.2.1
theorem own_T.lF {P C : Int32} {SB PF SF FP SL : List Int32} (self : own_T P C SB PF SF FP SL) : SF.length = 512 := self.2.2.2.2.2.1
theorem own_T.r1 {P C : Int32} {SB PF SF FP SL : List Int32} (self : own_T P C SB PF SF FP SL) : own_R P.toInt FP := self.2.2.2.2.2.2.1
theorem own_T.l1 {P C : Int32} {SB PF SF FP SL : List Int32} (self : own_T P C SB PF SF FP SL) : FP.length = 512 := self.2.2.2.2.2.2.2.1
theorem own_T.lL {P C : Int32} {SB PF SF FP SL : List Int32} (self : own_T P C SB PF SF FP SL) : SL.length = 512 := self.2.2.2.2.2.2.2.2
theorem own_ws {P C : Int32} {PF SF : List Int32} (p1 : P.toInt ≤ C.toInt) (c0 : 0 ≤ C.toInt) (cP : ∀ x ∈ PF, own_C P C x) (lP : PF.length = 512) (rF : own_R P.toInt SF) (lF : SF.length = 512) : ∀ (n : Nat) (SB : List Int32) (v3 v4 v5 v6 : Int32), own_R P.toInt SB → SB.length = 256 → (v4.toInt < 0 ∨ own_C P C v4) → 0 ≤ v6.toInt → v6.toInt ≤ 512 → 513 - v6.toInt ≤ n → Tot (f_writeString_13 PF SF C n SB v3 v4 v5 v6) (fun SB => own_R P.toInt SB ∧ SB.length = 256) := by
  intro n
  have e0 : (0 : Int32).toInt = 0 := rfl
  have em1 : (-1 : Int32).toInt = -1 := rfl
  have e256 : (256 : Int32).toInt = 256 := rfl
  have e512 : (512 : Int32).toInt = 512 := rfl
  induction n with
  | zero => intro SB v3 v4 v5 v6 a1 a2 a3 a4 a5 a6; omega
  | succ n ih =>
    intro SB v3 v4 v5 v6 a1 a2 a3 a4 a5 a6
    have p6 := own_p1 (a := v6) (by omega)
    unfold f_writeString_13
    refine own_iL (fun c1 => ?_) (fun c1 => Tot.mk ⟨a1, a2⟩)
    refine own_iL (fun c2 => ?_) (fun c2 => Tot.mk ⟨a1, a2⟩)
    refine own_iL (fun c3 => Tot.mk ⟨a1, a2⟩) (fun c3 => ?_)
    have hc := a3.resolve_left (by omega)
    refine own_iL (fun c4 => ?_) (fun c4 => Tot.mk ⟨a1, a2⟩)
    have k86 : ∀ SB : List Int32, own_R P.toInt SB → SB.length = 256 → Tot (f_writeString_86 (f_writeString_13 PF SF C n) PF SF C SB v3 v4 v5 v6) (fun SB => own_R P.toInt SB ∧ SB.length = 256) := by
      intro SB b1 b2
      unfold f_writeString_86
      refine own_iL (fun c5 => ih _ _ _ _ _ b1 b2 (Or.inl (by omega)) (by omega) (by omega) (by omega)) (fun c5 => ?_)
      have h2 : v4.toInt.toNat < PF.length := by omega
      rw [rdA_in (by omega) h2]
      refine own_bs ?_
      exact ih _ _ _ _ _ b1 b2 (Or.inr (cP _ (List.getElem_mem h2))) (by omega) (by omega) (by omega)
    have k62 : ∀ t : Int32, 0 ≤ t.toInt → t.toInt < P.toInt → Tot (f_writeString_62 (f_writeString_13 PF SF C n) PF SF C SB v3 v4 v5 v6 t) (fun SB => own_R P.toInt SB ∧ SB.length = 256) := by
      intro t t0 t1
      unfold f_writeString_62
      refine own_iL (fun _ => k86 SB a1 a2) (fun c5 => own_iL (fun c6 => ?_) (fun _ => k86 SB a1 a2))
      refine own_wrR a1 (by omega) (by omega) t0 t1 fun S' h1 h2 => ?_
      exact k86 S' h1 (by omega)
    refine own_iL (fun c5 => k62 v4 (by omega) (by have := hc.2; omega)) (fun c5 => ?_)
    refine own_rdR rF (by omega) (by omega) fun x x0 x1 => k62 x x0 x1
theorem own_adc {W H T P M C X K : Int32} (k : own_K W H T P M C X K) {SB PF SF FP SL : List Int32} (t : own_T P C SB PF SF FP SL) {DW DN v1 v2 : Int32} (w0 : 0 ≤ DW.toInt) (w1 : DW.toInt ≤ 9) (n0 : C.toInt + 2 ≤ DN.toInt) (n1 : DN.toInt < K.toInt) (hv : own_C P C v1) (b0 : 0 ≤ v2.toInt) (b1 : v2.toInt < P.toInt) :
    Tot (f_addDecoderCode C X PF SF FP SL DW DN v1 v2) (fun (PF, SF, FP, SL, DW, DN) => own_T P C SB PF SF FP SL ∧ 0 ≤ DW.toInt ∧ DW.toInt ≤ 9 ∧ C.toInt + 2 ≤ DN.toInt ∧ DN.toInt ≤ K.toInt) := by
  obtain ⟨rS, lS, cP, lP, rF, lF, r1, l1, lL⟩ := t
  obtain ⟨kw, kh, t0, t1, p0, p1, c0, c1, m0, m1, x0, x1, kk⟩ := k
  have e0 : (0 : Int32).toInt = 0 := rfl
  have e512 : (512 : Int32).toInt = 512 := rfl
  have pn := own_p1 (a := DN) (by omega)
  unfold f_addDecoderCode
  refine own_iL (fun c => absurd c (by omega)) (fun _ => own_iL (fun c => ?_) (fun c => absurd c (by omega)))
  refine Tot.wr (by omega) (by omega) fun A1 e1 h1 => ?_
  refine own_wrR rF (by omega) (by omega) b0 b1 fun A2 g2 h2 => ?_
  refine Tot.bind (own_fo l1 r1 p0 p1 hv) fun r90 hr => ?_
  refine own_wrR r1 (by omega) (by omega) hr.1 hr.2 fun A3 g3 h3 => ?_
  refine Tot.bind (own_lo lL (by omega) v1) fun r92 _ => ?_
  refine Tot.wr (by omega) (by omega) fun A4 e4 h4 => ?_
  unfold f_addDecoderCode_54
  refine Tot.mk ⟨⟨rS, lS, ?_, h1.trans lP, g2, h2.trans lF, g3, h3.trans l1, h4.trans lL⟩, ?_, ?_, ?_, ?_⟩
  · intro x hx
    rw [e1] at hx
    rcases List.mem_or_eq_of_mem_set hx with h' | h'
    · exact cP x h'
    · rw [h']; exact hv
  · split
    · split
      · rename_i hh
        rw [ilt] at hh
        have := own_p1 (a := DW) (by omega)
        omega
      · exact w0
    · exact w0
  · split
    · split
      · rename_i hh
        rw [ilt] at hh
        have := own_p1 (a := DW) (by omega)
        omega
      · exact w1
    · exact w1
  · omega
  · omega
abbrev own_N (P C K DW DN DP : Int32) : Prop := (0 ≤ DW.toInt) ∧ (DW.toInt ≤ 9) ∧ (C.toInt + 2 ≤ DN.toInt) ∧ (DN.toInt ≤ K.toInt) ∧ (DP.toInt < 0 ∨ own_C P C DP)
theorem own_N.w0 {P C K DW DN DP : Int32} (self : own_N P C K DW DN DP) : 0 ≤ DW.toInt := self.1
theorem own_N.w1 {P C K DW DN DP : Int32} (self : own_N P C K DW DN DP) : DW.toInt ≤ 9 := self.2.1
theorem own_N.n0 {P C K DW DN DP : Int32} (self : own_N P C K DW DN DP) : C.toInt + 2 ≤ DN.toInt := self.2.2.1
theorem own_N.n1 {P C K DW DN DP : Int32} (self : own_N P C K DW DN DP) : DN.toInt ≤ K.toInt := self.2.2.2.1
theorem own_N.p {P C K DW DN DP : Int32} (self : own_N P C K DW DN DP) : DP.toInt < 0 ∨ own_C P C DP := self.2.2.2.2
theorem own_h206 {W H T P M C X K : Int32} (k : own_K W H T P M C X K) {SB PF SF FP SL : List Int32} (t : own_T P C SB PF SF FP SL) {DW DN DP : Int32} (m : own_N P C K DW DN DP) (DC v1 v2 : Int32) (hv : own_C P C v1) (b0 : 0 ≤ v2.toInt) (b1 : v2.toInt < P.toInt) :
    Tot (f_handleCode_206 T P C X K SB PF SF FP SL DW DN DP DC v1 v2) (fun (r, SB, PF, SF, FP, SL, DW, DN, DP, DC) => (r = 0 ∨ r = -5 ∨ r = -6 ∨ r = -7) ∧ own_T P C SB PF SF FP SL ∧ own_N P C K DW DN DP) := by
  have e0 : (0 : Int32).toInt = 0 := rfl
  obtain ⟨w0, w1, n0, n1, p⟩ := m
  unfold f_handleCode_206 f_handleCode_233
  refine own_iL (fun _ => Tot.mk ⟨Or.inl rfl, t, w0, w1, n0, n1, Or.inr hv⟩) (fun c => ?_)
  refine own_iL (fun c2 => ?_) (fun _ => Tot.mk ⟨Or.inl rfl, t, w0, w1, n0, n1, Or.inr hv⟩)
  refine Tot.bind (own_adc k t w0 w1 n0 c2 (p.resolve_left (by omega)) b0 b1) ?_
  rintro ⟨s1, s2, s3, s4, s5, s6⟩ ⟨t', w0', w1', n0', n1'⟩
  exact Tot.mk ⟨Or.inl rfl, t', w0', w1', n0', n1', Or.inr hv⟩
theorem own_T.sb {P C : Int32} {SB SB' PF SF FP SL : List Int32} (t : own_T P C SB PF SF FP SL) (h : own_R P.toInt SB' ∧ SB'.length = 256) : own_T P C SB' PF SF FP SL :=
  ⟨h.1, h.2, t.cP, t.lP, t.rF, t.lF, t.r1, t.l1, t.lL⟩
theorem own_h55 {W H T P M C X K : Int32} (k : own_K W H T P M C X K) {SB PF SF FP SL : List Int32} (t : own_T P C SB PF SF FP SL) {DW DN DP : Int32} (m : own_N P C K DW DN DP) (DC v1 : Int32) (hv : own_C P C v1) (hd : DP.toInt < 0 → v1.toInt < C.toInt) :
    Tot (f_handleCode_55 T P C X K SB PF SF FP SL DW DN DP DC v1) (fun (r, SB, PF, SF, FP, SL, DW, DN, DP, DC) => (r = 0 ∨ r = -5 ∨ r = -6 ∨ r = -7) ∧ own_T P C SB PF SF FP SL ∧ own_N P C K DW DN DP) := by
  have e0 : (0 : Int32).toInt = 0 := rfl
  have e256 : (256 : Int32).toInt = 256 := rfl
  have c0 := k.c0
  have p0 := k.p0
  have p1 := k.p1
  have n0 := m.n0
  unfold f_handleCode_55 f_writeString
  refine own_iL (fun c => ?_) (fun c => ?_)
  · refine Tot.bind (own_lo t.lL (by omega) v1) fun r98 _ => ?_
    refine Tot.ite (fun _ => Tot.mk ⟨Or.inr (Or.inr (Or.inr rfl)), t, m⟩) (fun _ => ?_)
    refine Tot.bind (own_ws p1 (by omega) t.cP t.lP t.rF t.lF 100000 SB r98 v1 _ 0 t.rS t.lS (Or.inr hv) (by omega) (by omega) (by omega)) fun s99 hs => ?_
    refine Tot.bind (own_fo t.l1 t.r1 p0 p1 hv) fun r100 hr => ?_
    exact own_h206 k (t.sb hs) m _ v1 r100 hv hr.1 hr.2
  · have hp := m.p.resolve_left (fun h => by have := hd h; omega)
    refine Tot.bind (own_lo t.lL (by omega) DP) fun r94 _ => ?_
    refine Tot.ite (fun _ => Tot.mk ⟨Or.inr (Or.inr (Or.inr rfl)), t, m⟩) (fun _ => ?_)
    refine Tot.bind (own_ws p1 (by omega) t.cP t.lP t.rF t.lF 100000 SB _ DP _ 0 t.rS t.lS (Or.inr hp) (by omega) (by omega) (by omega)) fun s95 hs => ?_
    refine Tot.bind (own_fo t.l1 t.r1 p0 p1 hp) fun r96 hr => ?_
    unfold f_handleCode_196
    have K1 : ∀ (SB' : List Int32) (DC : Int32), own_R P.toInt SB' ∧ SB'.length = 256 → _ := fun SB' DC h => own_h206 k (t.sb h) m DC v1 r96 hv hr.1 hr.2
    refine own_iL (fun _ => K1 _ _ hs) (fun c5 => own_iL (fun c6 => ?_) (fun _ => K1 _ _ hs))
    have hl : s95.length = 256 := hs.2
    refine own_wrR hs.1 (by omega) (by omega) hr.1 hr.2 fun A g1 g2 => ?_
    exact K1 _ _ ⟨g1, by omega⟩
theorem own_hc {W H T P M C X K : Int32} (k : own_K W H T P M C X K) {SB PF SF FP SL : List Int32} (t : own_T P C SB PF SF FP SL) {DW DN DP : Int32} (m : own_N P C K DW DN DP) (DC v1 : Int32) (hv : 0 ≤ v1.toInt) :
    Tot (f_handleCode T P C X K SB PF SF FP SL DW DN DP DC v1) (fun (r, SB, PF, SF, FP, SL, DW, DN, DP, DC) => (r = 0 ∨ r = -5 ∨ r = -6 ∨ r = -7) ∧ own_T P C SB PF SF FP SL ∧ own_N P C K DW DN DP) := by
  have e0 : (0 : Int32).toInt = 0 := rfl
  have k36 : (DP.toInt < 0 → v1.toInt < C.toInt) → Tot (f_handleCode_36 T P C X K SB PF SF FP SL DW DN DP DC v1) (fun (r, SB, PF, SF, FP, SL, DW, DN, DP, DC) => (r = 0 ∨ r = -5 ∨ r = -6 ∨ r = -7) ∧ own_T P C SB PF SF FP SL ∧ own_N P C K DW DN DP) := by
    intro hd
    unfold f_handleCode_36
    refine own_iL (fun c => own_iL (fun c1 => ?_) (fun _ => Tot.mk ⟨Or.inr (Or.inr (Or.inl rfl)), t, m⟩)) (fun c => ?_)
    · exact own_h55 k t m DC v1 ⟨hv, Or.inl c1⟩ hd
    · exact own_h55 k t m DC v1 ⟨hv, Or.inr c⟩ hd
  have k18 : (DP.toInt < 0 → v1.toInt < C.toInt) → Tot (f_handleCode_18 T P C X K SB PF SF FP SL DW DN DP DC v1) (fun (r, SB, PF, SF, FP, SL, DW, DN, DP, DC) => (r = 0 ∨ r = -5 ∨ r = -6 ∨ r = -7) ∧ own_T P C SB PF SF FP SL ∧ own_N P C K DW DN DP) := by
    intro hd
    unfold f_handleCode_18
    exact own_iL (fun _ => k36 hd) (fun _ => own_iL (fun _ => Tot.mk ⟨Or.inr (Or.inl rfl), t, m⟩) (fun _ => k36 hd))
  unfold f_handleCode
  refine own_iL (fun c => own_iL (fun c1 => k18 (fun _ => c1)) (fun _ => Tot.mk ⟨Or.inr (Or.inl rfl), t, m⟩)) (fun c => k18 (fun h => absurd h (by omega)))
theorem own_dc45 {W H T P M C X K : Int32} (k : own_K W H T P M C X K) {D : List Int32} (lD : D.length = 512) (DL : Int32) : ∀ (n : Nat) (SB PF SF FP SL : List Int32) (rp DW DN DP DC v1 v2 : Int32), own_T P C SB PF SF FP SL → own_N P C K DW DN DP → 0 ≤ v2.toInt → v2.toInt ≤ 5000 → 5001 - v2.toInt ≤ n →
    Tot (f_decompress_45 D T P M C X K DL n SB PF SF FP SL rp DW DN DP DC v1 v2) (fun (r, SB, PF, SF, FP, SL, rp, DW, DN, DP, DC) => (r = 0 ∨ r = -4 ∨ r = -5 ∨ r = -6 ∨ r = -7) ∧ own_T P C SB PF SF FP SL) := by
  intro n
  have e0 : (0 : Int32).toInt = 0 := rfl
  have em1 : (-1 : Int32).toInt = -1 := rfl
  have e5000 : (5000 : Int32).toInt = 5000 := rfl
  obtain ⟨kw, kh, t0, t1, p0, p1, c0, c1, m0, m1, x0, x1, kk⟩ := id k
  have qm := own_p1 (a := M) (by omega)
  have qc : (C + 2).toInt = C.toInt + 2 := by ((try simp only [ilt, ile, ieq, iadd_e, isub_e, imul_e, Int32.reduceToInt] at *) <;> omega)
  induction n with
  | zero => intro SB PF SF FP SL rp DW DN DP DC v1 v2 t m a b c; omega
  | succ n ih =>
    intro SB PF SF FP SL rp DW DN DP DC v1 v2 t m a b c
    have p := own_p1 (a := v2) (by omega)
    unfold f_decompress_45
    refine own_iL (fun c1 => ?_) (fun _ => Tot.mk ⟨Or.inr (Or.inl rfl), t⟩)
    refine Tot.ite (fun _ => Tot.mk ⟨Or.inr (Or.inl rfl), t⟩) (fun _ => ?_)
    refine Tot.bind (own_rc lD m.w0 m.w1 rp) ?_
    rintro ⟨r, s⟩ hr
    refine own_iE (fun _ => ?_) (fun _ => own_iE (fun _ => Tot.mk ⟨Or.inl rfl, t⟩) (fun _ => ?_))
    · exact ih _ _ _ _ _ _ _ _ _ _ _ _ t ⟨by omega, by omega, by omega, by omega, Or.inl (by omega)⟩ (by omega) (by omega) (by omega)
    · refine Tot.bind (own_hc k t m DC r hr) ?_
      rintro ⟨r9, s0, s1, s2, s3, s4, s5, s6, s7, s8⟩ ⟨g1, t', m'⟩
      refine own_iE (fun _ => ?_) (fun _ => ?_)
      · exact ih _ _ _ _ _ _ _ _ _ _ _ _ t' m' (by omega) (by omega) (by omega)
      · refine Tot.mk ⟨?_, t'⟩
        rcases g1 with h | h | h | h
        · exact Or.inl h
        · exact Or.inr (Or.inr (Or.inl h))
        · exact Or.inr (Or.inr (Or.inr (Or.inl h)))
        · exact Or.inr (Or.inr (Or.inr (Or.inr h)))
theorem own_dst {W H T P M C X K : Int32} (k : own_K W H T P M C X K) {IN SB D PF SF FP SL : List Int32} {IL : Int32} (lI : IN.length = 512) (rI : own_R 256 IN) (i0 : 0 ≤ IL.toInt) (i1 : IL.toInt ≤ 512) (lD : D.length = 512) (t : own_T P C SB PF SF FP SL) (DL rp DW DN DP DC : Int32) :
    Tot (f_decodeSteps IN T P M C X K IL SB D PF SF FP SL DL rp DW DN DP DC) (fun (r, SB, D, PF, SF, FP, SL, DL, rp, DW, DN, DP, DC) => (IL = 0 → r = -1) ∧ -8 ≤ r.toInt ∧ r.toInt ≤ 0 ∧ D.length = 512 ∧ own_T P C SB PF SF FP SL) := by
  have e0 : (0 : Int32).toInt = 0 := rfl
  obtain ⟨kw, kh, t0, t1, p0, p1, c0, c1, m0, m1, x0, x1, kk⟩ := id k
  have qm := own_p1 (a := M) (by omega)
  have qc : (C + 2).toInt = C.toInt + 2 := by ((try simp only [ilt, ile, ieq, iadd_e, isub_e, imul_e, Int32.reduceToInt] at *) <;> omega)
  unfold f_decodeSteps f_decompress
  refine own_iE (fun _ => Tot.mk ⟨fun _ => rfl, by decide, by decide, lD, t⟩) (fun cz => ?_)
  refine Tot.rd (by omega) (by omega) fun x _ => ?_
  refine own_iE (fun _ => ?_) (fun _ => Tot.mk ⟨fun h => absurd h cz, by decide, by decide, lD, t⟩)
  refine Tot.bind (own_gb DL lI rI i0 i1 lD) ?_
  rintro ⟨r1, D', DL'⟩ lD'
  refine own_iE (fun _ => Tot.mk ⟨fun h => absurd h cz, by decide, by decide, lD', t⟩) (fun _ => ?_)
  refine Tot.bind (own_dc45 k lD' DL' 100000 SB PF SF FP SL 0 (M + 1) (C + 2) (-1) 0 _ 0 t ⟨by omega, by omega, by omega, by omega, Or.inl (by decide)⟩ (by decide) (by decide) (by decide)) ?_
  rintro ⟨r, s0, s1, s2, s3, s4, s5, s6, s7, s8, s9⟩ ⟨g1, t'⟩
  refine Tot.mk ⟨fun h => absurd h cz, ?_, ?_, lD', t'⟩
  · rcases g1 with h | h | h | h | h <;> rw [h]
    · rw [if_pos rfl]; split <;> decide
    all_goals (rw [if_neg (by decide)]; decide)
  · rcases g1 with h | h | h | h | h <;> rw [h]
    · rw [if_pos rfl]; split <;> decide
    all_goals (rw [if_neg (by decide)]; decide)
theorem own_dec {W H T P M C X K : Int32} (k : own_K W H T P M C X K) {IN DX RO SB D PF SF FP SL : List Int32} {IL : Int32} (I : Int32) (lI : IN.length = 512) (rI : own_R 256 IN) (i0 : 0 ≤ IL.toInt) (i1 : IL.toInt ≤ 512) (rX : own_R P.toInt DX) (lX : DX.length = 256) (lR : RO.length = 16) (lD : D.length = 512) (t : own_T P C SB PF SF FP SL) (hd st DL rp DW DN DP DC : Int32) :
    Tot (f_decode IN W H T P M C X K I IL DX RO SB D PF SF FP SL hd st DL rp DW DN DP DC) (fun (r, DX, RO, SB, D, PF, SF, FP, SL, hd, st, DL, rp, DW, DN, DP, DC) => (IL = 0 → r = -1) ∧ -8 ≤ r.toInt ∧ r.toInt ≤ 0 ∧ st = r ∧ ((r = 0 ∧ hd = 1) ∨ (¬ r = 0 ∧ hd = 0)) ∧ own_R P.toInt DX ∧ DX.length = 256 ∧ RO.length = 16 ∧ D.length = 512 ∧ own_T P C SB PF SF FP SL) := by
  have e0 : (0 : Int32).toInt = 0 := rfl
  have e256 : (256 : Int32).toInt = 256 := rfl
  have kt0 := k.t0
  have kt1 := k.t1
  unfold f_decode
  refine Tot.bind (own_dst k lI rI i0 i1 lD t DL rp DW DN DP DC) ?_
  rintro ⟨r, SB', D', PF', SF', FP', SL', s141, s142, s143, s144, s145, s146⟩ ⟨g0, g1, g2, g3, t'⟩
  refine own_iE (fun c => ?_) (fun c => Tot.mk ⟨g0, g1, g2, rfl, Or.inr ⟨c, rfl⟩, rX, lX, lR, g3, t'⟩)
  refine Tot.bind (own_bro k.h lR) fun RO' lR' => ?_
  have key : ∀ (n : Nat) (DX : List Int32) (v2 : Int32), own_R P.toInt DX → DX.length = 256 → 0 ≤ v2.toInt → v2.toInt ≤ T.toInt → T.toInt - v2.toInt < n → Tot (f_decode_20 (f_decode_63 IN W H T P M C X K I IL) IN W H T P M C X K I IL n DX RO' SB' D' PF' SF' FP' SL' hd r s141 s142 s143 s144 s145 s146 r v2) (fun (r, DX, RO, SB, D, PF, SF, FP, SL, hd, st, DL, rp, DW, DN, DP, DC) => (IL = 0 → r = -1) ∧ -8 ≤ r.toInt ∧ r.toInt ≤ 0 ∧ st = r ∧ ((r = 0 ∧ hd = 1) ∨ (¬ r = 0 ∧ hd = 0)) ∧ own_R P.toInt DX ∧ DX.length = 256 ∧ RO.length = 16 ∧ D.length = 512 ∧ own_T P C SB PF SF FP SL) := by
    intro n
    induction n with
    | zero => intro DX v2 a1 a2 a3 a4 a5; omega
    | succ n ih =>
      intro DX v2 a1 a2 a3 a4 a5
      have p := own_p1 (a := v2) (by omega)
      unfold f_decode_20
      refine own_iL (fun c => ?_) (fun _ => ?_)
      · refine Tot.bind (own_ras lR' k.w v2) fun r64 _ => ?_
        have lS' := t'.lS
        refine own_iL (fun c1 => ?_) (fun c1 => own_iL (fun c2 => ?_) (fun c2 => ?_))
        · exact ih _ _ a1 a2 (by omega) (by omega) (by omega)
        · refine own_rdR t'.rS (by omega) (by omega) fun x x0 x1 => ?_
          refine own_wrR a1 (by omega) (by omega) x0 x1 fun S' h1 h2 => ?_
          exact ih _ _ h1 (by omega) (by omega) (by omega) (by omega)
        · exact ih _ _ a1 a2 (by omega) (by omega) (by omega)
      · exact Tot.mk ⟨g0, g1, g2, rfl, Or.inl ⟨c, rfl⟩, a1, a2, lR', g3, t'⟩
  exact key 100000 DX 0 rX lX (by omega) (by omega) (by omega)
theorem own_us (w : Int32) {n : Nat} (hn : n < 16) : (XT.ushr w (2 * Int32.ofNat n)).toBitVec = w.toBitVec >>> (2 * n) := by
  have k : ∀ n : Nat, n < 16 → ((((2 : Int32) * Int32.ofNat n) &&& 31).toBitVec % 32#32).toNat = 2 * n := by decide +kernel
  show w.toBitVec >>> ((((2 : Int32) * Int32.ofNat n) &&& 31).toBitVec % 32#32) = _
  rw [BitVec.ushiftRight_eq', k n hn]
theorem own_sl (w : Int32) {n : Nat} (hn : n < 16) : (w <<< (((2 : Int32) * Int32.ofNat n) &&& 31)).toBitVec = w.toBitVec <<< (2 * n) := by
  have k : ∀ n : Nat, n < 16 → ((((2 : Int32) * Int32.ofNat n) &&& 31).toBitVec.smod 32#32).toNat = 2 * n := by decide +kernel
  rw [Int32.toBitVec_shiftLeft, BitVec.shiftLeft_eq']
  have := k n hn
  congr 1
theorem own_b3 (n : Nat) : (3#32).getLsbD n = decide (n < 2) := by
  by_cases h : n < 2
  · have : n = 0 ∨ n = 1 := by omega
    rcases this with h | h <;> subst h <;> rfl
  · rw [decide_eq_false h]
    by_cases g : n < 32
    · have key : ∀ n : Nat, n < 32 → ¬ n < 2 → (3#32).getLsbD n = false := by decide +kernel
      exact key n g h
    · exact BitVec.getLsbD_of_ge _ _ (by omega)
theorem own_putb (p v : BitVec 32) (hv : ∀ n, 2 ≤ n → v.getLsbD n = false) {j k : Nat} (hj : j < 16) (hk : k < 16) :
    (((p &&& ((3#32 <<< (2 * k)) ^^^ (BitVec.allOnes 32))) ||| (v <<< (2 * k))) >>> (2 * j)) &&& 3#32 = if j = k then v else (p >>> (2 * j)) &&& 3#32 := by
  apply BitVec.eq_of_getLsbD_eq
  intro i hi
  rw [BitVec.getLsbD_and, BitVec.getLsbD_ushiftRight, BitVec.getLsbD_or, BitVec.getLsbD_and, BitVec.getLsbD_xor, BitVec.getLsbD_shiftLeft, BitVec.getLsbD_shiftLeft, own_b3, own_b3, BitVec.getLsbD_allOnes]
  by_cases h2 : i < 2
  · have e : 2 * j + i < 32 := by omega
    by_cases hjk : j = k
    · subst hjk
      rw [if_pos rfl]
      have e1 : 2 * j + i - 2 * j = i := by omega
      have e2 : ¬ 2 * j + i < 2 * j := by omega
      simp [e, e1, h2, e2]
    · rw [if_neg hjk, BitVec.getLsbD_and, BitVec.getLsbD_ushiftRight, own_b3]
      by_cases hlt : 2 * j + i < 2 * k
      · simp [e, h2, hlt]
      · have e3 : ¬ 2 * j + i - 2 * k < 2 := by omega
        have e4 : v.getLsbD (2 * j + i - 2 * k) = false := hv _ (by omega)
        simp [e, h2, hlt, e3, e4]
  · rw [decide_eq_false h2, Bool.and_false]
    by_cases hjk : j = k
    · rw [if_pos hjk, hv i (by omega)]
    · rw [if_neg hjk, BitVec.getLsbD_and, own_b3, decide_eq_false h2, Bool.and_false]
theorem own_put (p v : Int32) (v0 : 0 ≤ v.toInt) (v3 : v.toInt < 4) {j k : Nat} (hj : j < 16) (hk : k < 16) :
    (XT.ushr ((p &&& (((3 : Int32) <<< (((2 : Int32) * Int32.ofNat k) &&& 31)) ^^^ (-1 : Int32))) ||| (v <<< (((2 : Int32) * Int32.ofNat k) &&& 31))) (2 * Int32.ofNat j)) &&& 3 = if j = k then v else (XT.ushr p (2 * Int32.ofNat j)) &&& 3 := by
  have hv : ∀ n, 2 ≤ n → v.toBitVec.getLsbD n = false := by
    intro n hn
    have key : ∀ m : Nat, m < 4 → ∀ n : Nat, n < 32 → 2 ≤ n → (Int32.ofNat m).toBitVec.getLsbD n = false := by decide +kernel
    by_cases g : n < 32
    · have e := key v.toInt.toNat (by omega) n g hn
      have h : Int32.ofNat v.toInt.toNat = v := by rw [ieq, Int32.toInt_ofNat_of_lt (by omega)]; omega
      rw [h] at e
      exact e
    · exact BitVec.getLsbD_of_ge _ _ (by omega)
  have b := own_putb p.toBitVec v.toBitVec hv hj hk
  apply Int32.toBitVec_inj.mp
  rw [Int32.toBitVec_and, own_us _ hj, Int32.toBitVec_or, Int32.toBitVec_and, Int32.toBitVec_xor, own_sl _ hk, own_sl _ hk]
  refine Eq.trans b ?_
  split
  · rfl
  · rw [Int32.toBitVec_and, own_us _ hj]; rfl
theorem own_ini : f_init 4 2 4 9 = some (List.replicate 256 0, List.replicate 400 0, List.replicate 512 0, List.replicate 256 0, List.replicate 16 0, List.replicate 256 0, List.replicate 512 0, List.replicate 512 0, List.replicate 512 0, List.replicate 512 0, List.replicate 512 0, List.replicate 512 0, List.replicate 512 0, List.replicate 512 0, 4, 2, 8, 4, 2, 4, 9, 512, 0, 255, 0, 0, 0, 1, 0, 0, 0, 0, 0, 0, 0, 0, 0) := by
  rfl
def own_px (p : Int32) (j : Nat) : Int32 := (XT.ushr p (2 * Int32.ofNat j)) &&& 3
abbrev own_S (PX OUT IN DX RO SB D FC NS CP PF SF FP SL : List Int32) (B OL IL hd st pix : Int32) : Prop := (own_R 4 PX) ∧ (PX.length = 256) ∧ (own_R 256 OUT) ∧ (OUT.length = 400) ∧ (own_R 256 IN) ∧ (IN.length = 512) ∧ (own_R 4 DX) ∧ (DX.length = 256) ∧ (RO.length = 16) ∧ (D.length = 512) ∧ (FC.length = 512) ∧ (NS.length = 512) ∧ (CP.length = 512) ∧ (own_T 4 4 SB PF SF FP SL) ∧ (4 ≤ B.toInt) ∧ (B.toInt ≤ 255) ∧ (0 ≤ IL.toInt) ∧ (IL.toInt ≤ 512) ∧ (0 ≤ OL.toInt) ∧ (OL.toInt ≤ 9) ∧ ((st = 0 ∧ hd = 1) ∨ (¬ st = 0 ∧ hd = 0)) ∧ (∀ j : Nat, j < 8 → gI PX (Int32.ofNat j) = own_px pix j)
theorem own_S.rP {PX OUT IN DX RO SB D FC NS CP PF SF FP SL : List Int32} {B OL IL hd st pix : Int32} (self : own_S PX OUT IN DX RO SB D FC NS CP PF SF FP SL B OL IL hd st pix) : own_R 4 PX := self.1
theorem own_S.lP {PX OUT IN DX RO SB D FC NS CP PF SF FP SL : List Int32} {B OL IL hd st pix : Int32} (self : own_S PX OUT IN DX RO SB D FC NS CP PF SF FP SL B OL IL hd st pix) : PX.length = 256 := self.2.1
theorem own_S.rO {PX OUT IN DX RO SB D FC NS CP PF SF FP SL : List Int32} {B OL IL hd st pix : Int32} (self : own_S PX OUT IN DX RO SB D FC NS CP PF SF FP SL B OL IL hd st pix) : own_R 256 OUT := self.2.2.1
theorem own_S.lO {PX OUT IN DX RO SB D FC NS CP PF SF FP SL : List Int32} {B OL IL hd st pix : Int32} (self : own_S PX OUT IN DX RO SB D FC NS CP PF SF FP SL B OL IL hd st pix) : OUT.length = 400 := self.2.2.2.1
theorem own_S.rI {PX OUT IN DX RO SB D FC NS CP PF SF FP SL : List Int32} {B OL IL hd st pix : Int32} (self : own_S PX OUT IN DX RO SB D FC NS CP PF SF FP SL B OL IL hd st pix) : own_R 256 IN := self.2.2.2.2.1
theorem own_S.lI {PX OUT IN DX RO SB D FC NS CP PF SF FP SL : List Int32} {B OL IL hd st pix : Int32} (self : own_S PX OUT IN DX RO SB D FC NS CP PF SF FP SL B OL IL hd st pix) : IN.length = 512 := self.2.2.2.2.2.1
theorem own_S.rX {PX OUT IN DX RO SB D FC NS CP PF SF FP SL : List Int32} {B OL IL hd st pix : Int32} (self : own_S PX OUT IN DX RO SB D FC NS CP PF SF FP SL B OL IL hd st pix) : own_R 4 DX := self.2.2.2.2.2.2.1
theorem own_S.lX {PX OUT IN DX RO SB D FC NS CP PF SF FP SL : List Int32} {B OL IL hd st pix : Int32} (self : own_S PX OUT IN DX RO SB D FC NS CP PF SF FP SL B OL IL hd st pix) : DX.length = 256 := self.2.2.2.2.2.2.2.1
theorem own_S.lR {PX OUT IN DX RO SB D FC NS CP PF SF FP SL : List Int32} {B OL IL hd st pix : Int32} (self : own_S PX OUT IN DX RO SB D FC NS CP PF SF FP SL B OL IL hd st pix) : RO.length = 16 := self.2.2.2.2.2.2.2.2.1
theorem own_S.lD {PX OUT IN DX RO SB D FC NS CP PF SF FP SL : List Int32} {B OL IL hd st pix : Int32} (self : own_S PX OUT IN DX RO SB D FC NS CP PF SF FP SL B OL IL hd st pix) : D.length = 512 := self.2.2.2.2.2.2.2.2.2.1
theorem own_S.lF {PX OUT IN DX RO SB D FC NS CP PF SF FP SL : List Int32} {B OL IL hd st pix : Int32} (self : own_S PX OUT IN DX RO SB D FC NS CP PF SF FP SL B OL IL hd st pix) : FC.length = 512 := self.2.2.2.2.2.2.2.2.2.2.1
theorem own_S.lN {PX OUT IN DX RO SB D FC NS CP PF SF FP SL : List Int32} {B OL IL hd st pix : Int32} (self : own_S PX OUT IN DX RO SB D FC NS CP PF SF FP SL B OL IL hd st pix) : NS.length = 512 := self.2.2.2.2.2.2.2.2.2.2.2.1
theorem own_S.lC {PX OUT IN DX RO SB D FC NS CP PF SF FP SL : List Int32} {B OL IL hd st pix : Int32} (self : own_S PX OUT IN DX RO SB D FC NS CP PF SF FP SL B OL IL hd st pix) : CP.length = 512 := self.2.2.2.2.2.2.2.2.2.2.2.2.1
theorem own_S.t {PX OUT IN DX RO SB D FC NS CP PF SF FP SL : List Int32} {B OL IL hd st pix : Int32} (self : own_S PX OUT IN DX RO SB D FC NS CP PF SF FP SL B OL IL hd st pix) : own_T 4 4 SB PF SF FP SL := self.2.2.2.2.2.2.2.2.2.2.2.2.2.1
theorem own_S.b0 {PX OUT IN DX RO SB D FC NS CP PF SF FP SL : List Int32} {B OL IL hd st pix : Int32} (self : own_S PX OUT IN DX RO SB D FC NS CP PF SF FP SL B OL IL hd st pix) : 4 ≤ B.toInt := self.2.2.2.2.2.2.2.2.2.2.2.2.2.2.1
theorem own_S.b1 {PX OUT IN DX RO SB D FC NS CP PF SF FP SL : List Int32} {B OL IL hd st pix : Int32} (self : own_S PX OUT IN DX RO SB D FC NS CP PF SF FP SL B OL IL hd st pix) : B.toInt ≤ 255 := self.2.2.2.2.2.2.2.2.2.2.2.2.2.2.2.1
theorem own_S.i0 {PX OUT IN DX RO SB D FC NS CP PF SF FP SL : List Int32} {B OL IL hd st pix : Int32} (self : own_S PX OUT IN DX RO SB D FC NS CP PF SF FP SL B OL IL hd st pix) : 0 ≤ IL.toInt := self.2.2.2.2.2.2.2.2.2.2.2.2.2.2.2.2.1
theorem own_S.i1 {PX OUT IN DX RO SB D FC NS CP PF SF FP SL : List Int32} {B OL IL hd st pix : Int32} (self : own_S PX OUT IN DX RO SB D FC NS CP PF SF FP SL B OL IL hd st pix) : IL.toInt ≤ 512 := self.2.2.2.2.2.2.2.2.2.2.2.2.2.2.2.2.2.1
theorem own_S.o0 {PX OUT IN DX RO SB D FC NS CP PF SF FP SL : List Int32} {B OL IL hd st pix : Int32} (self : own_S PX OUT IN DX RO SB D FC NS CP PF SF FP SL B OL IL hd st pix) : 0 ≤ OL.toInt := self.2.2.2.2.2.2.2.2.2.2.2.2.2.2.2.2.2.2.1
theorem own_S.o1 {PX OUT IN DX RO SB D FC NS CP PF SF FP SL : List Int32} {B OL IL hd st pix : Int32} (self : own_S PX OUT IN DX RO SB D FC NS CP PF SF FP SL B OL IL hd st pix) : OL.toInt ≤ 9 := self.2.2.2.2.2.2.2.2.2.2.2.2.2.2.2.2.2.2.2.1
theorem own_S.s {PX OUT IN DX RO SB D FC NS CP PF SF FP SL : List Int32} {B OL IL hd st pix : Int32} (self : own_S PX OUT IN DX RO SB D FC NS CP PF SF FP SL B OL IL hd st pix) : (st = 0 ∧ hd = 1) ∨ (¬ st = 0 ∧ hd = 0) := self.2.2.2.2.2.2.2.2.2.2.2.2.2.2.2.2.2.2.2.2.1
theorem own_S.q {PX OUT IN DX RO SB D FC NS CP PF SF FP SL : List Int32} {B OL IL hd st pix : Int32} (self : own_S PX OUT IN DX RO SB D FC NS CP PF SF FP SL B OL IL hd st pix) : ∀ j : Nat, j < 8 → gI PX (Int32.ofNat j) = own_px pix j := self.2.2.2.2.2.2.2.2.2.2.2.2.2.2.2.2.2.2.2.2.2
theorem own_kk : own_K 4 2 8 4 2 4 9 512 := by
  refine ⟨?_, ?_, ?_, ?_, ?_, ?_, ?_, ?_, ?_, ?_, ?_, ?_, ?_⟩ <;> decide
theorem own_md (x m : Int32) (h : 0 < m.toInt) : 0 ≤ ((x &&& 2147483647) % m).toInt ∧ ((x &&& 2147483647) % m).toInt < m.toInt := by
  have r := iand_rng x 2147483647 (by decide)
  have e : ((x &&& 2147483647) % m).toInt = (x &&& 2147483647).toInt % m.toInt := by
    rw [Int32.toInt_mod, Int.tmod_eq_emod_of_nonneg r.1]
  rw [e]
  exact ⟨Int.emod_nonneg _ (by omega), Int.emod_lt_of_pos _ h⟩
theorem own_fill46 (v1 v2 v3 : Int32) (hv0 : 0 ≤ v3.toInt) (hv1 : v3.toInt < 4) (hs : (v1 + v2).toInt ≤ 8) : ∀ (n : Nat) (PX : List Int32) (v4 : Int32), own_R 4 PX → PX.length = 256 → 0 ≤ v4.toInt → v4.toInt ≤ 9 → 10 - v4.toInt ≤ n → Tot (f_fill_46 8 4 n PX v1 v2 v3 v4) (fun p => p.1 = 1 ∧ own_R 4 p.2 ∧ p.2.length = 256 ∧ ∀ j : Int32, 0 ≤ j.toInt → gI p.2 j = if v4.toInt ≤ j.toInt ∧ j.toInt < (v1 + v2).toInt then v3 else gI PX j) := by
  intro n
  have e256 : (256 : Int32).toInt = 256 := rfl
  induction n with
  | zero => intro PX v4 a1 a2 a3 a4 a5; omega
  | succ n ih =>
    intro PX v4 a1 a2 a3 a4 a5
    have p := own_p1 (a := v4) (by omega)
    unfold f_fill_46
    refine own_iL (fun c => own_iL (fun c1 => ?_) (fun c1 => absurd c1 (by omega))) (fun c => ?_)
    · rw [wrA_in a3 (by omega)]
      refine own_bs ?_
      refine Tot.mono (ih (PX.set v4.toInt.toNat v3) (v4 + 1) (own_Rs a1 hv0 hv1) (by rw [List.length_set]; exact a2) (by omega) (by omega) (by omega)) ?_
      rintro ⟨r, PX'⟩ ⟨g1, g2, g3, g4⟩
      refine ⟨g1, g2, g3, ?_⟩
      intro j j0
      rw [g4 j j0, gset a3 (by omega) j0]
      by_cases h : v4 = j
      · rw [if_pos h, ite_self]
        have h' := ieq.mp h
        rw [if_pos (by omega)]
      · rw [if_neg h]
        rw [ieq] at h
        by_cases g : (v4 + 1).toInt ≤ j.toInt ∧ j.toInt < (v1 + v2).toInt
        · rw [if_pos g, if_pos (by omega)]
        · rw [if_neg g, if_neg (by omega)]
    · refine Tot.mk ⟨rfl, a1, a2, ?_⟩
      intro j j0
      rw [if_neg (by omega)]
theorem own_pxj {p : Int32} {j : Int32} (h0 : 0 ≤ j.toInt) : own_px p j.toInt.toNat = (XT.ushr p (2 * j)) &&& 3 := by
  unfold own_px
  rw [← own_of h0]
theorem own_pput (p v k : Int32) (v0 : 0 ≤ v.toInt) (v3 : v.toInt < 4) (k0 : 0 ≤ k.toInt) (k1 : k.toInt < 8) : Tot (f_L_put p k v) (fun p' => ∀ j : Nat, j < 8 → own_px p' j = if j = k.toInt.toNat then v else own_px p j) := by
  unfold f_L_put
  refine Tot.mk ?_
  intro j hj
  have q := own_put p v v0 v3 (j := j) (k := k.toInt.toNat) (by omega) (by omega)
  rw [← own_of k0] at q
  exact q
theorem own_loop (scr : List Int32) (h : scr.length ≤ 260) (v6 : Int32) (hv6 : 4 * v6.toInt ≤ scr.length) : ∀ (n : Nat) (PX OUT IN DX RO SB D FC NS CP PF SF FP SL : List Int32) (I B OL IL hd st bp EW EN DL rp DW DN DP DC pix v7 : Int32), own_S PX OUT IN DX RO SB D FC NS CP PF SF FP SL B OL IL hd st pix → 0 ≤ v7.toInt → v7.toInt ≤ 300 → 310 - v7.toInt ≤ n →
    Tot (f_L_law_32 scr n PX OUT IN DX RO SB D FC NS CP PF SF FP SL 4 2 8 4 2 4 9 512 I B OL IL hd st bp EW EN DL rp DW DN DP DC pix IL OL st v6 v7) (fun r => r = 1) := by
  intro n
  have e0 : (0 : Int32).toInt = 0 := rfl
  have e1 : (1 : Int32).toInt = 1 := rfl
  have e2 : (2 : Int32).toInt = 2 := rfl
  have e3 : (3 : Int32).toInt = 3 := rfl
  have e4 : (4 : Int32).toInt = 4 := rfl
  have e5 : (5 : Int32).toInt = 5 := rfl
  have e8 : (8 : Int32).toInt = 8 := rfl
  have e9 : (9 : Int32).toInt = 9 := rfl
  have em8 : (-8 : Int32).toInt = -8 := rfl
  have e255 : (255 : Int32).toInt = 255 := rfl
  have e300 : (300 : Int32).toInt = 300 := rfl
  have e512 : (512 : Int32).toInt = 512 := rfl
  induction n with
  | zero => intro PX OUT IN DX RO SB D FC NS CP PF SF FP SL I B OL IL hd st bp EW EN DL rp DW DN DP DC pix v7 s a b c; omega
  | succ n ih =>
    intro PX OUT IN DX RO SB D FC NS CP PF SF FP SL I B OL IL hd st bp EW EN DL rp DW DN DP DC pix v7 s a b c
    have p7 := own_p1 (a := v7) (by omega)
    unfold f_L_law_32
    refine own_iL (fun cl => ?_) (fun _ => Tot.mk rfl)
    have q0 : (4 * v7).toInt = 4 * v7.toInt := by ((try simp only [ilt, ile, ieq, iadd_e, isub_e, imul_e, Int32.reduceToInt] at *) <;> omega)
    have q1 : (4 * v7 + 1).toInt = 4 * v7.toInt + 1 := by ((try simp only [ilt, ile, ieq, iadd_e, isub_e, imul_e, Int32.reduceToInt] at *) <;> omega)
    have q2 : (4 * v7 + 2).toInt = 4 * v7.toInt + 2 := by ((try simp only [ilt, ile, ieq, iadd_e, isub_e, imul_e, Int32.reduceToInt] at *) <;> omega)
    have q3 : (4 * v7 + 3).toInt = 4 * v7.toInt + 3 := by ((try simp only [ilt, ile, ieq, iadd_e, isub_e, imul_e, Int32.reduceToInt] at *) <;> omega)
    have k702 : ∀ (PX OUT IN DX RO SB D FC NS CP PF SF FP SL : List Int32) (I B OL IL hd st bp EW EN DL rp DW DN DP DC pix : Int32), own_S PX OUT IN DX RO SB D FC NS CP PF SF FP SL B OL IL hd st pix → Tot (f_L_law_702 (f_L_law_32 scr n) scr PX OUT IN DX RO SB D FC NS CP PF SF FP SL 4 2 8 4 2 4 9 512 I B OL IL hd st bp EW EN DL rp DW DN DP DC pix IL OL st v6 v7) (fun r => r = 1) := by
      intro PX OUT IN DX RO SB D FC NS CP PF SF FP SL I B OL IL hd st bp EW EN DL rp DW DN DP DC pix s
      have k767 : Tot (f_L_law_767 (f_L_law_32 scr n) scr PX OUT IN DX RO SB D FC NS CP PF SF FP SL 4 2 8 4 2 4 9 512 I B OL IL hd st bp EW EN DL rp DW DN DP DC pix IL OL st v6 v7) (fun r => r = 1) := by
        have so0 := s.o0
        unfold f_L_law_767 f_getPixel f_getOutByte
        rw [if_neg (show ¬ (8 : Int32) < 0 by decide), if_neg (show ¬ (8 : Int32) < 8 by decide)]
        refine own_bs ?_
        rw [if_pos rfl, if_pos (show (-1 : Int32) < 0 by decide)]
        refine own_bs ?_
        rw [if_pos rfl, if_neg (show ¬ OL < 0 by rw [ilt]; omega), if_neg (show ¬ OL < OL by rw [ilt]; omega)]
        refine own_bs ?_
        rw [if_pos rfl]
        exact ih _ _ _ _ _ _ _ _ _ _ _ _ _ _ _ _ _ _ _ _ _ _ _ _ _ _ _ _ _ _ _ s (by omega) (by omega) (by omega)
      have k735 : ∀ (m : Nat) (v12 : Int32), 0 ≤ v12.toInt → v12.toInt ≤ 8 → 9 - v12.toInt ≤ m → Tot (f_L_law_735 (f_L_law_767 (f_L_law_32 scr n) scr) scr m PX OUT IN DX RO SB D FC NS CP PF SF FP SL 4 2 8 4 2 4 9 512 I B OL IL hd st bp EW EN DL rp DW DN DP DC pix IL OL st v6 v7 v12) (fun r => r = 1) := by
        intro m
        have lP := s.lP
        induction m with
        | zero => intro v12 d1 d2 d3; omega
        | succ m ihm =>
          intro v12 d1 d2 d3
          have p := own_p1 (a := v12) (by omega)
          unfold f_L_law_735 f_getPixel
          refine own_iL (fun c1 => ?_) (fun _ => k767)
          rw [if_neg (show ¬ v12 < 0 by rw [ilt]; omega), if_pos (show v12 < 8 by rw [ilt]; omega), rdg d1 (by omega)]
          refine own_bs ?_
          have g := s.q v12.toInt.toNat (by omega)
          rw [← own_of d1, own_pxj d1] at g
          rw [if_pos g]
          exact ihm _ (by omega) (by omega) (by omega)
      unfold f_L_law_702 f_getInLength f_getOutLength f_getStatus
      refine own_bs ?_
      rw [if_pos rfl]
      refine own_bs ?_
      rw [if_pos rfl]
      refine own_bs ?_
      rw [if_pos rfl]
      exact k735 100000 0 (by omega) (by omega) (by omega)
    refine Tot.rd (by omega) (by omega) fun x0 _ => ?_
    refine Tot.rd (by omega) (by omega) fun x1 _ => ?_
    refine Tot.rd (by omega) (by omega) fun x2 _ => ?_
    refine Tot.rd (by omega) (by omega) fun x3 _ => ?_
    have s' := s
    obtain ⟨rP, lP, rO, lO, rI, lI, rX, lX, lR, lD, lF, lN, lC, t, b0, b1, i0, i1, o0, o1, ss, q⟩ := s
    refine own_iE (fun _ => ?_) (fun _ => ?_)
    · unfold f_L_law_111 f_setInterlaced
      have hz : (if ((x1 &&& (2147483647 : Int32)) &&& (1 : Int32)) = (1 : Int32) then (1 : Int32) else (0 : Int32)) = 0 ∨ (if ((x1 &&& (2147483647 : Int32)) &&& (1 : Int32)) = (1 : Int32) then (1 : Int32) else (0 : Int32)) = 1 := by
        split
        · exact Or.inr rfl
        · exact Or.inl rfl
      rw [if_pos hz]
      exact k702 _ _ _ _ _ _ _ _ _ _ _ _ _ _ _ _ _ _ _ _ _ _ _ _ _ _ _ _ _ _ s'
    refine own_iE (fun _ => ?_) (fun _ => ?_)
    · have hs : ∀ z : Int32, 4 ≤ (if z < 4 then (4 : Int32) else if 255 < z then 255 else z).toInt ∧ (if z < 4 then (4 : Int32) else if 255 < z then 255 else z).toInt ≤ 255 := by
        intro z
        split
        · decide
        · split
          · decide
          · rename_i q1 q2
            rw [ilt] at q1 q2
            omega
      have hs' := hs (((x1 &&& (2147483647 : Int32)) % (300 : Int32)) - (20 : Int32))
      unfold f_L_law_160 f_setBlockSize f_clamp
      generalize (if (((x1 &&& (2147483647 : Int32)) % (300 : Int32)) - (20 : Int32)) < (4 : Int32) then (4 : Int32) else (if (255 : Int32) < (((x1 &&& (2147483647 : Int32)) % (300 : Int32)) - (20 : Int32)) then (255 : Int32) else (((x1 &&& (2147483647 : Int32)) % (300 : Int32)) - (20 : Int32)))) = sz at hs' ⊢
      show Tot (if sz = sz then _ else _) _
      rw [if_pos rfl]
      exact k702 _ _ _ _ _ _ _ _ _ _ _ _ _ _ _ _ _ _ _ _ _ _ _ _ _ _ _ _ _ _ ⟨rP, lP, rO, lO, rI, lI, rX, lX, lR, lD, lF, lN, lC, t, hs'.1, hs'.2, i0, i1, o0, o1, ss, q⟩
    refine own_iE (fun _ => ?_) (fun _ => ?_)
    · have m1 := own_md x1 9 (by decide)
      have m2 := own_md x2 5 (by decide)
      generalize ((x1 &&& 2147483647) % 9) = ix at m1 ⊢
      generalize ((x2 &&& 2147483647) % 5) = vv at m2 ⊢
      unfold f_L_law_219 f_setPixel
      rw [if_neg (show ¬ ix < 0 by rw [ilt]; omega)]
      by_cases h1 : ix < 8
      · rw [if_pos h1, if_neg (show ¬ vv < 0 by rw [ilt]; omega), if_pos h1]
        by_cases h2 : vv < 4
        · rw [if_pos h2, if_pos h2]
          rw [ilt] at h1 h2
          rw [wrA_in m1.1 (by omega), Option.bind_some, Option.bind_some]
          show Tot (if (1 : Int32) = 1 then _ else _) _
          rw [if_pos rfl, if_neg (by decide)]
          refine Tot.bind (own_pput pix vv ix m2.1 h2 m1.1 h1) fun p' hp' => ?_
          refine k702 _ _ _ _ _ _ _ _ _ _ _ _ _ _ _ _ _ _ _ _ _ _ _ _ _ _ _ _ _ _ ⟨own_Rs rP m2.1 h2, by rw [List.length_set]; exact lP, rO, lO, rI, lI, rX, lX, lR, lD, lF, lN, lC, t, b0, b1, i0, i1, o0, o1, ss, ?_⟩
          intro j hj
          have ej : (Int32.ofNat j).toInt = j := Int32.toInt_ofNat_of_lt (by omega)
          rw [hp' j hj, gset m1.1 (by omega) (by omega), q j hj]
          by_cases hh : j = ix.toInt.toNat
          · rw [if_pos hh, if_pos (by rw [ieq]; omega)]
          · rw [if_neg hh, if_neg (by rw [ieq]; omega)]
        · rw [if_neg h2, if_neg h2]
          refine own_bs ?_
          show Tot (if (0 : Int32) = 0 then _ else _) _
          rw [if_pos rfl, if_pos rfl]
          exact k702 _ _ _ _ _ _ _ _ _ _ _ _ _ _ _ _ _ _ _ _ _ _ _ _ _ _ _ _ _ _ s'
      · rw [if_neg h1, if_neg h1]
        refine own_bs ?_
        show Tot (if (0 : Int32) = 0 then _ else _) _
        rw [if_pos rfl, if_pos rfl]
        exact k702 _ _ _ _ _ _ _ _ _ _ _ _ _ _ _ _ _ _ _ _ _ _ _ _ _ _ _ _ _ _ s'
    refine own_iE (fun _ => ?_) (fun _ => ?_)
    · have m1 := own_md x1 9 (by decide)
      have m2 := own_md x2 9 (by decide)
      have m3 := own_md x3 5 (by decide)
      generalize ((x1 &&& 2147483647) % 9) = sx at m1 ⊢
      generalize ((x2 &&& 2147483647) % 9) = cn at m2 ⊢
      generalize ((x3 &&& 2147483647) % 5) = vv at m3 ⊢
      have N0 : ∀ PX', PX' = PX → Tot ((some ((0 : Int32), PX')).bind fun x => (fun (r238, s239) =>
  if r238 = (0 : Int32) then
    if (0 : Int32) = (0 : Int32) then
      f_L_law_702 (f_L_law_32 scr n) scr s239 OUT IN DX RO SB D FC NS CP PF SF FP SL 4 2 8 4 2 4 9 512 I B OL IL hd st bp EW EN DL rp DW DN DP DC pix IL OL st v6 v7
    else
      f_L_law_349 (f_L_law_702 (f_L_law_32 scr n) scr) scr 100000 s239 OUT IN DX RO SB D FC NS CP PF SF FP SL 4 2 8 4 2 4 9 512 I B OL IL hd st bp EW EN DL rp DW DN DP DC pix IL OL st v6 v7 sx cn vv sx
  else
    some (0 : Int32)) x) (fun r => r = 1) := by
        intro PX' e
        subst e
        refine own_bs ?_
        show Tot (if (0 : Int32) = 0 then _ else _) _
        rw [if_pos rfl, if_pos rfl]
        exact k702 _ _ _ _ _ _ _ _ _ _ _ _ _ _ _ _ _ _ _ _ _ _ _ _ _ _ _ _ _ _ s'
      unfold f_L_law_317 f_fill
      rw [if_neg (show ¬ vv < 0 by rw [ilt]; omega)]
      by_cases h1 : vv < 4
      · rw [if_pos h1, if_pos h1, if_neg (show ¬ sx < 0 by rw [ilt]; omega)]
        by_cases h2 : sx < 8
        · rw [if_pos h2, if_pos h2]
          by_cases h3 : cn < 1
          · rw [if_pos h3, if_pos h3]
            exact N0 PX rfl
          · rw [if_neg h3, if_neg h3]
            by_cases h4 : 8 - sx < cn
            · rw [if_pos h4, if_pos h4]
              exact N0 PX rfl
            · rw [if_neg h4, if_neg h4]
              rw [ilt] at h1 h2 h3 h4
              have d1 : (8 - sx).toInt = 8 - sx.toInt := by rw [isub_i (by omega) (by omega), e8]
              have d2 : (sx + cn).toInt = sx.toInt + cn.toInt := iadd_i (by omega) (by omega)
              refine Tot.bind (own_fill46 sx cn vv m3.1 h1 (by omega) 100000 PX sx rP lP m1.1 (by omega) (by omega)) ?_
              rintro ⟨r, PX'⟩ ⟨g1, g2, g3, g4⟩
              have g1' : r = 1 := g1
              subst g1'
              show Tot (if (1 : Int32) = 1 then _ else _) _
              rw [if_pos rfl, if_neg (by decide)]
              have key : ∀ (m : Nat) (p' v17 : Int32), sx.toInt ≤ v17.toInt → v17.toInt ≤ 8 → 9 - v17.toInt ≤ m → (∀ j : Nat, j < 8 → own_px p' j = if sx.toInt ≤ j ∧ (j : Int) < v17.toInt ∧ (j : Int) < (sx + cn).toInt then vv else own_px pix j) → Tot (f_L_law_349 (f_L_law_702 (f_L_law_32 scr n) scr) scr m PX' OUT IN DX RO SB D FC NS CP PF SF FP SL 4 2 8 4 2 4 9 512 I B OL IL hd st bp EW EN DL rp DW DN DP DC p' IL OL st v6 v7 sx cn vv v17) (fun r => r = 1) := by
                intro m
                induction m with
                | zero => intro p' v17 f1 f2 f3; omega
                | succ m ihm =>
                  intro p' v17 f1 f2 f3 f4
                  have p := own_p1 (a := v17) (by omega)
                  unfold f_L_law_349
                  refine own_iL (fun c1 => ?_) (fun c1 => ?_)
                  · refine Tot.bind (own_pput p' vv v17 m3.1 h1 (by omega) (by omega)) fun p2 hp2 => ?_
                    refine ihm p2 _ (by omega) (by omega) (by omega) ?_
                    intro j hj
                    rw [hp2 j hj]
                    by_cases hh : j = v17.toInt.toNat
                    · rw [if_pos hh, if_pos (by omega)]
                    · rw [if_neg hh, f4 j hj]
                      by_cases gg : sx.toInt ≤ j ∧ (j : Int) < v17.toInt ∧ (j : Int) < (sx + cn).toInt
                      · rw [if_pos gg, if_pos (by omega)]
                      · rw [if_neg gg, if_neg (by omega)]
                  · refine k702 _ _ _ _ _ _ _ _ _ _ _ _ _ _ _ _ _ _ _ _ _ _ _ _ _ _ _ _ _ _ ⟨g2, g3, rO, lO, rI, lI, rX, lX, lR, lD, lF, lN, lC, t, b0, b1, i0, i1, o0, o1, ss, ?_⟩
                    intro j hj
                    have ej : (Int32.ofNat j).toInt = j := Int32.toInt_ofNat_of_lt (by omega)
                    have g5 := g4 (Int32.ofNat j) (by omega)
                    rw [ej, q j hj] at g5
                    refine Eq.trans g5 ?_
                    rw [f4 j hj]
                    by_cases gg : sx.toInt ≤ j ∧ (j : Int) < (sx + cn).toInt
                    · rw [if_pos gg, if_pos (by omega)]
                    · rw [if_neg gg, if_neg (by omega)]
              refine key 100000 pix sx (by omega) (by omega) (by omega) ?_
              intro j hj
              rw [if_neg (by omega)]
        · rw [if_neg h2, if_neg h2]
          exact N0 PX rfl
      · rw [if_neg h1, if_neg h1]
        exact N0 PX rfl
    refine own_iE (fun _ => ?_) (fun _ => ?_)
    · refine Tot.bind (own_enc own_kk b0 b1 rP lP lO rO lR t.rS t.lS lD lF lN lC OL bp EW EN) ?_
      rintro ⟨r, O, RO', SB', D', FC', NS', CP', N, bp', EW', EN'⟩ ⟨g1, g2, g3, g4, g5, g6, g7, g8, g9, g10, g11, g12, g13, g14, g15, g16⟩
      have g1' : r = N := g1
      have g2' : O.length = 400 := g2
      have g4' : gI O 0 = 2 := g4
      have g5' : 5 ≤ N.toInt := g5
      have g7' : gI O (N - 1) = 0 := g7
      have g8' : 2 ≤ (gI O 1).toInt := g8
      have g9' : N.toInt ≤ 9 ∧ (gI O 1).toInt ≤ 5 := g9.resolve_left (by decide)
      subst g1'
      have pm := own_m1 (a := r) (by omega)
      show Tot (if r < 5 then _ else _) _
      rw [if_neg (show ¬ r < 5 by rw [ilt]; omega), if_neg (show ¬ 9 < r by rw [ilt]; omega)]
      unfold f_getOutByte
      rw [if_neg (show ¬ (0 : Int32) < 0 by decide), if_pos (show 0 < r by rw [ilt]; omega), rdg (by omega) (by omega), g4']
      rw [Option.bind_some, Option.bind_some]
      rw [if_pos rfl, if_neg (show ¬ r - 1 < 0 by rw [ilt]; omega), if_pos (show r - 1 < r by rw [ilt]; omega), rdg (by omega) (by omega), g7']
      rw [Option.bind_some, Option.bind_some]
      rw [if_pos rfl, if_neg (show ¬ (1 : Int32) < 0 by decide), if_pos (show 1 < r by rw [ilt]; omega), rdg (by omega) (by omega)]
      rw [Option.bind_some, Option.bind_some]
      rw [if_neg (show ¬ gI O 1 < 2 by rw [ilt]; omega), if_neg (show ¬ 5 < gI O 1 by rw [ilt]; omega)]
      exact k702 _ _ _ _ _ _ _ _ _ _ _ _ _ _ _ _ _ _ _ _ _ _ _ _ _ _ _ _ _ _ ⟨rP, lP, g3, g2, rI, lI, rX, lX, g10, g13, g14, g15, g16, t.sb ⟨g11, g12⟩, b0, b1, i0, i1, by omega, by omega, ss, q⟩
    refine own_iE (fun _ => ?_) (fun _ => ?_)
    · unfold f_clearInput
      refine own_bs ?_
      exact k702 _ _ _ _ _ _ _ _ _ _ _ _ _ _ _ _ _ _ _ _ _ _ _ _ _ _ _ _ _ _ ⟨rP, lP, rO, lO, rI, lI, rX, lX, lR, lD, lF, lN, lC, t, b0, b1, by omega, by omega, o0, o1, ss, q⟩
    refine own_iE (fun _ => ?_) (fun _ => ?_)
    · have m1 := own_md x1 300 (by decide)
      generalize ((x1 &&& 2147483647) % 300) = vv at m1 ⊢
      unfold f_L_law_504 f_putInByte
      rw [if_neg (show ¬ vv < 0 by rw [ilt]; omega)]
      by_cases h1 : 255 < vv
      · rw [if_pos h1, if_pos h1]
        refine own_bs ?_
        show Tot (if (0 : Int32) = 0 then _ else _) _
        rw [if_pos rfl, if_pos rfl]
        exact k702 _ _ _ _ _ _ _ _ _ _ _ _ _ _ _ _ _ _ _ _ _ _ _ _ _ _ _ _ _ _ s'
      · rw [if_neg h1, if_neg h1]
        by_cases h2 : IL < 512
        · rw [if_pos h2, if_pos h2]
          rw [ilt] at h1 h2
          have pI := own_p1 (a := IL) (by omega)
          rw [wrA_in i0 (by omega), Option.bind_some, Option.bind_some]
          show Tot (if (1 : Int32) = 1 then _ else _) _
          rw [if_pos rfl, if_neg (by decide)]
          exact k702 _ _ _ _ _ _ _ _ _ _ _ _ _ _ _ _ _ _ _ _ _ _ _ _ _ _ _ _ _ _ ⟨rP, lP, rO, lO, own_Rs rI m1.1 (by omega), by rw [List.length_set]; exact lI, rX, lX, lR, lD, lF, lN, lC, t, b0, b1, by omega, by omega, o0, o1, ss, q⟩
        · rw [if_neg h2, if_neg h2]
          refine own_bs ?_
          show Tot (if (0 : Int32) = 0 then _ else _) _
          rw [if_pos rfl, if_pos rfl]
          exact k702 _ _ _ _ _ _ _ _ _ _ _ _ _ _ _ _ _ _ _ _ _ _ _ _ _ _ _ _ _ _ s'
    refine own_iE (fun _ => ?_) (fun _ => ?_)
    · have pI : (IL + 2).toInt = IL.toInt + 2 := by ((try simp only [ilt, ile, ieq, iadd_e, isub_e, imul_e, Int32.reduceToInt] at *) <;> omega)
      rw [if_neg (show ¬ IL + 2 = 0 by rw [ieq]; omega)]
      have m1 := own_md x1 (IL + 2) (by omega)
      have m2 := own_md x2 300 (by decide)
      generalize ((x1 &&& 2147483647) % (IL + 2)) = ix at m1 ⊢
      generalize ((x2 &&& 2147483647) % 300) = vv at m2 ⊢
      unfold f_L_law_576 f_setInByte
      rw [if_neg (show ¬ ix < 0 by rw [ilt]; omega)]
      by_cases h1 : ix < IL
      · rw [if_pos h1, if_pos h1, if_neg (show ¬ vv < 0 by rw [ilt]; omega)]
        by_cases h2 : 255 < vv
        · rw [if_pos h2, if_pos h2]
          refine own_bs ?_
          show Tot (if (0 : Int32) = 0 then _ else _) _
          rw [if_pos rfl]
          exact k702 _ _ _ _ _ _ _ _ _ _ _ _ _ _ _ _ _ _ _ _ _ _ _ _ _ _ _ _ _ _ s'
        · rw [if_neg h2, if_neg h2]
          rw [ilt] at h1 h2
          rw [wrA_in m1.1 (by omega), Option.bind_some, Option.bind_some]
          show Tot (if (1 : Int32) = 1 then _ else _) _
          rw [if_pos rfl]
          exact k702 _ _ _ _ _ _ _ _ _ _ _ _ _ _ _ _ _ _ _ _ _ _ _ _ _ _ _ _ _ _ ⟨rP, lP, rO, lO, own_Rs rI m2.1 (by omega), by rw [List.length_set]; exact lI, rX, lX, lR, lD, lF, lN, lC, t, b0, b1, i0, i1, o0, o1, ss, q⟩
      · rw [if_neg h1, if_neg h1]
        refine own_bs ?_
        show Tot (if (0 : Int32) = 0 then _ else _) _
        rw [if_pos rfl]
        exact k702 _ _ _ _ _ _ _ _ _ _ _ _ _ _ _ _ _ _ _ _ _ _ _ _ _ _ _ _ _ _ s'
    refine own_iE (fun _ => ?_) (fun _ => ?_)
    · refine Tot.bind (own_ld IL lO rO lI rI o0 (by omega)) ?_
      rintro ⟨r, IN', IL'⟩ ⟨g1, g2, g3, g4⟩
      have g1' : r = OL := g1
      have g2' : IL' = OL := g2
      rw [g1', g2']
      show Tot (if OL = OL then _ else _) _
      rw [if_pos rfl]
      exact k702 _ _ _ _ _ _ _ _ _ _ _ _ _ _ _ _ _ _ _ _ _ _ _ _ _ _ _ _ _ _ ⟨rP, lP, rO, lO, g4, g3, rX, lX, lR, lD, lF, lN, lC, t, b0, b1, o0, by omega, o0, o1, ss, q⟩
    · refine Tot.bind (own_dec own_kk I lI rI i0 i1 rX lX lR lD t hd st DL rp DW DN DP DC) ?_
      rintro ⟨r, DX', RO', SB', D', PF', SF', FP', SL', hd', st', DL', rp', DW', DN', DP', DC'⟩ ⟨g0, g1, g2, g3, g4, g5, g6, g7, g8, g9⟩
      have g3' : st' = r := g3
      subst g3'
      have g0' : IL = 0 → st' = -1 := g0
      have g1' : -8 ≤ st'.toInt := g1
      have g2' : st'.toInt ≤ 0 := g2
      have g4' : (st' = 0 ∧ hd' = 1) ∨ (¬ st' = 0 ∧ hd' = 0) := g4
      have g5' : own_R 4 DX' := g5
      have g6' : DX'.length = 256 := g6
      have K : Tot (f_L_law_664 (f_L_law_32 scr n) scr PX OUT IN DX' RO' SB' D' FC NS CP PF' SF' FP' SL' 4 2 8 4 2 4 9 512 I B OL IL hd' st' bp EW EN DL' rp' DW' DN' DP' DC' pix IL OL st' v6 v7 st') (fun r => r = 1) := by
        have K2 := k702 PX OUT IN DX' RO' SB' D' FC NS CP PF' SF' FP' SL' I B OL IL hd' st' bp EW EN DL' rp' DW' DN' DP' DC' pix ⟨rP, lP, rO, lO, rI, lI, g5', g6', g7, g8, lF, lN, lC, g9, b0, b1, i0, i1, o0, o1, g4', q⟩
        unfold f_L_law_664 f_getDecodedPixel f_L_law_684
        rcases g4' with ⟨h1, h2⟩ | ⟨h1, h2⟩
        · subst h1 h2
          have gr := own_Rg g5' (j := 0) (by omega) (by omega)
          rw [if_neg (by decide), if_neg (show ¬ (0 : Int32) < 0 by decide), if_pos (show (0 : Int32) < 8 by decide), rdg (by omega) (by omega)]
          rw [Option.bind_some, Option.bind_some]
          rw [if_pos rfl, if_pos rfl, if_neg (show ¬ gI DX' 0 < 0 by rw [ilt]; omega), if_neg (show ¬ 3 < gI DX' 0 by rw [ilt]; omega)]
          exact K2
        · subst h2
          rw [if_pos rfl]
          refine own_bs ?_
          rw [if_neg h1, if_pos rfl, if_neg h1]
          exact K2
      show Tot (if (0 : Int32) < st' then _ else _) _
      rw [if_neg (show ¬ 0 < st' by rw [ilt]; omega), if_neg (show ¬ st' < -8 by rw [ilt]; omega)]
      by_cases hz : IL = 0
      · rw [if_pos hz, if_pos (g0' hz)]
        exact K
      · rw [if_neg hz]
        exact K
theorem own_true (scr : List Int32) (h : scr.length ≤ 260) : f_L_law scr = some 1 := by
  apply Tot.eq
  have hl := iscr h
  unfold f_L_law
  rw [own_ini]
  refine own_bs ?_
  have c0 : own_C 4 4 0 := ⟨by decide, Or.inl (by decide)⟩
  have lr : ∀ n : Nat, (List.replicate n (0 : Int32)).length = n := fun n => List.length_replicate
  have hv : 4 * (scr.length.toInt32 / (4 : Int32)).toInt ≤ scr.length := by
    have d : (scr.length.toInt32 / 4).toInt = (scr.length : Int) / 4 := by
      rw [Int32.toInt_div, hl, Int.tdiv_eq_ediv_of_nonneg (by omega)]
      have e4 : (4 : Int32).toInt = 4 := rfl
      rw [e4, Jvm.Own.bmod32]
      omega
    rw [d]
    omega
  refine own_loop scr h _ hv 100000 _ _ _ _ _ _ _ _ _ _ _ _ _ _ _ _ _ _ _ _ _ _ _ _ _ _ _ _ _ _ _ ⟨own_Rrep 256 (by decide), lr 256, own_Rrep 400 (by decide), lr 400, own_Rrep 512 (by decide), lr 512, own_Rrep 256 (by decide), lr 256, lr 16, lr 512, lr 512, lr 512, lr 512, ⟨own_Rrep 256 (by decide), lr 256, fun x hx => by rw [List.eq_of_mem_replicate hx]; exact c0, lr 512, own_Rrep 512 (by decide), lr 512, own_Rrep 512 (by decide), lr 512, lr 512⟩, by decide, by decide, by decide, by decide, by decide, by decide, Or.inr ⟨by decide, rfl⟩, ?_⟩ (by decide) (by decide) (by decide)
  intro j hj
  have ej : (Int32.ofNat j).toInt = j := Int32.toInt_ofNat_of_lt (by omega)
  rw [gI_rep (by omega) (by omega)]
  have key : ∀ j : Nat, j < 8 → (0 : Int32) = own_px 0 j := by decide +kernel
  exact key j hj
set_option maxRecDepth 65536 in
theorem comes_1 {Post : Tables → Env → Array Value → State → Outcome → State → Prop} (hpost : ∀ tb e args s v u, (limb_1_1.after args s (.returned v) u = true ∧ limb_1_2.after args s (.returned v) u = true ∧ True) → FrameEnd s (.returned v) u (Jvm.fieldLocs frame_1_writes args s ++ Jvm.arrayLocs frame_1_arrays args s ++ Jvm.staticLocs frame_1_statics s) 40 11776 → Post tb e args s (.returned v) u) :
    ArmFor flags0 classFile x code maxLocals ret World_1 tables_1 room_1 Calls_1 rest_1 Pre_1 Post := by
  intro l hfl _ _ p e ha hc hk s m args below hf hA hF happ hP
  obtain ⟨hcalls, hrest, hpre⟩ := hP
  obtain ⟨-, -, -, hnamed, -, -, -, hat⟩ := (Spec.applies_iff hf).mp happ
  obtain ⟨hg, hn⟩ := and_e (Cond.before_iff.mp (show (Jvm.Cond.and given_1 narrow_1).before args s = true from hpre))
  obtain ⟨h1, h2⟩ := and_e hg
  have hw := fun d (hd : d ∈ tables_1) => atoms_spec (ws := Jvm.Cond.code x code maxLocals ret :: tables_1) hat d (List.mem_cons_of_mem _ hd)
  obtain ⟨w0, rfl⟩ : ∃ w0 : Value, args = #[w0] := by
    have hs : args.size = 1 := by simpa [Cond.value, given_1] using h1
    obtain ⟨L⟩ := args
    match L, hs with
    | [w0], _ => exact ⟨w0, rfl⟩
  have hfit : Fit s := fun {y c} hc i hi => by
    obtain ⟨ha, rfl⟩ := Array.getElem?_eq_some_iff.mp hc
    have q := List.all_eq_true.mp ((Array.all_eq_true_iff_forall_mem.mp hF) _ (Array.getElem_mem ha)) i (List.mem_range.mpr hi)
    simpa [Array.getElem?_eq_getElem hi] using q
  obtain ⟨hn1, hn2⟩ := and_e hn
  obtain ⟨ad, e0⟩ := arr_v hn1
  obtain ⟨cl, A⟩ := Arr.start e0 hn1
  obtain rfl : w0 = .ref ad := Option.some.inj e0
  obtain ⟨scr, hs1, hs2, hs3⟩ := script_of hfit A e0 hn2
  have E : OEndsQ own_P 0 0 (entL [.ref 0] d_0.maxL) [] [.inr (.inl (false, scr))] (LawQ 1 15 5829) := ok_L_law (own_true scr hs2)
  have hS : SR [ad] [.ref 0] [.ref ad] := ⟨_, _, rfl, ⟨ad, rfl, rfl⟩, rfl⟩
  have hH : HR own_P s s.heap.size s.heap [ad] [.inr (.inl (false, scr))] := hr_script rfl A hs1 hs2 hs3
  have M := law_met (l := l) own_chk (fun w hw' => hw w (own_in w hw')) hm_0 E hS (Nat.le_of_ble_eq_true rfl) hH tables_1 room_1 (Nat.le_of_ble_eq_true rfl) (Nat.le_of_ble_eq_true rfl) (Nat.le_of_ble_eq_true rfl) (Nat.le_of_ble_eq_true rfl)
  obtain ⟨n, o, h1, h2, h3, L, rfl, N, hq⟩ := M p e ha hc hk s m _ below hf ((Spec.applies_iff_loose hf).mp happ).1 ⟨rfl, State.Warmed39.refl s, rfl⟩ trivial
  refine ⟨n, _, h1, h2, h3, hpost _ _ _ _ _ _ ⟨Cond.after_iff.mpr rfl, Cond.after_iff.mpr (eq_i res_at (Term.int_eval (1)) rfl), trivial⟩ ⟨hq.1, hq.2.1, (hq.2.2.sift fun y hy => Or.inr (N y hy)).mono (by decide) (by decide)⟩⟩
theorem main_1_1 : Claimed_1_1 := comes_1 fun _ _ _ _ _ _ h hF => ⟨h.1, hF⟩
theorem main_1_2 : Claimed_1_2 := comes_1 fun _ _ _ _ _ _ h hF => ⟨h.2.1, hF⟩
end Jvm.Pilot.@@N@@
namespace Jvm.Pilot.@@N@@
open Jvm Jvm.ClassFile Sem Op Lib Jvm.Free Jvm.Stand Jvm.Pilot.@@N@@.Jvm.D
/-! MADE BY PROGRAM (witnessworld.py) out of the Statement's table words and the real class files: 9 classes; the members and pool entries that the words name. The judged class is class 1, her method 1. -/
namespace start1
open Jvm.ClassFile
def u (s : String) : CpInfo := .utf8 (stringToUtf16 s)
/-- a pool by its gaps: so many unusable entries, then the entry; so many at the end -/
def gap : Nat → List CpInfo → List CpInfo
  | 0, r => r
  | n + 1, r => .unusable :: gap n r
def poolList (es : List (Nat × CpInfo)) (last : Nat) : List CpInfo := es.foldr (fun e r => gap e.1 (e.2 :: r)) (gap last [])
def pool (es : List (Nat × CpInfo)) (last : Nat) : Array CpInfo := ⟨poolList es last⟩
def fileOf (pool : Array CpInfo) (this : Nat) (attrs : Array Attribute := #[]) (ms : Array MethodInfo := #[]) (fl : Nat := 33) (sup : Nat := 0) (ifs : Array Nat := #[]) (fds : Array FieldInfo := #[]) : ClassFile where
  minorVersion := 0
  majorVersion := 65
  constantPool := pool
  accessFlags := fl
  thisClass := this
  superClass := sup
  interfaces := ifs
  fields := fds
  methods := ms
  attributes := attrs
def plain (name : String) (sup : Option ClassId) : Class where
  name := name
  kind := .ordinary
  loader := none
  accessFlags := 33
  super := sup
  interfaces := #[]
  cf := none
  fields := #[]
  methods := #[]
  instanceTypes := #[]
  staticTypes := #[]
  resolved := #[]
  callSites := []
  init := .initialized
  statics := none
  mirror := none

def pool0 : Array CpInfo := pool [(5, u "<init>"), (0, u "()V"), (1, .class_ 10), (1, u "java/lang/Object")] 113

def k0c0 : Code := { maxStack := 0, maxLocals := 1, code := object_method_1_code, exceptionTable := #[], attributes := #[] }
def k0m0 : Method := { name := "<init>", desc := "()V", sig := { parameters := [], returnType := none }, accessFlags := 1, code := some k0c0 }
/-- java/lang/Object -/
def k0 : Class := { plain "java/lang/Object" none with
  accessFlags := 33
  interfaces := #[]
  cf := some (fileOf pool0 8 #[] #[{ accessFlags := 1, nameIndex := 5, descriptorIndex := 6, attributes := #[] }] 33 0 #[] #[])
  fields := #[]
  methods := #[k0m0]
  instanceTypes := #[]
  staticTypes := #[]
  resolved := Array.replicate 124 none
  statics := none }

def pool1 : Array CpInfo := pool [(2, .class_ 4), (1, u "java/lang/Object"), (0, u "<init>"), (0, u "()V"), (0, .class_ 8), (0, u "LzwIndexedImage"), (0, .methodref 7 10), (0, .nameAndType 5 11), (0, u "(IIII)V"), (0, .integer 2147483647), (0, .methodref 7 14), (0, .nameAndType 15 16), (0, u "setInterlaced"), (0, u "(Z)V"), (0, .methodref 7 18), (0, .nameAndType 19 20), (0, u "setBlockSize"), (0, u "(I)I"), (0, .methodref 7 22), (0, .nameAndType 23 24), (0, u "setPixel"), (0, u "(II)Z"), (0, .methodref 26 27), (0, .class_ 28), (0, .nameAndType 29 30), (0, u "LzwIndexedImageL6"), (0, u "put"), (0, u "(III)I"), (0, .methodref 7 32), (0, .nameAndType 33 34), (0, u "fill"), (0, u "(III)Z"), (0, .methodref 7 36), (0, .nameAndType 37 38), (0, u "encode"), (0, u "()I"), (0, .methodref 7 40), (0, .nameAndType 41 20), (0, u "getOutByte"), (0, .methodref 7 43), (0, .nameAndType 44 6), (0, u "clearInput"), (0, .methodref 7 46), (0, .nameAndType 47 48), (0, u "putInByte"), (0, u "(I)Z"), (0, .methodref 7 50), (0, .nameAndType 51 24), (0, u "setInByte"), (0, .methodref 7 53), (0, .nameAndType 54 38), (0, u "loadInFromOut"), (0, .methodref 7 56), (0, .nameAndType 57 38), (0, u "decode"), (0, .methodref 7 59), (0, .nameAndType 60 20), (0, u "getDecodedPixel"), (0, .methodref 7 62), (0, .nameAndType 63 38), (0, u "getInLength"), (0, .methodref 7 65), (0, .nameAndType 66 38), (0, u "getOutLength"), (0, .methodref 7 68), (0, .nameAndType 69 38), (0, u "getStatus"), (0, .methodref 7 71), (0, .nameAndType 72 20), (0, u "getPixel"), (2, u "law"), (0, u "([I)Z")] 5

def k1m0 : Method := { name := "<init>", desc := "()V", sig := { parameters := [], returnType := none }, accessFlags := 1, code := none }
def k1c1 : Code := { maxStack := 6, maxLocals := 18, code := code, exceptionTable := #[], attributes := #[] }
def k1m1 : Method := { name := "law", desc := "([I)Z", sig := { parameters := [(.array .int)], returnType := some .boolean }, accessFlags := 9, code := some k1c1 }
def k1c2 : Code := { maxStack := 4, maxLocals := 3, code := method_3_code, exceptionTable := #[], attributes := #[] }
def k1m2 : Method := { name := "put", desc := "(III)I", sig := { parameters := [.int, .int, .int], returnType := some .int }, accessFlags := 10, code := some k1c2 }
/-- LzwIndexedImageL6 -/
def k1 : Class := { plain "LzwIndexedImageL6" (some 0) with
  accessFlags := 49
  interfaces := #[]
  cf := some (fileOf pool1 26 #[] #[{ accessFlags := 1, nameIndex := 5, descriptorIndex := 6, attributes := #[] }, { accessFlags := 9, nameIndex := 75, descriptorIndex := 76, attributes := #[] }, { accessFlags := 10, nameIndex := 29, descriptorIndex := 30, attributes := #[] }] 49 2 #[] #[])
  fields := #[]
  methods := #[k1m0, k1m1, k1m2]
  instanceTypes := #[]
  staticTypes := #[]
  resolved := Array.replicate 82 none
  statics := none }

def pool2 : Array CpInfo := pool [(1, .methodref 2 3), (0, .class_ 4), (0, .nameAndType 5 6), (0, u "java/lang/Object"), (0, u "<init>"), (0, u "()V"), (0, .fieldref 8 9), (0, .class_ 10), (0, .nameAndType 11 12), (0, u "LzwIndexedImage"), (0, u "pixels"), (0, u "[I"), (0, .fieldref 8 14), (0, .nameAndType 15 12), (0, u "out"), (0, .fieldref 8 17), (0, .nameAndType 18 12), (0, u "in"), (0, .fieldref 8 20), (0, .nameAndType 21 12), (0, u "decodedPix"), (0, .fieldref 8 23), (0, .nameAndType 24 12), (0, u "rowOrder"), (0, .fieldref 8 26), (0, .nameAndType 27 12), (0, u "streamBuf"), (0, .fieldref 8 29), (0, .nameAndType 30 12), (0, u "data"), (0, .fieldref 8 32), (0, .nameAndType 33 12), (0, u "firstChild"), (0, .fieldref 8 35), (0, .nameAndType 36 12), (0, u "nextSibling"), (0, .fieldref 8 38), (0, .nameAndType 39 12), (0, u "childPixel"), (0, .fieldref 8 41), (0, .nameAndType 42 12), (0, u "prefix"), (0, .fieldref 8 44), (0, .nameAndType 45 12), (0, u "suffix"), (0, .fieldref 8 47), (0, .nameAndType 48 12), (0, u "firstPix"), (0, .fieldref 8 50), (0, .nameAndType 51 12), (0, u "strLen"), (0, .methodref 8 53), (0, .nameAndType 54 55), (0, u "clamp"), (0, u "(III)I"), (0, .fieldref 8 57), (0, .nameAndType 58 59), (0, u "width"), (0, u "I"), (0, .fieldref 8 61), (0, .nameAndType 62 59), (0, u "height"), (0, .fieldref 8 64), (0, .nameAndType 65 59), (0, u "total"), (0, .fieldref 8 67), (0, .nameAndType 68 59), (0, u "palette"), (0, .fieldref 8 70), (0, .nameAndType 71 59), (0, u "minSize"), (0, .fieldref 8 73), (0, .nameAndType 74 59), (0, u "clearCode"), (0, .fieldref 8 76), (0, .nameAndType 77 59), (0, u "maxWidth"), (0, .fieldref 8 79), (0, .nameAndType 80 59), (0, u "codeLimit"), (0, .fieldref 8 82), (0, .nameAndType 83 84), (0, u "interlaced"), (0, u "Z"), (0, .fieldref 8 86), (0, .nameAndType 87 59), (0, u "blockSize"), (0, .fieldref 8 89), (0, .nameAndType 90 59), (0, u "outLen"), (0, .fieldref 8 92), (0, .nameAndType 93 59), (0, u "inLen"), (0, .fieldref 8 95), (0, .nameAndType 96 84), (0, u "hasDecoded"), (0, .fieldref 8 98), (0, .nameAndType 99 59), (0, u "status"), (0, .methodref 8 101), (0, .nameAndType 102 55), (0, u "addRows"), (0, .methodref 8 104), (0, .nameAndType 105 6), (0, u "buildRowOrder"), (0, .methodref 8 107), (0, .nameAndType 108 109), (0, u "rasterOf"), (0, u "(I)I"), (0, .methodref 8 111), (0, .nameAndType 112 6), (0, u "compress"), (0, .methodref 8 114), (0, .nameAndType 115 6), (0, u "packBlocks"), (0, .fieldref 8 117), (0, .nameAndType 118 59), (0, u "bitPos"), (0, .methodref 8 120), (0, .nameAndType 121 122), (0, u "resetEncoderTable"), (0, u "(I)V"), (0, .fieldref 8 124), (0, .nameAndType 125 59), (0, u "encWidth"), (0, .fieldref 8 127), (0, .nameAndType 128 59), (0, u "encNext"), (0, .methodref 8 130), (0, .nameAndType 131 122), (0, u "putCode"), (0, .methodref 8 133), (0, .nameAndType 134 135), (0, u "findChild"), (0, u "(II)I"), (0, .methodref 8 137), (0, .nameAndType 138 139), (0, u "addEncoderCode"), (0, u "(II)V"), (0, .methodref 8 141), (0, .nameAndType 142 122), (0, u "writeOut"), (0, .methodref 8 144), (0, .nameAndType 145 146), (0, u "decodeSteps"), (0, u "()I"), (0, .methodref 8 148), (0, .nameAndType 149 150), (0, u "gatherBlocks"), (0, u "()Z"), (0, .methodref 8 152), (0, .nameAndType 153 146), (0, u "decompress"), (0, .fieldref 8 155), (0, .nameAndType 156 59), (0, u "decCount"), (0, .fieldref 8 158), (0, .nameAndType 159 59), (0, u "dataLen"), (0, .fieldref 8 161), (0, .nameAndType 162 59), (0, u "readPos"), (0, .fieldref 8 164), (0, .nameAndType 165 59), (0, u "decWidth"), (0, .fieldref 8 167), (0, .nameAndType 168 59), (0, u "decNext"), (0, .fieldref 8 170), (0, .nameAndType 171 59), (0, u "decPrev"), (0, .methodref 8 173), (0, .nameAndType 174 146), (0, u "readCode"), (0, .methodref 8 176), (0, .nameAndType 177 109), (0, u "handleCode"), (0, .methodref 8 179), (0, .nameAndType 180 109), (0, u "lengthOf"), (0, .methodref 8 182), (0, .nameAndType 183 184), (0, u "writeString"), (0, u "(III)V"), (0, .methodref 8 186), (0, .nameAndType 187 109), (0, u "firstOf"), (0, .methodref 8 189), (0, .nameAndType 190 139), (0, u "addDecoderCode"), (0, u "OK"), (2, u "NONE"), (1, u "ERR_EMPTY"), (1, u "ERR_MIN_CODE_SIZE"), (1, u "ERR_BLOCKS"), (1, u "ERR_NO_END"), (1, u "ERR_BAD_CODE"), (1, u "ERR_BAD_INDEX"), (1, u "ERR_LONG"), (1, u "ERR_SHORT"), (1, u "IN_CAPACITY"), (1, u "(IIII)V"), (3, u "setInterlaced"), (0, u "(Z)V"), (0, u "setBlockSize"), (0, u "setPixel"), (0, u "(II)Z"), (0, u "fill"), (0, u "(III)Z"), (0, u "getPixel"), (0, u "encode"), (0, u "getOutLength"), (0, u "getOutByte"), (0, u "clearInput"), (0, u "putInByte"), (0, u "(I)Z"), (0, u "setInByte"), (0, u "loadInFromOut"), (0, u "getInLength"), (0, u "decode"), (0, u "getDecodedPixel"), (0, u "getStatus")] 2

def k2c0 : Code := { maxStack := 5, maxLocals := 7, code := prog_1_method_1_code, exceptionTable := #[], attributes := #[] }
def k2m0 : Method := { name := "<init>", desc := "(IIII)V", sig := { parameters := [.int, .int, .int, .int], returnType := none }, accessFlags := 1, code := some k2c0 }
def k2c1 : Code := { maxStack := 2, maxLocals := 4, code := prog_1_method_2_code, exceptionTable := #[], attributes := #[] }
def k2m1 : Method := { name := "clamp", desc := "(III)I", sig := { parameters := [.int, .int, .int], returnType := some .int }, accessFlags := 2, code := some k2c1 }
def k2c2 : Code := { maxStack := 2, maxLocals := 2, code := prog_1_method_3_code, exceptionTable := #[], attributes := #[] }
def k2m2 : Method := { name := "setInterlaced", desc := "(Z)V", sig := { parameters := [.boolean], returnType := none }, accessFlags := 1, code := some k2c2 }
def k2c3 : Code := { maxStack := 5, maxLocals := 2, code := prog_1_method_4_code, exceptionTable := #[], attributes := #[] }
def k2m3 : Method := { name := "setBlockSize", desc := "(I)I", sig := { parameters := [.int], returnType := some .int }, accessFlags := 1, code := some k2c3 }
def k2c4 : Code := { maxStack := 3, maxLocals := 3, code := prog_1_method_5_code, exceptionTable := #[], attributes := #[] }
def k2m4 : Method := { name := "setPixel", desc := "(II)Z", sig := { parameters := [.int, .int], returnType := some .boolean }, accessFlags := 1, code := some k2c4 }
def k2c5 : Code := { maxStack := 3, maxLocals := 5, code := prog_1_method_6_code, exceptionTable := #[], attributes := #[] }
def k2m5 : Method := { name := "fill", desc := "(III)Z", sig := { parameters := [.int, .int, .int], returnType := some .boolean }, accessFlags := 1, code := some k2c5 }
def k2c6 : Code := { maxStack := 2, maxLocals := 2, code := prog_1_method_7_code, exceptionTable := #[], attributes := #[] }
def k2m6 : Method := { name := "getPixel", desc := "(I)I", sig := { parameters := [.int], returnType := some .int }, accessFlags := 1, code := some k2c6 }
def k2c7 : Code := { maxStack := 4, maxLocals := 2, code := prog_1_method_8_code, exceptionTable := #[], attributes := #[] }
def k2m7 : Method := { name := "buildRowOrder", desc := "()V", sig := { parameters := [], returnType := none }, accessFlags := 2, code := some k2c7 }
def k2c8 : Code := { maxStack := 3, maxLocals := 6, code := prog_1_method_9_code, exceptionTable := #[], attributes := #[] }
def k2m8 : Method := { name := "addRows", desc := "(III)I", sig := { parameters := [.int, .int, .int], returnType := some .int }, accessFlags := 2, code := some k2c8 }
def k2c9 : Code := { maxStack := 2, maxLocals := 4, code := prog_1_method_10_code, exceptionTable := #[], attributes := #[] }
def k2m9 : Method := { name := "rasterOf", desc := "(I)I", sig := { parameters := [.int], returnType := some .int }, accessFlags := 2, code := some k2c9 }
def k2c10 : Code := { maxStack := 4, maxLocals := 3, code := prog_1_method_11_code, exceptionTable := #[], attributes := #[] }
def k2m10 : Method := { name := "encode", desc := "()I", sig := { parameters := [], returnType := some .int }, accessFlags := 1, code := some k2c10 }
def k2c11 : Code := { maxStack := 3, maxLocals := 5, code := prog_1_method_12_code, exceptionTable := #[], attributes := #[] }
def k2m11 : Method := { name := "compress", desc := "()V", sig := { parameters := [], returnType := none }, accessFlags := 2, code := some k2c11 }
def k2c12 : Code := { maxStack := 3, maxLocals := 3, code := prog_1_method_13_code, exceptionTable := #[], attributes := #[] }
def k2m12 : Method := { name := "resetEncoderTable", desc := "(I)V", sig := { parameters := [.int], returnType := none }, accessFlags := 2, code := some k2c12 }
def k2c13 : Code := { maxStack := 2, maxLocals := 5, code := prog_1_method_14_code, exceptionTable := #[], attributes := #[] }
def k2m13 : Method := { name := "findChild", desc := "(II)I", sig := { parameters := [.int, .int], returnType := some .int }, accessFlags := 2, code := some k2c13 }
def k2c14 : Code := { maxStack := 4, maxLocals := 4, code := prog_1_method_15_code, exceptionTable := #[], attributes := #[] }
def k2m14 : Method := { name := "addEncoderCode", desc := "(II)V", sig := { parameters := [.int, .int], returnType := none }, accessFlags := 2, code := some k2c14 }
def k2c15 : Code := { maxStack := 5, maxLocals := 5, code := prog_1_method_16_code, exceptionTable := #[], attributes := #[] }
def k2m15 : Method := { name := "putCode", desc := "(I)V", sig := { parameters := [.int], returnType := none }, accessFlags := 2, code := some k2c15 }
def k2c16 : Code := { maxStack := 3, maxLocals := 6, code := prog_1_method_17_code, exceptionTable := #[], attributes := #[] }
def k2m16 : Method := { name := "packBlocks", desc := "()V", sig := { parameters := [], returnType := none }, accessFlags := 2, code := some k2c16 }
def k2c17 : Code := { maxStack := 4, maxLocals := 2, code := prog_1_method_18_code, exceptionTable := #[], attributes := #[] }
def k2m17 : Method := { name := "writeOut", desc := "(I)V", sig := { parameters := [.int], returnType := none }, accessFlags := 2, code := some k2c17 }
def k2c18 : Code := { maxStack := 1, maxLocals := 1, code := prog_1_method_19_code, exceptionTable := #[], attributes := #[] }
def k2m18 : Method := { name := "getOutLength", desc := "()I", sig := { parameters := [], returnType := some .int }, accessFlags := 1, code := some k2c18 }
def k2c19 : Code := { maxStack := 2, maxLocals := 2, code := prog_1_method_20_code, exceptionTable := #[], attributes := #[] }
def k2m19 : Method := { name := "getOutByte", desc := "(I)I", sig := { parameters := [.int], returnType := some .int }, accessFlags := 1, code := some k2c19 }
def k2c20 : Code := { maxStack := 2, maxLocals := 1, code := prog_1_method_21_code, exceptionTable := #[], attributes := #[] }
def k2m20 : Method := { name := "clearInput", desc := "()V", sig := { parameters := [], returnType := none }, accessFlags := 1, code := some k2c20 }
def k2c21 : Code := { maxStack := 3, maxLocals := 2, code := prog_1_method_22_code, exceptionTable := #[], attributes := #[] }
def k2m21 : Method := { name := "putInByte", desc := "(I)Z", sig := { parameters := [.int], returnType := some .boolean }, accessFlags := 1, code := some k2c21 }
def k2c22 : Code := { maxStack := 3, maxLocals := 3, code := prog_1_method_23_code, exceptionTable := #[], attributes := #[] }
def k2m22 : Method := { name := "setInByte", desc := "(II)Z", sig := { parameters := [.int, .int], returnType := some .boolean }, accessFlags := 1, code := some k2c22 }
def k2c23 : Code := { maxStack := 4, maxLocals := 3, code := prog_1_method_24_code, exceptionTable := #[], attributes := #[] }
def k2m23 : Method := { name := "loadInFromOut", desc := "()I", sig := { parameters := [], returnType := some .int }, accessFlags := 1, code := some k2c23 }
def k2c24 : Code := { maxStack := 1, maxLocals := 1, code := prog_1_method_25_code, exceptionTable := #[], attributes := #[] }
def k2m24 : Method := { name := "getInLength", desc := "()I", sig := { parameters := [], returnType := some .int }, accessFlags := 1, code := some k2c24 }
def k2c25 : Code := { maxStack := 4, maxLocals := 4, code := prog_1_method_26_code, exceptionTable := #[], attributes := #[] }
def k2m25 : Method := { name := "decode", desc := "()I", sig := { parameters := [], returnType := some .int }, accessFlags := 1, code := some k2c25 }
def k2c26 : Code := { maxStack := 2, maxLocals := 2, code := prog_1_method_27_code, exceptionTable := #[], attributes := #[] }
def k2m26 : Method := { name := "decodeSteps", desc := "()I", sig := { parameters := [], returnType := some .int }, accessFlags := 2, code := some k2c26 }
def k2c27 : Code := { maxStack := 5, maxLocals := 5, code := prog_1_method_28_code, exceptionTable := #[], attributes := #[] }
def k2m27 : Method := { name := "gatherBlocks", desc := "()Z", sig := { parameters := [], returnType := some .boolean }, accessFlags := 2, code := some k2c27 }
def k2c28 : Code := { maxStack := 3, maxLocals := 5, code := prog_1_method_29_code, exceptionTable := #[], attributes := #[] }
def k2m28 : Method := { name := "decompress", desc := "()I", sig := { parameters := [], returnType := some .int }, accessFlags := 2, code := some k2c28 }
def k2c29 : Code := { maxStack := 3, maxLocals := 5, code := prog_1_method_30_code, exceptionTable := #[], attributes := #[] }
def k2m29 : Method := { name := "readCode", desc := "()I", sig := { parameters := [], returnType := some .int }, accessFlags := 2, code := some k2c29 }
def k2c30 : Code := { maxStack := 5, maxLocals := 5, code := prog_1_method_31_code, exceptionTable := #[], attributes := #[] }
def k2m30 : Method := { name := "handleCode", desc := "(I)I", sig := { parameters := [.int], returnType := some .int }, accessFlags := 2, code := some k2c30 }
def k2c31 : Code := { maxStack := 2, maxLocals := 2, code := prog_1_method_32_code, exceptionTable := #[], attributes := #[] }
def k2m31 : Method := { name := "lengthOf", desc := "(I)I", sig := { parameters := [.int], returnType := some .int }, accessFlags := 2, code := some k2c31 }
def k2c32 : Code := { maxStack := 2, maxLocals := 2, code := prog_1_method_33_code, exceptionTable := #[], attributes := #[] }
def k2m32 : Method := { name := "firstOf", desc := "(I)I", sig := { parameters := [.int], returnType := some .int }, accessFlags := 2, code := some k2c32 }
def k2c33 : Code := { maxStack := 3, maxLocals := 8, code := prog_1_method_34_code, exceptionTable := #[], attributes := #[] }
def k2m33 : Method := { name := "writeString", desc := "(III)V", sig := { parameters := [.int, .int, .int], returnType := none }, accessFlags := 2, code := some k2c33 }
def k2c34 : Code := { maxStack := 4, maxLocals := 4, code := prog_1_method_35_code, exceptionTable := #[], attributes := #[] }
def k2m34 : Method := { name := "addDecoderCode", desc := "(II)V", sig := { parameters := [.int, .int], returnType := none }, accessFlags := 2, code := some k2c34 }
def k2c35 : Code := { maxStack := 2, maxLocals := 2, code := prog_1_method_36_code, exceptionTable := #[], attributes := #[] }
def k2m35 : Method := { name := "getDecodedPixel", desc := "(I)I", sig := { parameters := [.int], returnType := some .int }, accessFlags := 1, code := some k2c35 }
def k2c36 : Code := { maxStack := 1, maxLocals := 1, code := prog_1_method_37_code, exceptionTable := #[], attributes := #[] }
def k2m36 : Method := { name := "getStatus", desc := "()I", sig := { parameters := [], returnType := some .int }, accessFlags := 1, code := some k2c36 }
/-- LzwIndexedImage -/
def k2 : Class := { plain "LzwIndexedImage" (some 0) with
  accessFlags := 49
  interfaces := #[]
  cf := some (fileOf pool2 8 #[] #[{ accessFlags := 1, nameIndex := 5, descriptorIndex := 214, attributes := #[] }, { accessFlags := 2, nameIndex := 54, descriptorIndex := 55, attributes := #[] }, { accessFlags := 1, nameIndex := 218, descriptorIndex := 219, attributes := #[] }, { accessFlags := 1, nameIndex := 220, descriptorIndex := 109, attributes := #[] }, { accessFlags := 1, nameIndex := 221, descriptorIndex := 222, attributes := #[] }, { accessFlags := 1, nameIndex := 223, descriptorIndex := 224, attributes := #[] }, { accessFlags := 1, nameIndex := 225, descriptorIndex := 109, attributes := #[] }, { accessFlags := 2, nameIndex := 105, descriptorIndex := 6, attributes := #[] }, { accessFlags := 2, nameIndex := 102, descriptorIndex := 55, attributes := #[] }, { accessFlags := 2, nameIndex := 108, descriptorIndex := 109, attributes := #[] }, { accessFlags := 1, nameIndex := 226, descriptorIndex := 146, attributes := #[] }, { accessFlags := 2, nameIndex := 112, descriptorIndex := 6, attributes := #[] }, { accessFlags := 2, nameIndex := 121, descriptorIndex := 122, attributes := #[] }, { accessFlags := 2, nameIndex := 134, descriptorIndex := 135, attributes := #[] }, { accessFlags := 2, nameIndex := 138, descriptorIndex := 139, attributes := #[] }, { accessFlags := 2, nameIndex := 131, descriptorIndex := 122, attributes := #[] }, { accessFlags := 2, nameIndex := 115, descriptorIndex := 6, attributes := #[] }, { accessFlags := 2, nameIndex := 142, descriptorIndex := 122, attributes := #[] }, { accessFlags := 1, nameIndex := 227, descriptorIndex := 146, attributes := #[] }, { accessFlags := 1, nameIndex := 228, descriptorIndex := 109, attributes := #[] }, { accessFlags := 1, nameIndex := 229, descriptorIndex := 6, attributes := #[] }, { accessFlags := 1, nameIndex := 230, descriptorIndex := 231, attributes := #[] }, { accessFlags := 1, nameIndex := 232, descriptorIndex := 222, attributes := #[] }, { accessFlags := 1, nameIndex := 233, descriptorIndex := 146, attributes := #[] }, { accessFlags := 1, nameIndex := 234, descriptorIndex := 146, attributes := #[] }, { accessFlags := 1, nameIndex := 235, descriptorIndex := 146, attributes := #[] }, { accessFlags := 2, nameIndex := 145, descriptorIndex := 146, attributes := #[] }, { accessFlags := 2, nameIndex := 149, descriptorIndex := 150, attributes := #[] }, { accessFlags := 2, nameIndex := 153, descriptorIndex := 146, attributes := #[] }, { accessFlags := 2, nameIndex := 174, descriptorIndex := 146, attributes := #[] }, { accessFlags := 2, nameIndex := 177, descriptorIndex := 109, attributes := #[] }, { accessFlags := 2, nameIndex := 180, descriptorIndex := 109, attributes := #[] }, { accessFlags := 2, nameIndex := 187, descriptorIndex := 109, attributes := #[] }, { accessFlags := 2, nameIndex := 183, descriptorIndex := 184, attributes := #[] }, { accessFlags := 2, nameIndex := 190, descriptorIndex := 139, attributes := #[] }, { accessFlags := 1, nameIndex := 236, descriptorIndex := 109, attributes := #[] }, { accessFlags := 1, nameIndex := 237, descriptorIndex := 146, attributes := #[] }] 49 2 #[] #[{ accessFlags := 25, nameIndex := 191, descriptorIndex := 59, attributes := #[] }, { accessFlags := 25, nameIndex := 194, descriptorIndex := 59, attributes := #[] }, { accessFlags := 25, nameIndex := 196, descriptorIndex := 59, attributes := #[] }, { accessFlags := 25, nameIndex := 198, descriptorIndex := 59, attributes := #[] }, { accessFlags := 25, nameIndex := 200, descriptorIndex := 59, attributes := #[] }, { accessFlags := 25, nameIndex := 202, descriptorIndex := 59, attributes := #[] }, { accessFlags := 25, nameIndex := 204, descriptorIndex := 59, attributes := #[] }, { accessFlags := 25, nameIndex := 206, descriptorIndex := 59, attributes := #[] }, { accessFlags := 25, nameIndex := 208, descriptorIndex := 59, attributes := #[] }, { accessFlags := 25, nameIndex := 210, descriptorIndex := 59, attributes := #[] }, { accessFlags := 25, nameIndex := 212, descriptorIndex := 59, attributes := #[] }, { accessFlags := 2, nameIndex := 58, descriptorIndex := 59, attributes := #[] }, { accessFlags := 2, nameIndex := 62, descriptorIndex := 59, attributes := #[] }, { accessFlags := 2, nameIndex := 65, descriptorIndex := 59, attributes := #[] }, { accessFlags := 2, nameIndex := 68, descriptorIndex := 59, attributes := #[] }, { accessFlags := 2, nameIndex := 71, descriptorIndex := 59, attributes := #[] }, { accessFlags := 2, nameIndex := 74, descriptorIndex := 59, attributes := #[] }, { accessFlags := 2, nameIndex := 77, descriptorIndex := 59, attributes := #[] }, { accessFlags := 2, nameIndex := 80, descriptorIndex := 59, attributes := #[] }, { accessFlags := 2, nameIndex := 83, descriptorIndex := 84, attributes := #[] }, { accessFlags := 2, nameIndex := 87, descriptorIndex := 59, attributes := #[] }, { accessFlags := 2, nameIndex := 11, descriptorIndex := 12, attributes := #[] }, { accessFlags := 2, nameIndex := 15, descriptorIndex := 12, attributes := #[] }, { accessFlags := 2, nameIndex := 90, descriptorIndex := 59, attributes := #[] }, { accessFlags := 2, nameIndex := 18, descriptorIndex := 12, attributes := #[] }, { accessFlags := 2, nameIndex := 93, descriptorIndex := 59, attributes := #[] }, { accessFlags := 2, nameIndex := 21, descriptorIndex := 12, attributes := #[] }, { accessFlags := 2, nameIndex := 96, descriptorIndex := 84, attributes := #[] }, { accessFlags := 2, nameIndex := 99, descriptorIndex := 59, attributes := #[] }, { accessFlags := 2, nameIndex := 24, descriptorIndex := 12, attributes := #[] }, { accessFlags := 2, nameIndex := 27, descriptorIndex := 12, attributes := #[] }, { accessFlags := 2, nameIndex := 30, descriptorIndex := 12, attributes := #[] }, { accessFlags := 2, nameIndex := 159, descriptorIndex := 59, attributes := #[] }, { accessFlags := 2, nameIndex := 33, descriptorIndex := 12, attributes := #[] }, { accessFlags := 2, nameIndex := 36, descriptorIndex := 12, attributes := #[] }, { accessFlags := 2, nameIndex := 39, descriptorIndex := 12, attributes := #[] }, { accessFlags := 2, nameIndex := 125, descriptorIndex := 59, attributes := #[] }, { accessFlags := 2, nameIndex := 128, descriptorIndex := 59, attributes := #[] }, { accessFlags := 2, nameIndex := 118, descriptorIndex := 59, attributes := #[] }, { accessFlags := 2, nameIndex := 42, descriptorIndex := 12, attributes := #[] }, { accessFlags := 2, nameIndex := 45, descriptorIndex := 12, attributes := #[] }, { accessFlags := 2, nameIndex := 48, descriptorIndex := 12, attributes := #[] }, { accessFlags := 2, nameIndex := 51, descriptorIndex := 12, attributes := #[] }, { accessFlags := 2, nameIndex := 165, descriptorIndex := 59, attributes := #[] }, { accessFlags := 2, nameIndex := 168, descriptorIndex := 59, attributes := #[] }, { accessFlags := 2, nameIndex := 171, descriptorIndex := 59, attributes := #[] }, { accessFlags := 2, nameIndex := 156, descriptorIndex := 59, attributes := #[] }, { accessFlags := 2, nameIndex := 162, descriptorIndex := 59, attributes := #[] }])
  fields := #[{ name := "OK", type := .int, accessFlags := 25, slot := 0, constantValue := 0 }, { name := "NONE", type := .int, accessFlags := 25, slot := 1, constantValue := 0 }, { name := "ERR_EMPTY", type := .int, accessFlags := 25, slot := 2, constantValue := 0 }, { name := "ERR_MIN_CODE_SIZE", type := .int, accessFlags := 25, slot := 3, constantValue := 0 }, { name := "ERR_BLOCKS", type := .int, accessFlags := 25, slot := 4, constantValue := 0 }, { name := "ERR_NO_END", type := .int, accessFlags := 25, slot := 5, constantValue := 0 }, { name := "ERR_BAD_CODE", type := .int, accessFlags := 25, slot := 6, constantValue := 0 }, { name := "ERR_BAD_INDEX", type := .int, accessFlags := 25, slot := 7, constantValue := 0 }, { name := "ERR_LONG", type := .int, accessFlags := 25, slot := 8, constantValue := 0 }, { name := "ERR_SHORT", type := .int, accessFlags := 25, slot := 9, constantValue := 0 }, { name := "IN_CAPACITY", type := .int, accessFlags := 25, slot := 10, constantValue := 0 }, { name := "width", type := .int, accessFlags := 2, slot := 0, constantValue := 0 }, { name := "height", type := .int, accessFlags := 2, slot := 1, constantValue := 0 }, { name := "total", type := .int, accessFlags := 2, slot := 2, constantValue := 0 }, { name := "palette", type := .int, accessFlags := 2, slot := 3, constantValue := 0 }, { name := "minSize", type := .int, accessFlags := 2, slot := 4, constantValue := 0 }, { name := "clearCode", type := .int, accessFlags := 2, slot := 5, constantValue := 0 }, { name := "maxWidth", type := .int, accessFlags := 2, slot := 6, constantValue := 0 }, { name := "codeLimit", type := .int, accessFlags := 2, slot := 7, constantValue := 0 }, { name := "interlaced", type := .boolean, accessFlags := 2, slot := 8, constantValue := 0 }, { name := "blockSize", type := .int, accessFlags := 2, slot := 9, constantValue := 0 }, { name := "pixels", type := (.array .int), accessFlags := 2, slot := 10, constantValue := 0 }, { name := "out", type := (.array .int), accessFlags := 2, slot := 11, constantValue := 0 }, { name := "outLen", type := .int, accessFlags := 2, slot := 12, constantValue := 0 }, { name := "in", type := (.array .int), accessFlags := 2, slot := 13, constantValue := 0 }, { name := "inLen", type := .int, accessFlags := 2, slot := 14, constantValue := 0 }, { name := "decodedPix", type := (.array .int), accessFlags := 2, slot := 15, constantValue := 0 }, { name := "hasDecoded", type := .boolean, accessFlags := 2, slot := 16, constantValue := 0 }, { name := "status", type := .int, accessFlags := 2, slot := 17, constantValue := 0 }, { name := "rowOrder", type := (.array .int), accessFlags := 2, slot := 18, constantValue := 0 }, { name := "streamBuf", type := (.array .int), accessFlags := 2, slot := 19, constantValue := 0 }, { name := "data", type := (.array .int), accessFlags := 2, slot := 20, constantValue := 0 }, { name := "dataLen", type := .int, accessFlags := 2, slot := 21, constantValue := 0 }, { name := "firstChild", type := (.array .int), accessFlags := 2, slot := 22, constantValue := 0 }, { name := "nextSibling", type := (.array .int), accessFlags := 2, slot := 23, constantValue := 0 }, { name := "childPixel", type := (.array .int), accessFlags := 2, slot := 24, constantValue := 0 }, { name := "encWidth", type := .int, accessFlags := 2, slot := 25, constantValue := 0 }, { name := "encNext", type := .int, accessFlags := 2, slot := 26, constantValue := 0 }, { name := "bitPos", type := .int, accessFlags := 2, slot := 27, constantValue := 0 }, { name := "prefix", type := (.array .int), accessFlags := 2, slot := 28, constantValue := 0 }, { name := "suffix", type := (.array .int), accessFlags := 2, slot := 29, constantValue := 0 }, { name := "firstPix", type := (.array .int), accessFlags := 2, slot := 30, constantValue := 0 }, { name := "strLen", type := (.array .int), accessFlags := 2, slot := 31, constantValue := 0 }, { name := "decWidth", type := .int, accessFlags := 2, slot := 32, constantValue := 0 }, { name := "decNext", type := .int, accessFlags := 2, slot := 33, constantValue := 0 }, { name := "decPrev", type := .int, accessFlags := 2, slot := 34, constantValue := 0 }, { name := "decCount", type := .int, accessFlags := 2, slot := 35, constantValue := 0 }, { name := "readPos", type := .int, accessFlags := 2, slot := 36, constantValue := 0 }]
  methods := #[k2m0, k2m1, k2m2, k2m3, k2m4, k2m5, k2m6, k2m7, k2m8, k2m9, k2m10, k2m11, k2m12, k2m13, k2m14, k2m15, k2m16, k2m17, k2m18, k2m19, k2m20, k2m21, k2m22, k2m23, k2m24, k2m25, k2m26, k2m27, k2m28, k2m29, k2m30, k2m31, k2m32, k2m33, k2m34, k2m35, k2m36]
  instanceTypes := #[.int, .int, .int, .int, .int, .int, .int, .int, .boolean, .int, (.array .int), (.array .int), .int, (.array .int), .int, (.array .int), .boolean, .int, (.array .int), (.array .int), (.array .int), .int, (.array .int), (.array .int), (.array .int), .int, .int, .int, (.array .int), (.array .int), (.array .int), (.array .int), .int, .int, .int, .int, .int]
  staticTypes := #[.int, .int, .int, .int, .int, .int, .int, .int, .int, .int, .int]
  resolved := Array.replicate 240 none
  statics := none }

def pool3 : Array CpInfo := pool [(1, u "java/lang/Cloneable"), (0, .class_ 1), (0, u "java/lang/Object"), (0, .class_ 3)] 3

/-- java/lang/Cloneable -/
def k3 : Class := { plain "java/lang/Cloneable" (some 0) with
  accessFlags := 1537
  interfaces := #[]
  cf := some (fileOf pool3 2 #[] #[] 1537 4 #[] #[])
  fields := #[]
  methods := #[]
  instanceTypes := #[]
  staticTypes := #[]
  resolved := Array.replicate 8 none
  statics := none }

def pool4 : Array CpInfo := pool [(1, u "java/io/Serializable"), (0, .class_ 1), (0, u "java/lang/Object"), (0, .class_ 3)] 3

/-- java/io/Serializable -/
def k4 : Class := { plain "java/io/Serializable" (some 0) with
  accessFlags := 1537
  interfaces := #[]
  cf := some (fileOf pool4 2 #[] #[] 1537 4 #[] #[])
  fields := #[]
  methods := #[]
  instanceTypes := #[]
  staticTypes := #[]
  resolved := Array.replicate 8 none
  statics := none }

/-- the primitive byte -/
def k5 : Class := { plain "byte" none with kind := .primitive 'B', accessFlags := 0x411 }
/-- [B -/
def k6 : Class := { plain "[B" (some 0) with kind := .array 5 .byte, interfaces := #[3, 4], accessFlags := 1041 }

/-- the primitive int -/
def k7 : Class := { plain "int" none with kind := .primitive 'I', accessFlags := 0x411 }
/-- [I -/
def k8 : Class := { plain "[I" (some 0) with kind := .array 7 .int, interfaces := #[3, 4], accessFlags := 1041 }

def heap : Heap := #[{ cls := 8, slots := #[.int 1, .int 2, .int 3], vm := .none }]
def classes : Array Class := #[k0, k1, k2, k3, k4, k5, k6, k7, k8]
def interned : List (Array UInt16 × Addr) := []
def slotsUsed : Nat := 3
def theMethod : MethodId := ⟨1, 1⟩
def args0 : Array Value := #[.ref 0]
def aboutOver (below : List Frame) : State where
  vm := { classes := classes, interned := interned.toArray }
  heap := heap
  slotsUsed := slotsUsed
  threads := #[{ frames := .invoking theMethod args0 :: below }]
def below0 : List Frame := [.native { method := ⟨0, 0⟩, args := #[] }]
def about1 : State := aboutOver below0
def p0 : Program := .bare "" "" ""
def e0 : Env := launch0.env 0 0 0
theorem w_frames : about1.frames = Frame.invoking theMethod args0 :: below0 := rfl
set_option maxRecDepth 65536 in
theorem w_args : argsFit about1.vm theMethod args0 = true := by decide +kernel
set_option maxRecDepth 65536 in
theorem w_heap : heapFits about1 = true := by decide +kernel
set_option maxRecDepth 65536 in
theorem w_runnable : about1.curStatus? = some .runnable := by decide +kernel
set_option maxRecDepth 65536 in
theorem w_alone : about1.alone = true := by decide +kernel
set_option maxRecDepth 65536 in
theorem w_named : about1.methodNamed? x = some theMethod := by decide +kernel
set_option maxRecDepth 65536 in
theorem w_hears : about1.hears theMethod below0 = true := by decide +kernel
set_option maxRecDepth 65536 in
theorem w_ripe : about1.ripe theMethod args0 below0 = true := by decide +kernel
theorem w_running : about1.status = .running := rfl
set_option maxRecDepth 65536 in
theorem w_room : about1.hasRoom e0.platform room_1 = true :=
  launch0.hasRoom_least _ room_1 (by decide +kernel) (by decide +kernel) (by decide +kernel) (by decide +kernel) (by decide +kernel) (by decide +kernel)
theorem allAtoms_all (ts : List Jvm.Cond) (a : Array Jvm.Value) (st : Jvm.State) : (allAtoms ts).before a st = ts.all (fun c => c.before a st) := by
  induction ts with
  | nil => rfl
  | cons c t ih =>
    show (Jvm.Cond.and c (allAtoms t)).before a st = _
    rw [Jvm.Cond.before_and, ih, List.all_cons]
def words1 : List Jvm.Cond := Jvm.Cond.code x code maxLocals ret :: tables_1
/-- a 'code' word, met by the world's own term for the bytes: nothing is compared byte by byte -/
theorem code_word {y : MethodName} {bytes : ByteArray} {mx : Nat} {rt : Option FieldType} {a : Array Value} {s : State} {m : MethodId} {meth : Method} {c : Code} (h1 : s.methodNamed? y = some m) (h2 : s.vm.method? m = some meth) (h3 : meth.code = some c) (h4 : c.code = bytes)
    (h5 : (c.maxLocals == mx && c.exceptionTable.isEmpty && decide (c.maxStack ≤ mostOperands) && decide (meth.sig.returnType = rt) && !meth.locks && decide (parseMethodDescriptor y.desc = some meth.sig)) = true) : (Jvm.Cond.code y bytes mx rt).before a s = true := by
  simp only [Bool.and_eq_true, beq_iff_eq, Bool.not_eq_true', decide_eq_true_eq] at h5
  obtain ⟨⟨⟨⟨⟨g1, g2⟩, g3⟩, g4⟩, g5⟩, g6⟩ := h5
  simp [Cond.before, Cond.holds, Cond.value, h1, h2, h3, h4, g1, g2, g3, g4, g5, g6]
def isCode : Jvm.Cond → Bool
  | .code _ _ _ _ => true
  | _ => false
theorem all_split {L : List Jvm.Cond} {P : Jvm.Cond → Bool} (h1 : L.all (fun c => isCode c || P c) = true) (h2 : ∀ c ∈ L.filter isCode, P c = true) : L.all P = true := by
  refine List.all_eq_true.mpr fun c hc => ?_
  have h := List.all_eq_true.mp h1 c hc
  rcases Bool.eq_false_or_eq_true (isCode c) with hi | hi
  · exact h2 c (List.mem_filter.mpr ⟨hc, hi⟩)
  · simpa [hi] using h
set_option maxRecDepth 65536 in
theorem w_c0 : (Jvm.Cond.code x code maxLocals ret).before args0 about1 = true := code_word (m := ⟨1, 1⟩) (meth := k1m1) (c := k1c1) (by decide +kernel) rfl rfl rfl (by decide +kernel)
set_option maxRecDepth 65536 in
theorem w_c1 : (Jvm.Cond.code ({ cls := "LzwIndexedImage", name := "<init>", desc := "(IIII)V" } : Jvm.MethodName) prog_1_method_1_code (7 : Nat) (Option.none : Option Jvm.ClassFile.FieldType)).before args0 about1 = true := code_word (m := ⟨2, 0⟩) (meth := k2m0) (c := k2c0) (by decide +kernel) rfl rfl rfl (by decide +kernel)
set_option maxRecDepth 65536 in
theorem w_c2 : (Jvm.Cond.code ({ cls := "java/lang/Object", name := "<init>", desc := "()V" } : Jvm.MethodName) object_method_1_code (1 : Nat) (Option.none : Option Jvm.ClassFile.FieldType)).before args0 about1 = true := code_word (m := ⟨0, 0⟩) (meth := k0m0) (c := k0c0) (by decide +kernel) rfl rfl rfl (by decide +kernel)
set_option maxRecDepth 65536 in
theorem w_c3 : (Jvm.Cond.code ({ cls := "LzwIndexedImage", name := "clamp", desc := "(III)I" } : Jvm.MethodName) prog_1_method_2_code (4 : Nat) (Option.some Jvm.ClassFile.FieldType.int)).before args0 about1 = true := code_word (m := ⟨2, 1⟩) (meth := k2m1) (c := k2c1) (by decide +kernel) rfl rfl rfl (by decide +kernel)
set_option maxRecDepth 65536 in
theorem w_c4 : (Jvm.Cond.code ({ cls := "LzwIndexedImage", name := "fill", desc := "(III)Z" } : Jvm.MethodName) prog_1_method_6_code (5 : Nat) (Option.some Jvm.ClassFile.FieldType.boolean)).before args0 about1 = true := code_word (m := ⟨2, 5⟩) (meth := k2m5) (c := k2c5) (by decide +kernel) rfl rfl rfl (by decide +kernel)
set_option maxRecDepth 65536 in
theorem w_c5 : (Jvm.Cond.code ({ cls := "LzwIndexedImageL6", name := "put", desc := "(III)I" } : Jvm.MethodName) method_3_code (3 : Nat) (Option.some Jvm.ClassFile.FieldType.int)).before args0 about1 = true := code_word (m := ⟨1, 2⟩) (meth := k1m2) (c := k1c2) (by decide +kernel) rfl rfl rfl (by decide +kernel)
set_option maxRecDepth 65536 in
theorem w_c6 : (Jvm.Cond.code ({ cls := "LzwIndexedImage", name := "getInLength", desc := "()I" } : Jvm.MethodName) prog_1_method_25_code (1 : Nat) (Option.some Jvm.ClassFile.FieldType.int)).before args0 about1 = true := code_word (m := ⟨2, 24⟩) (meth := k2m24) (c := k2c24) (by decide +kernel) rfl rfl rfl (by decide +kernel)
set_option maxRecDepth 65536 in
theorem w_c7 : (Jvm.Cond.code ({ cls := "LzwIndexedImage", name := "getOutLength", desc := "()I" } : Jvm.MethodName) prog_1_method_19_code (1 : Nat) (Option.some Jvm.ClassFile.FieldType.int)).before args0 about1 = true := code_word (m := ⟨2, 18⟩) (meth := k2m18) (c := k2c18) (by decide +kernel) rfl rfl rfl (by decide +kernel)
set_option maxRecDepth 65536 in
theorem w_c8 : (Jvm.Cond.code ({ cls := "LzwIndexedImage", name := "getStatus", desc := "()I" } : Jvm.MethodName) prog_1_method_37_code (1 : Nat) (Option.some Jvm.ClassFile.FieldType.int)).before args0 about1 = true := code_word (m := ⟨2, 36⟩) (meth := k2m36) (c := k2c36) (by decide +kernel) rfl rfl rfl (by decide +kernel)
set_option maxRecDepth 65536 in
theorem w_c9 : (Jvm.Cond.code ({ cls := "LzwIndexedImage", name := "getPixel", desc := "(I)I" } : Jvm.MethodName) prog_1_method_7_code (2 : Nat) (Option.some Jvm.ClassFile.FieldType.int)).before args0 about1 = true := code_word (m := ⟨2, 6⟩) (meth := k2m6) (c := k2c6) (by decide +kernel) rfl rfl rfl (by decide +kernel)
set_option maxRecDepth 65536 in
theorem w_c10 : (Jvm.Cond.code ({ cls := "LzwIndexedImage", name := "getOutByte", desc := "(I)I" } : Jvm.MethodName) prog_1_method_20_code (2 : Nat) (Option.some Jvm.ClassFile.FieldType.int)).before args0 about1 = true := code_word (m := ⟨2, 19⟩) (meth := k2m19) (c := k2c19) (by decide +kernel) rfl rfl rfl (by decide +kernel)
set_option maxRecDepth 65536 in
theorem w_c11 : (Jvm.Cond.code ({ cls := "LzwIndexedImage", name := "setBlockSize", desc := "(I)I" } : Jvm.MethodName) prog_1_method_4_code (2 : Nat) (Option.some Jvm.ClassFile.FieldType.int)).before args0 about1 = true := code_word (m := ⟨2, 3⟩) (meth := k2m3) (c := k2c3) (by decide +kernel) rfl rfl rfl (by decide +kernel)
set_option maxRecDepth 65536 in
theorem w_c12 : (Jvm.Cond.code ({ cls := "LzwIndexedImage", name := "setInterlaced", desc := "(Z)V" } : Jvm.MethodName) prog_1_method_3_code (2 : Nat) (Option.none : Option Jvm.ClassFile.FieldType)).before args0 about1 = true := code_word (m := ⟨2, 2⟩) (meth := k2m2) (c := k2c2) (by decide +kernel) rfl rfl rfl (by decide +kernel)
set_option maxRecDepth 65536 in
theorem w_c13 : (Jvm.Cond.code ({ cls := "LzwIndexedImage", name := "setPixel", desc := "(II)Z" } : Jvm.MethodName) prog_1_method_5_code (3 : Nat) (Option.some Jvm.ClassFile.FieldType.boolean)).before args0 about1 = true := code_word (m := ⟨2, 4⟩) (meth := k2m4) (c := k2c4) (by decide +kernel) rfl rfl rfl (by decide +kernel)
set_option maxRecDepth 65536 in
theorem w_c14 : (Jvm.Cond.code ({ cls := "LzwIndexedImage", name := "loadInFromOut", desc := "()I" } : Jvm.MethodName) prog_1_method_24_code (3 : Nat) (Option.some Jvm.ClassFile.FieldType.int)).before args0 about1 = true := code_word (m := ⟨2, 23⟩) (meth := k2m23) (c := k2c23) (by decide +kernel) rfl rfl rfl (by decide +kernel)
set_option maxRecDepth 65536 in
theorem w_c15 : (Jvm.Cond.code ({ cls := "LzwIndexedImage", name := "encode", desc := "()I" } : Jvm.MethodName) prog_1_method_11_code (3 : Nat) (Option.some Jvm.ClassFile.FieldType.int)).before args0 about1 = true := code_word (m := ⟨2, 10⟩) (meth := k2m10) (c := k2c10) (by decide +kernel) rfl rfl rfl (by decide +kernel)
set_option maxRecDepth 65536 in
theorem w_c16 : (Jvm.Cond.code ({ cls := "LzwIndexedImage", name := "buildRowOrder", desc := "()V" } : Jvm.MethodName) prog_1_method_8_code (2 : Nat) (Option.none : Option Jvm.ClassFile.FieldType)).before args0 about1 = true := code_word (m := ⟨2, 7⟩) (meth := k2m7) (c := k2c7) (by decide +kernel) rfl rfl rfl (by decide +kernel)
set_option maxRecDepth 65536 in
theorem w_c17 : (Jvm.Cond.code ({ cls := "LzwIndexedImage", name := "rasterOf", desc := "(I)I" } : Jvm.MethodName) prog_1_method_10_code (4 : Nat) (Option.some Jvm.ClassFile.FieldType.int)).before args0 about1 = true := code_word (m := ⟨2, 9⟩) (meth := k2m9) (c := k2c9) (by decide +kernel) rfl rfl rfl (by decide +kernel)
set_option maxRecDepth 65536 in
theorem w_c18 : (Jvm.Cond.code ({ cls := "LzwIndexedImage", name := "compress", desc := "()V" } : Jvm.MethodName) prog_1_method_12_code (5 : Nat) (Option.none : Option Jvm.ClassFile.FieldType)).before args0 about1 = true := code_word (m := ⟨2, 11⟩) (meth := k2m11) (c := k2c11) (by decide +kernel) rfl rfl rfl (by decide +kernel)
set_option maxRecDepth 65536 in
theorem w_c19 : (Jvm.Cond.code ({ cls := "LzwIndexedImage", name := "resetEncoderTable", desc := "(I)V" } : Jvm.MethodName) prog_1_method_13_code (3 : Nat) (Option.none : Option Jvm.ClassFile.FieldType)).before args0 about1 = true := code_word (m := ⟨2, 12⟩) (meth := k2m12) (c := k2c12) (by decide +kernel) rfl rfl rfl (by decide +kernel)
set_option maxRecDepth 65536 in
theorem w_c20 : (Jvm.Cond.code ({ cls := "LzwIndexedImage", name := "putCode", desc := "(I)V" } : Jvm.MethodName) prog_1_method_16_code (5 : Nat) (Option.none : Option Jvm.ClassFile.FieldType)).before args0 about1 = true := code_word (m := ⟨2, 15⟩) (meth := k2m15) (c := k2c15) (by decide +kernel) rfl rfl rfl (by decide +kernel)
set_option maxRecDepth 65536 in
theorem w_c21 : (Jvm.Cond.code ({ cls := "LzwIndexedImage", name := "findChild", desc := "(II)I" } : Jvm.MethodName) prog_1_method_14_code (5 : Nat) (Option.some Jvm.ClassFile.FieldType.int)).before args0 about1 = true := code_word (m := ⟨2, 13⟩) (meth := k2m13) (c := k2c13) (by decide +kernel) rfl rfl rfl (by decide +kernel)
set_option maxRecDepth 65536 in
theorem w_c22 : (Jvm.Cond.code ({ cls := "LzwIndexedImage", name := "addEncoderCode", desc := "(II)V" } : Jvm.MethodName) prog_1_method_15_code (4 : Nat) (Option.none : Option Jvm.ClassFile.FieldType)).before args0 about1 = true := code_word (m := ⟨2, 14⟩) (meth := k2m14) (c := k2c14) (by decide +kernel) rfl rfl rfl (by decide +kernel)
set_option maxRecDepth 65536 in
theorem w_c23 : (Jvm.Cond.code ({ cls := "LzwIndexedImage", name := "packBlocks", desc := "()V" } : Jvm.MethodName) prog_1_method_17_code (6 : Nat) (Option.none : Option Jvm.ClassFile.FieldType)).before args0 about1 = true := code_word (m := ⟨2, 16⟩) (meth := k2m16) (c := k2c16) (by decide +kernel) rfl rfl rfl (by decide +kernel)
set_option maxRecDepth 65536 in
theorem w_c24 : (Jvm.Cond.code ({ cls := "LzwIndexedImage", name := "writeOut", desc := "(I)V" } : Jvm.MethodName) prog_1_method_18_code (2 : Nat) (Option.none : Option Jvm.ClassFile.FieldType)).before args0 about1 = true := code_word (m := ⟨2, 17⟩) (meth := k2m17) (c := k2c17) (by decide +kernel) rfl rfl rfl (by decide +kernel)
set_option maxRecDepth 65536 in
theorem w_c25 : (Jvm.Cond.code ({ cls := "LzwIndexedImage", name := "setInByte", desc := "(II)Z" } : Jvm.MethodName) prog_1_method_23_code (3 : Nat) (Option.some Jvm.ClassFile.FieldType.boolean)).before args0 about1 = true := code_word (m := ⟨2, 22⟩) (meth := k2m22) (c := k2c22) (by decide +kernel) rfl rfl rfl (by decide +kernel)
set_option maxRecDepth 65536 in
theorem w_c26 : (Jvm.Cond.code ({ cls := "LzwIndexedImage", name := "decode", desc := "()I" } : Jvm.MethodName) prog_1_method_26_code (4 : Nat) (Option.some Jvm.ClassFile.FieldType.int)).before args0 about1 = true := code_word (m := ⟨2, 25⟩) (meth := k2m25) (c := k2c25) (by decide +kernel) rfl rfl rfl (by decide +kernel)
set_option maxRecDepth 65536 in
theorem w_c27 : (Jvm.Cond.code ({ cls := "LzwIndexedImage", name := "decodeSteps", desc := "()I" } : Jvm.MethodName) prog_1_method_27_code (2 : Nat) (Option.some Jvm.ClassFile.FieldType.int)).before args0 about1 = true := code_word (m := ⟨2, 26⟩) (meth := k2m26) (c := k2c26) (by decide +kernel) rfl rfl rfl (by decide +kernel)
set_option maxRecDepth 65536 in
theorem w_c28 : (Jvm.Cond.code ({ cls := "LzwIndexedImage", name := "getDecodedPixel", desc := "(I)I" } : Jvm.MethodName) prog_1_method_36_code (2 : Nat) (Option.some Jvm.ClassFile.FieldType.int)).before args0 about1 = true := code_word (m := ⟨2, 35⟩) (meth := k2m35) (c := k2c35) (by decide +kernel) rfl rfl rfl (by decide +kernel)
set_option maxRecDepth 65536 in
theorem w_c29 : (Jvm.Cond.code ({ cls := "LzwIndexedImage", name := "putInByte", desc := "(I)Z" } : Jvm.MethodName) prog_1_method_22_code (2 : Nat) (Option.some Jvm.ClassFile.FieldType.boolean)).before args0 about1 = true := code_word (m := ⟨2, 21⟩) (meth := k2m21) (c := k2c21) (by decide +kernel) rfl rfl rfl (by decide +kernel)
set_option maxRecDepth 65536 in
theorem w_c30 : (Jvm.Cond.code ({ cls := "LzwIndexedImage", name := "clearInput", desc := "()V" } : Jvm.MethodName) prog_1_method_21_code (1 : Nat) (Option.none : Option Jvm.ClassFile.FieldType)).before args0 about1 = true := code_word (m := ⟨2, 20⟩) (meth := k2m20) (c := k2c20) (by decide +kernel) rfl rfl rfl (by decide +kernel)
set_option maxRecDepth 65536 in
theorem w_c31 : (Jvm.Cond.code ({ cls := "LzwIndexedImage", name := "addRows", desc := "(III)I" } : Jvm.MethodName) prog_1_method_9_code (6 : Nat) (Option.some Jvm.ClassFile.FieldType.int)).before args0 about1 = true := code_word (m := ⟨2, 8⟩) (meth := k2m8) (c := k2c8) (by decide +kernel) rfl rfl rfl (by decide +kernel)
set_option maxRecDepth 65536 in
theorem w_c32 : (Jvm.Cond.code ({ cls := "LzwIndexedImage", name := "gatherBlocks", desc := "()Z" } : Jvm.MethodName) prog_1_method_28_code (5 : Nat) (Option.some Jvm.ClassFile.FieldType.boolean)).before args0 about1 = true := code_word (m := ⟨2, 27⟩) (meth := k2m27) (c := k2c27) (by decide +kernel) rfl rfl rfl (by decide +kernel)
set_option maxRecDepth 65536 in
theorem w_c33 : (Jvm.Cond.code ({ cls := "LzwIndexedImage", name := "decompress", desc := "()I" } : Jvm.MethodName) prog_1_method_29_code (5 : Nat) (Option.some Jvm.ClassFile.FieldType.int)).before args0 about1 = true := code_word (m := ⟨2, 28⟩) (meth := k2m28) (c := k2c28) (by decide +kernel) rfl rfl rfl (by decide +kernel)
set_option maxRecDepth 65536 in
theorem w_c34 : (Jvm.Cond.code ({ cls := "LzwIndexedImage", name := "readCode", desc := "()I" } : Jvm.MethodName) prog_1_method_30_code (5 : Nat) (Option.some Jvm.ClassFile.FieldType.int)).before args0 about1 = true := code_word (m := ⟨2, 29⟩) (meth := k2m29) (c := k2c29) (by decide +kernel) rfl rfl rfl (by decide +kernel)
set_option maxRecDepth 65536 in
theorem w_c35 : (Jvm.Cond.code ({ cls := "LzwIndexedImage", name := "handleCode", desc := "(I)I" } : Jvm.MethodName) prog_1_method_31_code (5 : Nat) (Option.some Jvm.ClassFile.FieldType.int)).before args0 about1 = true := code_word (m := ⟨2, 30⟩) (meth := k2m30) (c := k2c30) (by decide +kernel) rfl rfl rfl (by decide +kernel)
set_option maxRecDepth 65536 in
theorem w_c36 : (Jvm.Cond.code ({ cls := "LzwIndexedImage", name := "lengthOf", desc := "(I)I" } : Jvm.MethodName) prog_1_method_32_code (2 : Nat) (Option.some Jvm.ClassFile.FieldType.int)).before args0 about1 = true := code_word (m := ⟨2, 31⟩) (meth := k2m31) (c := k2c31) (by decide +kernel) rfl rfl rfl (by decide +kernel)
set_option maxRecDepth 65536 in
theorem w_c37 : (Jvm.Cond.code ({ cls := "LzwIndexedImage", name := "writeString", desc := "(III)V" } : Jvm.MethodName) prog_1_method_34_code (8 : Nat) (Option.none : Option Jvm.ClassFile.FieldType)).before args0 about1 = true := code_word (m := ⟨2, 33⟩) (meth := k2m33) (c := k2c33) (by decide +kernel) rfl rfl rfl (by decide +kernel)
set_option maxRecDepth 65536 in
theorem w_c38 : (Jvm.Cond.code ({ cls := "LzwIndexedImage", name := "firstOf", desc := "(I)I" } : Jvm.MethodName) prog_1_method_33_code (2 : Nat) (Option.some Jvm.ClassFile.FieldType.int)).before args0 about1 = true := code_word (m := ⟨2, 32⟩) (meth := k2m32) (c := k2c32) (by decide +kernel) rfl rfl rfl (by decide +kernel)
set_option maxRecDepth 65536 in
theorem w_c39 : (Jvm.Cond.code ({ cls := "LzwIndexedImage", name := "addDecoderCode", desc := "(II)V" } : Jvm.MethodName) prog_1_method_35_code (4 : Nat) (Option.none : Option Jvm.ClassFile.FieldType)).before args0 about1 = true := code_word (m := ⟨2, 34⟩) (meth := k2m34) (c := k2c34) (by decide +kernel) rfl rfl rfl (by decide +kernel)
def codes1 : List Jvm.Cond := [Jvm.Cond.code x code maxLocals ret, Jvm.Cond.code ({ cls := "LzwIndexedImage", name := "<init>", desc := "(IIII)V" } : Jvm.MethodName) prog_1_method_1_code (7 : Nat) (Option.none : Option Jvm.ClassFile.FieldType), Jvm.Cond.code ({ cls := "java/lang/Object", name := "<init>", desc := "()V" } : Jvm.MethodName) object_method_1_code (1 : Nat) (Option.none : Option Jvm.ClassFile.FieldType), Jvm.Cond.code ({ cls := "LzwIndexedImage", name := "clamp", desc := "(III)I" } : Jvm.MethodName) prog_1_method_2_code (4 : Nat) (Option.some Jvm.ClassFile.FieldType.int), Jvm.Cond.code ({ cls := "LzwIndexedImage", name := "fill", desc := "(III)Z" } : Jvm.MethodName) prog_1_method_6_code (5 : Nat) (Option.some Jvm.ClassFile.FieldType.boolean), Jvm.Cond.code ({ cls := "LzwIndexedImageL6", name := "put", desc := "(III)I" } : Jvm.MethodName) method_3_code (3 : Nat) (Option.some Jvm.ClassFile.FieldType.int), Jvm.Cond.code ({ cls := "LzwIndexedImage", name := "getInLength", desc := "()I" } : Jvm.MethodName) prog_1_method_25_code (1 : Nat) (Option.some Jvm.ClassFile.FieldType.int), Jvm.Cond.code ({ cls := "LzwIndexedImage", name := "getOutLength", desc := "()I" } : Jvm.MethodName) prog_1_method_19_code (1 : Nat) (Option.some Jvm.ClassFile.FieldType.int), Jvm.Cond.code ({ cls := "LzwIndexedImage", name := "getStatus", desc := "()I" } : Jvm.MethodName) prog_1_method_37_code (1 : Nat) (Option.some Jvm.ClassFile.FieldType.int), Jvm.Cond.code ({ cls := "LzwIndexedImage", name := "getPixel", desc := "(I)I" } : Jvm.MethodName) prog_1_method_7_code (2 : Nat) (Option.some Jvm.ClassFile.FieldType.int), Jvm.Cond.code ({ cls := "LzwIndexedImage", name := "getOutByte", desc := "(I)I" } : Jvm.MethodName) prog_1_method_20_code (2 : Nat) (Option.some Jvm.ClassFile.FieldType.int), Jvm.Cond.code ({ cls := "LzwIndexedImage", name := "setBlockSize", desc := "(I)I" } : Jvm.MethodName) prog_1_method_4_code (2 : Nat) (Option.some Jvm.ClassFile.FieldType.int), Jvm.Cond.code ({ cls := "LzwIndexedImage", name := "setInterlaced", desc := "(Z)V" } : Jvm.MethodName) prog_1_method_3_code (2 : Nat) (Option.none : Option Jvm.ClassFile.FieldType), Jvm.Cond.code ({ cls := "LzwIndexedImage", name := "setPixel", desc := "(II)Z" } : Jvm.MethodName) prog_1_method_5_code (3 : Nat) (Option.some Jvm.ClassFile.FieldType.boolean), Jvm.Cond.code ({ cls := "LzwIndexedImage", name := "loadInFromOut", desc := "()I" } : Jvm.MethodName) prog_1_method_24_code (3 : Nat) (Option.some Jvm.ClassFile.FieldType.int), Jvm.Cond.code ({ cls := "LzwIndexedImage", name := "encode", desc := "()I" } : Jvm.MethodName) prog_1_method_11_code (3 : Nat) (Option.some Jvm.ClassFile.FieldType.int), Jvm.Cond.code ({ cls := "LzwIndexedImage", name := "buildRowOrder", desc := "()V" } : Jvm.MethodName) prog_1_method_8_code (2 : Nat) (Option.none : Option Jvm.ClassFile.FieldType), Jvm.Cond.code ({ cls := "LzwIndexedImage", name := "rasterOf", desc := "(I)I" } : Jvm.MethodName) prog_1_method_10_code (4 : Nat) (Option.some Jvm.ClassFile.FieldType.int), Jvm.Cond.code ({ cls := "LzwIndexedImage", name := "compress", desc := "()V" } : Jvm.MethodName) prog_1_method_12_code (5 : Nat) (Option.none : Option Jvm.ClassFile.FieldType), Jvm.Cond.code ({ cls := "LzwIndexedImage", name := "resetEncoderTable", desc := "(I)V" } : Jvm.MethodName) prog_1_method_13_code (3 : Nat) (Option.none : Option Jvm.ClassFile.FieldType), Jvm.Cond.code ({ cls := "LzwIndexedImage", name := "putCode", desc := "(I)V" } : Jvm.MethodName) prog_1_method_16_code (5 : Nat) (Option.none : Option Jvm.ClassFile.FieldType), Jvm.Cond.code ({ cls := "LzwIndexedImage", name := "findChild", desc := "(II)I" } : Jvm.MethodName) prog_1_method_14_code (5 : Nat) (Option.some Jvm.ClassFile.FieldType.int), Jvm.Cond.code ({ cls := "LzwIndexedImage", name := "addEncoderCode", desc := "(II)V" } : Jvm.MethodName) prog_1_method_15_code (4 : Nat) (Option.none : Option Jvm.ClassFile.FieldType), Jvm.Cond.code ({ cls := "LzwIndexedImage", name := "packBlocks", desc := "()V" } : Jvm.MethodName) prog_1_method_17_code (6 : Nat) (Option.none : Option Jvm.ClassFile.FieldType), Jvm.Cond.code ({ cls := "LzwIndexedImage", name := "writeOut", desc := "(I)V" } : Jvm.MethodName) prog_1_method_18_code (2 : Nat) (Option.none : Option Jvm.ClassFile.FieldType), Jvm.Cond.code ({ cls := "LzwIndexedImage", name := "setInByte", desc := "(II)Z" } : Jvm.MethodName) prog_1_method_23_code (3 : Nat) (Option.some Jvm.ClassFile.FieldType.boolean), Jvm.Cond.code ({ cls := "LzwIndexedImage", name := "decode", desc := "()I" } : Jvm.MethodName) prog_1_method_26_code (4 : Nat) (Option.some Jvm.ClassFile.FieldType.int), Jvm.Cond.code ({ cls := "LzwIndexedImage", name := "decodeSteps", desc := "()I" } : Jvm.MethodName) prog_1_method_27_code (2 : Nat) (Option.some Jvm.ClassFile.FieldType.int), Jvm.Cond.code ({ cls := "LzwIndexedImage", name := "getDecodedPixel", desc := "(I)I" } : Jvm.MethodName) prog_1_method_36_code (2 : Nat) (Option.some Jvm.ClassFile.FieldType.int), Jvm.Cond.code ({ cls := "LzwIndexedImage", name := "putInByte", desc := "(I)Z" } : Jvm.MethodName) prog_1_method_22_code (2 : Nat) (Option.some Jvm.ClassFile.FieldType.boolean), Jvm.Cond.code ({ cls := "LzwIndexedImage", name := "clearInput", desc := "()V" } : Jvm.MethodName) prog_1_method_21_code (1 : Nat) (Option.none : Option Jvm.ClassFile.FieldType), Jvm.Cond.code ({ cls := "LzwIndexedImage", name := "addRows", desc := "(III)I" } : Jvm.MethodName) prog_1_method_9_code (6 : Nat) (Option.some Jvm.ClassFile.FieldType.int), Jvm.Cond.code ({ cls := "LzwIndexedImage", name := "gatherBlocks", desc := "()Z" } : Jvm.MethodName) prog_1_method_28_code (5 : Nat) (Option.some Jvm.ClassFile.FieldType.boolean), Jvm.Cond.code ({ cls := "LzwIndexedImage", name := "decompress", desc := "()I" } : Jvm.MethodName) prog_1_method_29_code (5 : Nat) (Option.some Jvm.ClassFile.FieldType.int), Jvm.Cond.code ({ cls := "LzwIndexedImage", name := "readCode", desc := "()I" } : Jvm.MethodName) prog_1_method_30_code (5 : Nat) (Option.some Jvm.ClassFile.FieldType.int), Jvm.Cond.code ({ cls := "LzwIndexedImage", name := "handleCode", desc := "(I)I" } : Jvm.MethodName) prog_1_method_31_code (5 : Nat) (Option.some Jvm.ClassFile.FieldType.int), Jvm.Cond.code ({ cls := "LzwIndexedImage", name := "lengthOf", desc := "(I)I" } : Jvm.MethodName) prog_1_method_32_code (2 : Nat) (Option.some Jvm.ClassFile.FieldType.int), Jvm.Cond.code ({ cls := "LzwIndexedImage", name := "writeString", desc := "(III)V" } : Jvm.MethodName) prog_1_method_34_code (8 : Nat) (Option.none : Option Jvm.ClassFile.FieldType), Jvm.Cond.code ({ cls := "LzwIndexedImage", name := "firstOf", desc := "(I)I" } : Jvm.MethodName) prog_1_method_33_code (2 : Nat) (Option.some Jvm.ClassFile.FieldType.int), Jvm.Cond.code ({ cls := "LzwIndexedImage", name := "addDecoderCode", desc := "(II)V" } : Jvm.MethodName) prog_1_method_35_code (4 : Nat) (Option.none : Option Jvm.ClassFile.FieldType)]
set_option maxRecDepth 65536 in
theorem codes_eq : words1.filter isCode = codes1 := rfl
theorem w_codes : ∀ c ∈ words1.filter isCode, c.before args0 about1 = true := by
  rw [codes_eq]
  intro c hc
  simp only [codes1, List.mem_cons, List.not_mem_nil, or_false] at hc
  rcases hc with rfl | rfl | rfl | rfl | rfl | rfl | rfl | rfl | rfl | rfl | rfl | rfl | rfl | rfl | rfl | rfl | rfl | rfl | rfl | rfl | rfl | rfl | rfl | rfl | rfl | rfl | rfl | rfl | rfl | rfl | rfl | rfl | rfl | rfl | rfl | rfl | rfl | rfl | rfl | rfl
  · exact w_c0
  · exact w_c1
  · exact w_c2
  · exact w_c3
  · exact w_c4
  · exact w_c5
  · exact w_c6
  · exact w_c7
  · exact w_c8
  · exact w_c9
  · exact w_c10
  · exact w_c11
  · exact w_c12
  · exact w_c13
  · exact w_c14
  · exact w_c15
  · exact w_c16
  · exact w_c17
  · exact w_c18
  · exact w_c19
  · exact w_c20
  · exact w_c21
  · exact w_c22
  · exact w_c23
  · exact w_c24
  · exact w_c25
  · exact w_c26
  · exact w_c27
  · exact w_c28
  · exact w_c29
  · exact w_c30
  · exact w_c31
  · exact w_c32
  · exact w_c33
  · exact w_c34
  · exact w_c35
  · exact w_c36
  · exact w_c37
  · exact w_c38
  · exact w_c39
set_option maxRecDepth 65536 in
theorem w_t1 : (words1.take 24).all (fun c => isCode c || c.before args0 about1) = true := by decide +kernel
set_option maxRecDepth 65536 in
theorem w_t2 : ((words1.drop 24).take 24).all (fun c => isCode c || c.before args0 about1) = true := by decide +kernel
set_option maxRecDepth 65536 in
theorem w_t3 : (((words1.drop 24).drop 24).take 24).all (fun c => isCode c || c.before args0 about1) = true := by decide +kernel
set_option maxRecDepth 65536 in
theorem w_t4 : ((((words1.drop 24).drop 24).drop 24).take 24).all (fun c => isCode c || c.before args0 about1) = true := by decide +kernel
set_option maxRecDepth 65536 in
theorem w_t5 : (((((words1.drop 24).drop 24).drop 24).drop 24).take 24).all (fun c => isCode c || c.before args0 about1) = true := by decide +kernel
set_option maxRecDepth 65536 in
theorem w_t6 : ((((((words1.drop 24).drop 24).drop 24).drop 24).drop 24).take 24).all (fun c => isCode c || c.before args0 about1) = true := by decide +kernel
set_option maxRecDepth 65536 in
theorem w_t7 : (((((((words1.drop 24).drop 24).drop 24).drop 24).drop 24).drop 24).take 24).all (fun c => isCode c || c.before args0 about1) = true := by decide +kernel
set_option maxRecDepth 65536 in
theorem w_t8 : ((((((((words1.drop 24).drop 24).drop 24).drop 24).drop 24).drop 24).drop 24).take 24).all (fun c => isCode c || c.before args0 about1) = true := by decide +kernel
set_option maxRecDepth 65536 in
theorem w_t9 : (((((((((words1.drop 24).drop 24).drop 24).drop 24).drop 24).drop 24).drop 24).drop 24).take 24).all (fun c => isCode c || c.before args0 about1) = true := by decide +kernel
set_option maxRecDepth 65536 in
theorem w_t10 : ((((((((((words1.drop 24).drop 24).drop 24).drop 24).drop 24).drop 24).drop 24).drop 24).drop 24).take 24).all (fun c => isCode c || c.before args0 about1) = true := by decide +kernel
set_option maxRecDepth 65536 in
theorem w_t11 : ((((((((((words1.drop 24).drop 24).drop 24).drop 24).drop 24).drop 24).drop 24).drop 24).drop 24).drop 24).all (fun c => isCode c || c.before args0 about1) = true := by decide +kernel
theorem w_tables : (allAtoms (Jvm.Cond.code x code maxLocals ret :: tables_1)).before args0 about1 = true := by
  rw [allAtoms_all]
  show words1.all (fun c => c.before args0 about1) = true
  refine all_split ?_ w_codes
  rw [← List.take_append_drop 24 words1, List.all_append, w_t1, ← List.take_append_drop 24 (words1.drop 24), List.all_append, w_t2, ← List.take_append_drop 24 ((words1.drop 24).drop 24), List.all_append, w_t3, ← List.take_append_drop 24 (((words1.drop 24).drop 24).drop 24), List.all_append, w_t4, ← List.take_append_drop 24 ((((words1.drop 24).drop 24).drop 24).drop 24), List.all_append, w_t5, ← List.take_append_drop 24 (((((words1.drop 24).drop 24).drop 24).drop 24).drop 24), List.all_append, w_t6, ← List.take_append_drop 24 ((((((words1.drop 24).drop 24).drop 24).drop 24).drop 24).drop 24), List.all_append, w_t7, ← List.take_append_drop 24 (((((((words1.drop 24).drop 24).drop 24).drop 24).drop 24).drop 24).drop 24), List.all_append, w_t8, ← List.take_append_drop 24 ((((((((words1.drop 24).drop 24).drop 24).drop 24).drop 24).drop 24).drop 24).drop 24), List.all_append, w_t9, ← List.take_append_drop 24 (((((((((words1.drop 24).drop 24).drop 24).drop 24).drop 24).drop 24).drop 24).drop 24).drop 24), List.all_append, w_t10, w_t11]
  rfl
set_option maxRecDepth 65536 in
theorem w_rest : rest_1_c.before args0 about1 = true := by decide +kernel
set_option maxRecDepth 65536 in
theorem w_case : (Jvm.Cond.and given_1 narrow_1).before args0 about1 = true := by decide +kernel
theorem w_applies : (headSpec (Jvm.Cond.code x code maxLocals ret :: tables_1) room_1).applies x e0.platform about1 = true :=
  (Spec.applies_iff w_frames).mpr ⟨w_running, w_runnable, w_alone, w_named, w_hears, w_ripe, w_room, w_tables⟩
theorem atStart : AtStart classFile x code maxLocals ret World_1 tables_1 room_1 Calls_1 rest_1 Pre_1 launch0 p0 e0 about1 theMethod args0 below0 :=
  ⟨lists_1, trivial, launch0.admits_env _ _ _, launch0.least_env, fairChoices_fair.cas, fairChoices_fair.clock, w_frames, w_args, w_heap, w_applies, trivial, w_rest, w_case⟩
end start1
theorem witness_1 : WitnessClaimed_1 := ⟨start1.p0, start1.e0, start1.about1, start1.theMethod, start1.args0, start1.below0, start1.atStart⟩
end Jvm.Pilot.@@N@@
