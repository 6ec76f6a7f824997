import JvmDerived
import JvmDerived.Pilot.@@N@@Statement
import JvmDerived.Pilot.@@N@@Code
set_option linter.unusedVariables false
set_option linter.unusedSimpArgs false
namespace Jvm.Own
open Jvm Jvm.ClassFile Sem Op Lib Jvm.Free Jvm.Stand Jvm.LawKit Jvm.RoadKit Bundle

/-! A plain machine: the few instructions that these classes use, over a heap of plain lists. -/
/-- an object (class number, fields in order) | an int array (false) or boolean array (true) | a long array -/
abbrev ACell := (Nat × List Value) ⊕ ((Bool × List Int32) ⊕ List Int64)
abbrev AHeap := List ACell
/-- instruction, length, variables forgotten ahead of it, link number, constant -/
abbrev It := Instr × Nat × List Bool × Nat × Int
/-- a field: name, descriptor, type, final -/
abbrev FD := String × String × FieldType × Bool
/-- a class: name, number of its slots, its fields -/
abbrev CD := String × Nat × List FD
/-- a method: name, bytes, variables, return type; kind (0 static, 1 constructor, 2 private, 3 virtual), parameters, class number, frames, words; code -/
abbrev MD := MethodName × ByteArray × Nat × Option FieldType × Nat × Nat × Nat × Nat × Nat × List (Nat × It)
/-- classes, methods, number of cells that are only read -/
abbrev PD := List CD × List MD × Nat
abbrev PD.cls (P : PD) : List CD := P.1
abbrev PD.mth (P : PD) : List MD := P.2.1
abbrev PD.nr (P : PD) : Nat := P.2.2
abbrev MD.name (d : MD) : MethodName := d.1
abbrev MD.bytes (d : MD) : ByteArray := d.2.1
abbrev MD.maxL (d : MD) : Nat := d.2.2.1
abbrev MD.ret (d : MD) : Option FieldType := d.2.2.2.1
abbrev MD.kind (d : MD) : Nat := d.2.2.2.2.1
abbrev MD.npar (d : MD) : Nat := d.2.2.2.2.2.1
abbrev MD.cid (d : MD) : Nat := d.2.2.2.2.2.2.1
abbrev MD.rf (d : MD) : Nat := d.2.2.2.2.2.2.2.1
abbrev MD.rw (d : MD) : Nat := d.2.2.2.2.2.2.2.2.1
abbrev MD.code (d : MD) : List (Nat × It) := d.2.2.2.2.2.2.2.2.2

def rdA {α : Type} (L : List α) (j : Int32) : Option α := if j < 0 then none else L[j.toNatClampNeg]?
def wrA {α : Type} (L : List α) (j : Int32) (x : α) : Option (List α) := if j < 0 then none else if j.toNatClampNeg < L.length then some (L.set j.toNatClampNeg x) else none
def getL (L : List Slot) (k : Nat) : Option Value := match L[k]? with | some (.val v) => some v | _ => none
def isC2 : Option Slot → Bool | some (.val v) => v.category == 2 | _ => false
def isSec : Option Slot → Bool | some .second => true | _ => false
def free1 : Option Slot → Bool | some .unset => true | some (.val v) => v.category == 1 | _ => false
def st1 (L : List Slot) (k : Nat) (v : Value) : Option (List Slot) :=
  if free1 L[k]? && (k == 0 || !isC2 L[k - 1]?) && !isSec L[k + 1]? then some (L.set k (.val v)) else none
def free2 : Option Slot → Option Slot → Bool | some .unset, some .unset => true | some (.val v), some .second => v.category == 2 | _, _ => false
def st2 (L : List Slot) (k : Nat) (v : Value) : Option (List Slot) :=
  if free2 L[k]? L[k + 1]? && (k == 0 || !isC2 L[k - 1]?) && !isSec L[k + 2]? then some ((L.set k (.val v)).set (k + 1) .second) else none
def forget : List Bool → List Slot → List Slot
  | [], L => L
  | _ :: _, [] => []
  | true :: r, _ :: L => .unset :: forget r L
  | false :: r, s :: L => s :: forget r L
def catSum : List Value → Nat
  | [] => 0
  | v :: r => v.category + catSum r
def entA : List Value → List Slot
  | [] => []
  | v :: r => if v.category = 2 then .val v :: .second :: entA r else .val v :: entA r
def entL (as : List Value) (n : Nat) : List Slot := entA as ++ List.replicate (n - (entA as).length) .unset
def putOk : FieldType → Value → Bool
  | .int, .int _ => true
  | .long, .long _ => true
  | .boolean, .int x => (x == 0) || (x == 1)
  | .array _, .ref _ => true
  | _, _ => false
def dflt : FieldType → Value
  | .long => .long 0
  | .array _ => .null
  | _ => .int 0
def dfOk : FieldType → Bool
  | .int => true
  | .boolean => true
  | .long => true
  | .array _ => true
  | _ => false
def tgt (pc : Nat) (o : Int) : Option Nat := if 0 ≤ (pc : Int) + o then some ((pc : Int) + o).toNat else none
def fetch : List (Nat × It) → Nat → Option It
  | [], _ => none
  | (q, i) :: r, pc => if q = pc then some i else fetch r pc
/-- one instruction that neither branches nor calls nor returns -/
def xI (P : PD) (ini : Bool) (cid : Nat) (i : Instr) (a : Nat) (b : Int) (L : List Slot) (S : List Value) (H : AHeap) : Option (List Slot × List Value × AHeap) :=
  match i with
  | .aload_n k => match getL L k.val with | some (.ref x) => some (L, .ref x :: S, H) | _ => none
  | .aload k => match getL L k with | some (.ref x) => some (L, .ref x :: S, H) | _ => none
  | .iload_n k => match getL L k.val with | some (.int x) => some (L, .int x :: S, H) | _ => none
  | .iload k => match getL L k with | some (.int x) => some (L, .int x :: S, H) | _ => none
  | .lload_n k => match getL L k.val with | some (.long x) => some (L, .long x :: S, H) | _ => none
  | .lload k => match getL L k with | some (.long x) => some (L, .long x :: S, H) | _ => none
  | .istore_n k => match S with | .int x :: S' => (st1 L k.val (.int x)).map fun L' => (L', S', H) | _ => none
  | .istore k => match S with | .int x :: S' => (st1 L k (.int x)).map fun L' => (L', S', H) | _ => none
  | .astore_n k => match S with | .ref x :: S' => (st1 L k.val (.ref x)).map fun L' => (L', S', H) | _ => none
  | .astore k => match S with | .ref x :: S' => (st1 L k (.ref x)).map fun L' => (L', S', H) | _ => none
  | .lstore_n k => match S with | .long x :: S' => (st2 L k.val (.long x)).map fun L' => (L', S', H) | _ => none
  | .lstore k => match S with | .long x :: S' => (st2 L k (.long x)).map fun L' => (L', S', H) | _ => none
  | .iinc k d => match getL L k with | some (.int x) => (st1 L k (.int (x + Int32.ofInt d))).map fun L' => (L', S, H) | _ => none
  | .iconst d => some (L, .int (Int32.ofInt d) :: S, H)
  | .bipush d => some (L, .int (Int8.ofInt d).toInt32 :: S, H)
  | .sipush d => some (L, .int (Int16.ofInt d).toInt32 :: S, H)
  | .lconst k => some (L, .long (Int64.ofNat k) :: S, H)
  | .ldc _ => some (L, .int (Int32.ofInt b) :: S, H)
  | .ldc2_w _ => some (L, .long (Int64.ofInt b) :: S, H)
  | .iadd => match S with | .int y :: .int x :: S' => some (L, .int (x + y) :: S', H) | _ => none
  | .isub => match S with | .int y :: .int x :: S' => some (L, .int (x - y) :: S', H) | _ => none
  | .imul => match S with | .int y :: .int x :: S' => some (L, .int (x * y) :: S', H) | _ => none
  | .iand => match S with | .int y :: .int x :: S' => some (L, .int (x &&& y) :: S', H) | _ => none
  | .ior => match S with | .int y :: .int x :: S' => some (L, .int (x ||| y) :: S', H) | _ => none
  | .ixor => match S with | .int y :: .int x :: S' => some (L, .int (x ^^^ y) :: S', H) | _ => none
  | .ishl => match S with | .int y :: .int x :: S' => some (L, .int (x <<< (y &&& 31)) :: S', H) | _ => none
  | .ishr => match S with | .int y :: .int x :: S' => some (L, .int (x >>> (y &&& 31)) :: S', H) | _ => none
  | .iushr => match S with | .int y :: .int x :: S' => some (L, .int (XT.ushr x y) :: S', H) | _ => none
  | .idiv => match S with | .int y :: .int x :: S' => if y = 0 then none else some (L, .int (x / y) :: S', H) | _ => none
  | .irem => match S with | .int y :: .int x :: S' => if y = 0 then none else some (L, .int (x % y) :: S', H) | _ => none
  | .ladd => match S with | .long y :: .long x :: S' => some (L, .long (x + y) :: S', H) | _ => none
  | .lsub => match S with | .long y :: .long x :: S' => some (L, .long (x - y) :: S', H) | _ => none
  | .lmul => match S with | .long y :: .long x :: S' => some (L, .long (x * y) :: S', H) | _ => none
  | .land => match S with | .long y :: .long x :: S' => some (L, .long (x &&& y) :: S', H) | _ => none
  | .lor => match S with | .long y :: .long x :: S' => some (L, .long (x ||| y) :: S', H) | _ => none
  | .lxor => match S with | .long y :: .long x :: S' => some (L, .long (x ^^^ y) :: S', H) | _ => none
  | .lshl => match S with | .int y :: .long x :: S' => some (L, .long (x <<< (y.toInt64 &&& 63)) :: S', H) | _ => none
  | .lshr => match S with | .int y :: .long x :: S' => some (L, .long (x >>> (y.toInt64 &&& 63)) :: S', H) | _ => none
  | .lushr => match S with | .int y :: .long x :: S' => some (L, .long (XT.ushrL x y) :: S', H) | _ => none
  | .ldiv => match S with | .long y :: .long x :: S' => if y = 0 then none else some (L, .long (x / y) :: S', H) | _ => none
  | .lrem => match S with | .long y :: .long x :: S' => if y = 0 then none else some (L, .long (x % y) :: S', H) | _ => none
  | .lcmp => match S with | .long y :: .long x :: S' => some (L, .int (XT.cmpL x y) :: S', H) | _ => none
  | .i2l => match S with | .int x :: S' => some (L, .long x.toInt64 :: S', H) | _ => none
  | .l2i => match S with | .long x :: S' => some (L, .int x.toInt32 :: S', H) | _ => none
  | .dup => match S with
    | .int x :: S' => some (L, .int x :: .int x :: S', H)
    | .ref x :: S' => some (L, .ref x :: .ref x :: S', H)
    | _ => none
  | .dup2 => match S with
    | .int x :: .ref y :: S' => some (L, .int x :: .ref y :: .int x :: .ref y :: S', H)
    | .long x :: S' => some (L, .long x :: .long x :: S', H)
    | _ => none
  | .pop => match S with | .int _ :: S' => some (L, S', H) | _ => none
  | .getfield _ => match S with
    | .ref o :: S' => match H[o]? with
      | some (.inl (c, fs)) => if c = cid then match fs[a]? with
        | some (.int x) => some (L, .int x :: S', H)
        | some (.long x) => some (L, .long x :: S', H)
        | some (.ref x) => some (L, .ref x :: S', H)
        | _ => none
        else none
      | _ => none
    | _ => none
  | .putfield _ => match S with
    | v :: .ref o :: S' => match H[o]? with
      | some (.inl (c, fs)) => if c = cid ∧ P.nr ≤ o then match (P.cls[c]?).bind fun cd => cd.2.2[a]? with
        | some (_, _, ty, fin) => if putOk ty v && (!fin || ini) then some (L, S', H.set o (.inl (c, fs.set a v))) else none
        | none => none
        else none
      | _ => none
    | _ => none
  | .iaload => match S with
    | .int j :: .ref o :: S' => match H[o]? with
      | some (.inr (.inl (false, A))) => (rdA A j).map fun x => (L, .int x :: S', H)
      | _ => none
    | _ => none
  | .baload => match S with
    | .int j :: .ref o :: S' => match H[o]? with
      | some (.inr (.inl (true, A))) => (rdA A j).map fun x => (L, .int x :: S', H)
      | _ => none
    | _ => none
  | .laload => match S with
    | .int j :: .ref o :: S' => match H[o]? with
      | some (.inr (.inr A)) => (rdA A j).map fun x => (L, .long x :: S', H)
      | _ => none
    | _ => none
  | .iastore => match S with
    | .int x :: .int j :: .ref o :: S' => match H[o]? with
      | some (.inr (.inl (false, A))) => if P.nr ≤ o then (wrA A j x).map fun A' => (L, S', H.set o (.inr (.inl (false, A')))) else none
      | _ => none
    | _ => none
  | .bastore => match S with
    | .int x :: .int j :: .ref o :: S' => match H[o]? with
      | some (.inr (.inl (true, A))) => if P.nr ≤ o then (wrA A j (x &&& 1)).map fun A' => (L, S', H.set o (.inr (.inl (true, A')))) else none
      | _ => none
    | _ => none
  | .lastore => match S with
    | .long x :: .int j :: .ref o :: S' => match H[o]? with
      | some (.inr (.inr A)) => if P.nr ≤ o then (wrA A j x).map fun A' => (L, S', H.set o (.inr (.inr A'))) else none
      | _ => none
    | _ => none
  | .arraylength => match S with
    | .ref o :: S' => match H[o]? with
      | some (.inr (.inl (_, A))) => some (L, .int A.length.toInt32 :: S', H)
      | _ => none
    | _ => none
  | _ => none
/-- one instruction that makes a cell: how many slots it takes stands last -/
def xN (P : PD) (i : Instr) (a : Nat) (S : List Value) (H : AHeap) : Option (List Value × AHeap × Nat) :=
  match i with
  | .new _ => match P.cls[a]? with
    | some cd => some (.ref H.length :: S, H ++ [.inl (a, cd.2.2.map fun f => dflt f.2.2.1)], cd.2.1)
    | none => none
  | .newarray t => match S with
    | .int n :: S' => if n < 0 ∨ 100000 < n.toNatClampNeg then none else match t with
      | .int => some (.ref H.length :: S', H ++ [.inr (.inl (false, List.replicate n.toNatClampNeg 0))], n.toNatClampNeg)
      | .boolean => some (.ref H.length :: S', H ++ [.inr (.inl (true, List.replicate n.toNatClampNeg 0))], n.toNatClampNeg)
      | .long => some (.ref H.length :: S', H ++ [.inr (.inr (List.replicate n.toNatClampNeg 0))], n.toNatClampNeg)
      | _ => none
    | _ => none
  | _ => none
/-- the words that a call from d to y asks -/
def fitsRoom (d y : MD) (rest : List Value) : Bool := decide (y.rf + 1 ≤ d.rf) && decide (catSum rest + (y.maxL + 11) + y.rw ≤ d.rw)
/-- the arguments of a call, first to last, and what lies under them -/
def argsOf (n : Nat) (S : List Value) : Option (List Value × List Value) := if n ≤ S.length then some ((S.take n).reverse, S.drop n) else none
def recvOk (P : PD) (H : AHeap) (y : MD) (as : List Value) : Bool :=
  if y.kind = 0 then true else match as with
    | .ref o :: _ => match H[o]? with
      | some (.inl (c, _)) => decide (c = y.cid)
      | _ => false
    | _ => false
def nargs (y : MD) : Nat := if y.kind = 0 then y.npar else y.npar + 1
def invKind (i : Instr) (k : Nat) : Bool := match i with
  | .invokestatic _ => k == 0
  | .invokespecial _ => k == 1
  | .invokevirtual _ => k == 2 || k == 3
  | _ => false
/-- what a method returns of an int on its stack -/
def retV (r : Option FieldType) (x : Int32) : Option Value := match r with
  | some .int => some (.int x)
  | some .boolean => some (.int (x &&& 1))
  | _ => none
def isInv : Instr → Bool
  | .invokestatic _ => true
  | .invokespecial _ => true
  | .invokevirtual _ => true
  | _ => false
def isNew : Instr → Bool
  | .new _ => true
  | .newarray _ => true
  | _ => false
/-- what a run answers: what it returns, the heap, how many cells and slots it has made -/
abbrev Res := Option Value × AHeap × Nat × Nat
def addR (r : Res) (kc ks : Nat) : Res := (r.1, r.2.1, r.2.2.1 + kc, r.2.2.2 + ks)
/-- n instructions at the most, from pc of method mi to its return -/
def exe (P : PD) : Nat → Nat → Nat → List Slot → List Value → AHeap → Option Res
  | 0, _, _, _, _, _ => none
  | n + 1, mi, pc, L0, S, H => match P.mth[mi]? with
    | none => none
    | some d => match fetch d.code pc with
      | none => none
      | some (i, len, er, a, b) =>
        let L := forget er L0
        match i with
        | .goto o => match tgt pc o with
          | some q => exe P n mi q L S H
          | none => none
        | .if_icmp cd o => match S with
          | .int y :: .int x :: S' => if if_icmp.holds cd x y = true then match tgt pc o with
              | some q => exe P n mi q L S' H
              | none => none
            else exe P n mi (pc + 3) L S' H
          | _ => none
        | .ifCond cd o => match S with
          | .int x :: S' => if ifCond.holds cd x = true then match tgt pc o with
              | some q => exe P n mi q L S' H
              | none => none
            else exe P n mi (pc + 3) L S' H
          | _ => none
        | .ifnonnull o => match S with
          | .ref _ :: S' => match tgt pc o with
            | some q => exe P n mi q L S' H
            | none => none
          | _ => none
        | .ireturn => match S with
          | [.int x] => match retV d.ret x with
            | some v => some (some v, H, 0, 0)
            | none => none
          | _ => none
        | .lreturn => match S with
          | [.long x] => if d.ret = some .long then some (some (.long x), H, 0, 0) else none
          | _ => none
        | .return_ => match S with
          | [] => if d.ret = none then some (none, H, 0, 0) else none
          | _ => none
        | i => if isInv i = true then
            if b = -1 then match i, S with
              | .invokespecial _, .ref _ :: S' => if 1 ≤ d.rf ∧ catSum S' + 12 ≤ d.rw then exe P n mi (pc + 3) L S' H else none
              | _, _ => none
            else match P.mth[a]? with
              | none => none
              | some y => match argsOf (nargs y) S with
                | none => none
                | some (as, rest) =>
                  if decide (0 < a) && invKind i y.kind && recvOk P H y as && fitsRoom d y rest && decide ((entA as).length ≤ y.maxL) then
                    match exe P n a 0 (entL as y.maxL) [] H with
                    | some (v, H1, kc, ks) => (exe P n mi (pc + 3) L (v.toList ++ rest) H1).map fun r => addR r kc ks
                    | none => none
                  else none
          else if isNew i = true then match xN P i a S H with
            | some (S', H', ks) => (exe P n mi (pc + len) L S' H').map fun r => addR r 1 ks
            | none => none
          else match xI P (d.name.name == "<init>") d.cid i a b L S H with
            | some (L', S', H') => exe P n mi (pc + len) L' S' H'
            | none => none
end Jvm.Own
namespace Jvm.Own
open Jvm Jvm.ClassFile Sem Op Lib Jvm.Free Jvm.Stand Jvm.LawKit Jvm.RoadKit Bundle

/-! The words that the machine's program rests on -/
def fWord (C : String) (f : FD) : Jvm.Cond := if f.2.2.2 then .laysFinal C C f.1 f.2.1 else .lays C C f.1 f.2.1
def cWords (cd : CD) : List Jvm.Cond := .instantiable cd.1 cd.2.1 :: .initialized cd.1 :: cd.2.2.map (fWord cd.1)
def mWords (y : MD) : List Jvm.Cond := .code y.name y.bytes y.maxL y.ret :: .initialized y.name.cls ::
  (if y.kind = 0 then [.static y.name] else if y.kind = 1 then [.instanceMethod y.name] else if y.kind = 2 then [.instanceMethod y.name, .privateMethod y.name]
   else [.declares y.name, .selects y.name.cls y.name y.name, .instanceMethod y.name])
def fieldOf (P : PD) (c a : Nat) : Option FD := (P.cls[c]?).bind fun cd => cd.2.2[a]?
def fLink (P : PD) (d : MD) (k a : Nat) : List Jvm.Cond := match fieldOf P d.cid a with | some f => [.fieldLink d.name.cls k d.name.cls f.1 f.2.1] | none => []
def mLink (P : PD) (d : MD) (k a : Nat) (b : Int) : List Jvm.Cond :=
  if b = -1 then [.methodLink d.name.cls k Lib.objectInit, .instanceMethod Lib.objectInit, .code Lib.objectInit ⟨#[0xb1]⟩ 1 none]
  else match P.mth[a]? with | some y => [.methodLink d.name.cls k y.name] | none => []
def iWords (P : PD) (d : MD) (x : Nat × It) : List Jvm.Cond := match x with
  | (_, .getfield k, _, _, a, _) => fLink P d k a
  | (_, .putfield k, _, _, a, _) => fLink P d k a
  | (_, .ldc k, _, _, _, b) => [.constant d.name.cls k (Int32.ofInt b)]
  | (_, .ldc2_w k, _, _, _, b) => [.constantLong d.name.cls k (Int64.ofInt b)]
  | (_, .new k, _, _, a, _) => match P.cls[a]? with | some cd => [.classLink d.name.cls k cd.1] | none => []
  | (_, .newarray t, _, _, _, _) => [.arrayClass (newarray.typeOf t)]
  | (_, .invokestatic k, _, _, a, b) => mLink P d k a b
  | (_, .invokespecial k, _, _, a, b) => mLink P d k a b
  | (_, .invokevirtual k, _, _, a, b) => mLink P d k a b
  | _ => []
def wordsOf (P : PD) : List Jvm.Cond := P.cls.flatMap cWords ++ (P.mth.drop 1).flatMap mWords ++ P.mth.flatMap fun d => d.code.flatMap (iWords P d)
/-! What can be looked up in the program itself -/
def nodup : List String → Bool
  | [] => true
  | x :: r => !r.contains x && nodup r
def fChk (f : FD) : Bool := decide (parseFieldDescriptor f.2.1 = some f.2.2.1) && dfOk f.2.2.1
def cChk (cd : CD) : Bool := nodup (cd.2.2.map fun f => f.1) && cd.2.2.all fChk
def sigChk (y : MD) : Bool := match parseMethodDescriptor y.name.desc with
  | some g => decide (g.parameters.length = y.npar)
  | none => false
def lenOk (i : Instr) (n : Nat) : Bool := match i with
  | .aload _ | .iload _ | .lload _ | .istore _ | .astore _ | .lstore _ | .bipush _ | .ldc _ | .newarray _ => n == 2
  | .iinc _ _ | .sipush _ | .ldc2_w _ | .getfield _ | .putfield _ | .new _ | .goto _ | .if_icmp _ _ | .ifCond _ _ | .ifnonnull _ | .invokestatic _ | .invokespecial _ | .invokevirtual _ => n == 3
  | _ => n == 1
def codeChk (y : MD) : Bool := y.code.all fun x => decide (decode y.bytes x.1 = .ok (x.2.1, x.2.2.1)) && lenOk x.2.1 x.2.2.1
def clsChk (P : PD) (y : MD) : Bool := match P.cls[y.cid]? with | some cd => cd.1 == y.name.cls | none => y.kind == 0
def mChk (P : PD) (y : MD) : Bool := plainName y.name.cls && sigChk y && codeChk y && clsChk P y && decide (y.name.cls ≠ "java/lang/invoke/MethodHandle") && decide (y.name.cls ≠ "java/lang/invoke/VarHandle") && (y.kind != 1 || (y.name.name == "<init>" && decide (y.ret = none)))
def chk (P : PD) : Bool := P.cls.all cChk && P.mth.all (mChk P)

/-! Plain and real values -/
def VR (ρ : List Addr) : Value → Value → Prop
  | .ref k, w => ∃ a, ρ[k]? = some a ∧ w = .ref a
  | v, w => w = v
def SR (ρ : List Addr) : List Value → List Value → Prop
  | [], ws => ws = []
  | v :: vs, ws => ∃ w ws', ws = w :: ws' ∧ VR ρ v w ∧ SR ρ vs ws'
def OV (ρ : List Addr) : Option Value → Option Value → Prop
  | none, w => w = none
  | some v, w => ∃ u, w = some u ∧ VR ρ v u
def WFc (A : Array Slot) : Prop := (∀ (i : Nat) w, A[i]? = some (.val w) → w.category = 2 → A[i + 1]? = some .second) ∧ ∀ (i : Nat), A[i]? = some .second → ∃ j w, i = j + 1 ∧ A[j]? = some (.val w) ∧ w.category = 2
def SlR (ρ : List Addr) : Slot → Option Slot → Prop
  | .unset, _ => True
  | .second, o => o = some .second
  | .val v, o => ∃ w, VR ρ v w ∧ o = some (.val w)
def LR (ρ : List Addr) (L : List Slot) (A : Array Slot) : Prop := A.size = L.length ∧ WFc A ∧ ∀ (i : Nat) s, L[i]? = some s → SlR ρ s A[i]?
theorem VR.mono {ρ t : List Addr} {v w : Value} (h : VR ρ v w) : VR (ρ ++ t) v w := by
  cases v <;> first | exact h | skip
  obtain ⟨a, h1, h2⟩ := h
  exact ⟨a, by rw [List.getElem?_append_left (List.getElem?_eq_some_iff.mp h1).1]; exact h1, h2⟩
theorem SR.mono {ρ t : List Addr} : ∀ {v w : List Value}, SR ρ v w → SR (ρ ++ t) v w
  | [], _, h => h
  | _ :: _, _, ⟨w, ws, h1, h2, h3⟩ => ⟨w, ws, h1, h2.mono, SR.mono h3⟩
theorem SlR.mono {ρ t : List Addr} {s : Slot} {o : Option Slot} (h : SlR ρ s o) : SlR (ρ ++ t) s o := by
  cases s with
  | unset => trivial
  | second => exact h
  | val v => obtain ⟨w, h1, h2⟩ := h; exact ⟨w, h1.mono, h2⟩
theorem LR.mono {ρ t : List Addr} {L : List Slot} {A : Array Slot} (h : LR ρ L A) : LR (ρ ++ t) L A := ⟨h.1, h.2.1, fun i s q => (h.2.2 i s q).mono⟩
theorem VR.cat {ρ : List Addr} {v w : Value} (h : VR ρ v w) : w.category = v.category := by
  cases v <;> first | (obtain ⟨a, -, rfl⟩ := h; rfl) | (cases h; rfl)
theorem SR.cat {ρ : List Addr} : ∀ {v w : List Value}, SR ρ v w → (w.map fun v => v.category).sum = catSum v
  | [], _, h => by cases h; rfl
  | _ :: _, _, ⟨w, ws, h1, h2, h3⟩ => by subst h1; simp [catSum, h2.cat, SR.cat h3]
theorem SR.len {ρ : List Addr} : ∀ {v w : List Value}, SR ρ v w → w.length = v.length
  | [], _, h => by cases h; rfl
  | _ :: _, _, ⟨w, ws, h1, h2, h3⟩ => by subst h1; simp [SR.len h3]
theorem SR.app {ρ : List Addr} : ∀ {v w v' w' : List Value}, SR ρ v w → SR ρ v' w' → SR ρ (v ++ v') (w ++ w')
  | [], _, _, _, h, h' => by cases h; exact h'
  | _ :: _, _, _, _, ⟨w, ws, h1, h2, h3⟩, h' => by subst h1; exact ⟨w, ws ++ _, rfl, h2, SR.app h3 h'⟩
theorem SR.rev {ρ : List Addr} : ∀ {v w : List Value}, SR ρ v w → SR ρ v.reverse w.reverse
  | [], _, h => by cases h; exact rfl
  | _ :: _, _, ⟨w, ws, h1, h2, h3⟩ => by subst h1; simp only [List.reverse_cons]; exact (SR.rev h3).app ⟨w, [], rfl, h2, rfl⟩
theorem SR.take {ρ : List Addr} : ∀ (n : Nat) {v w : List Value}, SR ρ v w → SR ρ (v.take n) (w.take n)
  | 0, _, _, _ => rfl
  | n + 1, [], _, h => by cases h; exact rfl
  | n + 1, _ :: _, _, ⟨w, ws, h1, h2, h3⟩ => by subst h1; exact ⟨w, _, rfl, h2, SR.take n h3⟩
theorem SR.drop {ρ : List Addr} : ∀ (n : Nat) {v w : List Value}, SR ρ v w → SR ρ (v.drop n) (w.drop n)
  | 0, _, _, h => h
  | n + 1, [], _, h => by cases h; exact rfl
  | n + 1, _ :: _, _, ⟨w, ws, h1, h2, h3⟩ => by subst h1; exact SR.drop n h3
theorem OV.list {ρ : List Addr} {v w : Option Value} (h : OV ρ v w) : SR ρ v.toList w.toList := by
  cases v with
  | none => cases h; exact rfl
  | some v => obtain ⟨u, rfl, h⟩ := h; exact ⟨u, [], rfl, h, rfl⟩
theorem LR.get {ρ : List Addr} {L : List Slot} {A : Array Slot} (h : LR ρ L A) {k : Nat} {v : Value} (g : getL L k = some v) : ∃ w, VR ρ v w ∧ A[k]? = some (.val w) := by
  unfold getL at g
  split at g
  · rename_i u q
    cases g
    exact h.2.2 k _ q
  · cases g
theorem forget_get : ∀ (er : List Bool) (L : List Slot) (i : Nat) (s : Slot), (forget er L)[i]? = some s → s = .unset ∨ L[i]? = some s
  | [], L, i, s, h => Or.inr h
  | _ :: _, [], i, s, h => by simp [forget] at h
  | true :: r, t :: L, 0, s, h => by simp [forget] at h; exact Or.inl h.symm
  | false :: r, t :: L, 0, s, h => by simp [forget] at h; exact Or.inr (by simp [h])
  | true :: r, t :: L, i + 1, s, h => by simp [forget] at h; simpa using forget_get r L i s h
  | false :: r, t :: L, i + 1, s, h => by simp [forget] at h; simpa using forget_get r L i s h
theorem forget_len : ∀ (er : List Bool) (L : List Slot), (forget er L).length = L.length
  | [], _ => rfl
  | _ :: _, [] => rfl
  | true :: r, _ :: L => by simp [forget, forget_len r L]
  | false :: r, _ :: L => by simp [forget, forget_len r L]
theorem LR.forget {ρ : List Addr} {A : Array Slot} (er : List Bool) {L : List Slot} (h : LR ρ L A) : LR ρ (forget er L) A :=
  ⟨by rw [forget_len]; exact h.1, h.2.1, fun i s q => by
    rcases forget_get er L i s q with rfl | z
    · trivial
    · exact h.2.2 i s z⟩
/-! Stores -/
theorem setAt_ok {A : Array Slot} {i : Nat} (h : i < A.size) (x : Slot) : setAt A i x = some (A.setIfInBounds i x) := by simp [setAt, h]
theorem get_set (A : Array Slot) (i j : Nat) (x : Slot) : (A.setIfInBounds i x)[j]? = if i = j then (if i < A.size then some x else none) else A[j]? := by
  rw [Array.getElem?_setIfInBounds]
theorem sl_unset {A : Array Slot} {k : Nat} {w : Value} (h : A[k]? = some .unset) : storeLocals A k w = storeSelf A k w := by
  unfold storeLocals; rw [h]; rfl
theorem sl_second {A : Array Slot} {k : Nat} {w : Value} (h : A[k]? = some .second) (hk : k - 1 < A.size) : storeLocals A k w = storeSelf (A.setIfInBounds (k - 1) .unset) k w := by
  unfold storeLocals; rw [h]
  show (setAt A (k - 1) .unset).bind _ = _
  rw [setAt_ok hk]; rfl
theorem sl_val2 {A : Array Slot} {k : Nat} {w u : Value} (h : A[k]? = some (.val u)) (hu : u.category = 2) (hk : k + 1 < A.size) : storeLocals A k w = storeSelf (A.setIfInBounds (k + 1) .unset) k w := by
  unfold storeLocals; rw [h]
  show (if u.category = 2 then (setAt A (k + 1) .unset).bind _ else _) = _
  rw [if_pos hu, setAt_ok hk]; rfl
theorem sl_val1 {A : Array Slot} {k : Nat} {w u : Value} (h : A[k]? = some (.val u)) (hu : ¬ u.category = 2) : storeLocals A k w = storeSelf A k w := by
  unfold storeLocals; rw [h]
  show (if u.category = 2 then (setAt A (k + 1) .unset).bind _ else _) = _
  rw [if_neg hu]
theorem ss_1 {A : Array Slot} {k : Nat} {w : Value} (hk : k < A.size) (hw : ¬ w.category = 2) : storeSelf A k w = some (A.setIfInBounds k (.val w)) := by
  unfold storeSelf; rw [setAt_ok hk]
  show (if w.category = 2 then _ else _) = _
  rw [if_neg hw]
theorem ss_2c {A : Array Slot} {k : Nat} {w u : Value} (hk : k < A.size) (hk1 : k + 1 < A.size) (hk2 : k + 2 < A.size) (hw : w.category = 2) (h : (A.setIfInBounds k (.val w))[k + 1]? = some (.val u)) (hu : u.category = 2) : storeSelf A k w = some (((A.setIfInBounds k (.val w)).setIfInBounds (k + 2) .unset).setIfInBounds (k + 1) .second) := by
  unfold storeSelf; rw [setAt_ok hk]
  show (if w.category = 2 then _ else _) = _
  rw [if_pos hw, h]
  show (if u.category = 2 then (setAt _ (k + 2) .unset).bind _ else _) = _
  rw [if_pos hu, setAt_ok (by simpa using hk2)]
  exact setAt_ok (by simpa using hk1) _
theorem ss_2 {A : Array Slot} {k : Nat} {w : Value} {o : Slot} (hk : k < A.size) (hk1 : k + 1 < A.size) (hw : w.category = 2) (h : (A.setIfInBounds k (.val w))[k + 1]? = some o) (ho : ¬ ∃ u, o = .val u ∧ u.category = 2) : storeSelf A k w = some ((A.setIfInBounds k (.val w)).setIfInBounds (k + 1) .second) := by
  unfold storeSelf; rw [setAt_ok hk]
  show (if w.category = 2 then _ else _) = _
  rw [if_pos hw, h]
  cases o with
  | unset => exact setAt_ok (by simpa using hk1) _
  | second => exact setAt_ok (by simpa using hk1) _
  | val u =>
    show (if u.category = 2 then _ else _) = _
    rw [if_neg fun z => ho ⟨u, rfl, z⟩]
    exact setAt_ok (by simpa using hk1) _
theorem store1_sim {ρ : List Addr} {L : List Slot} {A : Array Slot} (h : LR ρ L A) {k : Nat} {v w : Value} {L' : List Slot} (hs : st1 L k v = some L') (hv : VR ρ v w) (hc : w.category = 1) : ∃ A', storeLocals A k w = some A' ∧ LR ρ L' A' := by
  unfold st1 at hs
  split at hs
  · rename_i q
    cases hs
    simp only [Bool.and_eq_true] at q
    obtain ⟨⟨q1, q2⟩, q3⟩ := q
    obtain ⟨hA, ⟨w1, w2⟩, hl⟩ := h
    have hk : k < L.length := by
      rcases Nat.lt_or_ge k L.length with z | z
      · exact z
      · rw [List.getElem?_eq_none z] at q1; cases q1
    have hkA : k < A.size := hA ▸ hk
    obtain ⟨sl, hsl⟩ : ∃ sl, A[k]? = some sl := ⟨A[k], Array.getElem?_eq_getElem hkA⟩
    have hc2 : ¬ w.category = 2 := by rw [hc]; decide
    classical
    have key : ∃ A', storeLocals A k w = some A' ∧ A'.size = A.size ∧ (∀ j, A'[j]? = if j = k then some (.val w) else if (sl = .second ∧ j + 1 = k) ∨ ((∃ u, sl = .val u ∧ u.category = 2) ∧ j = k + 1) then some .unset else A[j]?) := by
      cases sl with
      | unset =>
        refine ⟨A.setIfInBounds k (.val w), by rw [sl_unset hsl]; exact ss_1 hkA hc2, by simp, fun j => ?_⟩
        rw [get_set]
        by_cases e : k = j
        · subst e; simp [hkA]
        · have e' : ¬ j = k := fun z => e z.symm
          simp [e, e']
      | second =>
        obtain ⟨j0, u, rfl, g1, g2⟩ := w2 k hsl
        refine ⟨(A.setIfInBounds j0 .unset).setIfInBounds (j0 + 1) (.val w), by rw [sl_second hsl (show j0 + 1 - 1 < A.size by omega)]; exact ss_1 (by simpa using hkA) hc2, by simp, fun j => ?_⟩
        rw [get_set, get_set]
        by_cases e : j0 + 1 = j
        · subst e; simp [hkA]
        · by_cases e2 : j0 = j
          · subst e2; simp; omega
          · have e' : ¬ j = j0 + 1 := fun z => e z.symm
            have e2' : ¬ j = j0 := fun z => e2 z.symm
            simp [e, e', e2, e2']
      | val u =>
        by_cases hu : u.category = 2
        · have g := w1 k u hsl hu
          have hk1 : k + 1 < A.size := (Array.getElem?_eq_some_iff.mp g).1
          refine ⟨(A.setIfInBounds (k + 1) .unset).setIfInBounds k (.val w), by rw [sl_val2 hsl hu hk1]; exact ss_1 (by simpa using hkA) hc2, by simp, fun j => ?_⟩
          rw [get_set, get_set]
          by_cases e : k = j
          · subst e; simp [hkA]
          · have e' : ¬ j = k := fun z => e z.symm
            by_cases e2 : k + 1 = j
            · subst e2; simp [hk1, hu]
            · have e2' : ¬ j = k + 1 := fun z => e2 z.symm
              simp [e, e', e2, e2']
        · refine ⟨A.setIfInBounds k (.val w), by rw [sl_val1 hsl hu]; exact ss_1 hkA hc2, by simp, fun j => ?_⟩
          rw [get_set]
          by_cases e : k = j
          · subst e; simp [hkA]
          · have e' : ¬ j = k := fun z => e z.symm
            simp [e, e', hu]
    obtain ⟨A', k1, k2, k3⟩ := key
    refine ⟨A', k1, by rw [k2, hA]; simp, ⟨fun i u g1 g2 => ?_, fun i g1 => ?_⟩, fun i s g => ?_⟩
    · rw [k3] at g1
      split at g1
      · cases g1; exact absurd g2 hc2
      · rename_i e1
        split at g1
        · cases g1
        · rename_i e2
          have g3 := w1 i u g1 g2
          rw [k3]
          split
          · rename_i e3
            have : sl = .second := by rw [← e3] at hsl; exact Option.some.inj (hsl.symm.trans g3)
            exact absurd (Or.inl ⟨this, e3⟩) e2
          · rename_i e3
            split
            · rename_i e4
              rcases e4 with ⟨z1, z2⟩ | ⟨⟨u', z1, z2⟩, z3⟩
              · exfalso
                have : k = i + 1 + 1 := z2.symm
                subst this
                rw [z1] at hsl
                obtain ⟨j0, u0, y1, y2, y3⟩ := w2 _ hsl
                have : j0 = i + 1 := by omega
                subst this
                rw [g3] at y2; cases y2
              · exact absurd (by omega) e1
            · exact g3
    · rw [k3] at g1
      split at g1
      · cases g1
      · rename_i e1
        split at g1
        · cases g1
        · rename_i e2
          obtain ⟨j, u, z1, z2, z3⟩ := w2 i g1
          refine ⟨j, u, z1, ?_, z3⟩
          rw [k3]
          split
          · rename_i e3
            subst e3
            have : sl = .val u := Option.some.inj (hsl.symm.trans z2)
            exact absurd (Or.inr ⟨⟨u, this, z3⟩, z1⟩) e2
          · split
            · rename_i e3 e4
              rcases e4 with ⟨y1, y2⟩ | ⟨⟨u', y1, y2⟩, y3⟩
              · exact absurd (z1.trans y2) e1
              · subst y3
                have g5 := w1 k u' (y1 ▸ hsl) y2
                rw [z2] at g5; cases g5
            · exact z2
    · rw [List.getElem?_set] at g
      split at g
      · rename_i e
        subst e
        cases g
        exact ⟨w, hv, by rw [k3]; simp⟩
      · rename_i e
        have e' : ¬ i = k := fun z => e z.symm
        have g2 := hl i s g
        rw [k3, if_neg e']
        split
        · rename_i e4
          cases s with
          | unset => trivial
          | second =>
            exfalso
            have g2' : A[i]? = some .second := g2
            rcases e4 with ⟨y1, y2⟩ | ⟨⟨u', y1, y2⟩, y3⟩
            · obtain ⟨j0, u0, x1, x2, x3⟩ := w2 k (y1 ▸ hsl)
              have : i = j0 := by omega
              subst this
              rw [x2] at g2'; cases g2'
            · subst y3
              rw [g] at q3
              simp [isSec] at q3
          | val v0 =>
            exfalso
            obtain ⟨w0, x1, x2⟩ := g2
            rcases e4 with ⟨y1, y2⟩ | ⟨⟨u', y1, y2⟩, y3⟩
            · obtain ⟨j0, u0, z1, z2, z3⟩ := w2 k (y1 ▸ hsl)
              have : i = j0 := by omega
              subst this
              have hw0 : w0 = u0 := by rw [x2] at z2; cases z2; rfl
              have hcat : v0.category = 2 := by rw [← x1.cat, hw0]; exact z3
              subst y2
              have : L[i + 1 - 1]? = some (.val v0) := g
              rw [this] at q2
              simp [isC2, hcat] at q2
            · subst y3
              have g5 := w1 k u' (y1 ▸ hsl) y2
              rw [x2] at g5; cases g5
        · exact g2
  · cases hs
end Jvm.Own
namespace Jvm.Own
open Jvm Jvm.ClassFile Sem Op Lib Jvm.Free Jvm.Stand Jvm.LawKit Jvm.RoadKit Bundle
theorem store2_sim {ρ : List Addr} {L : List Slot} {A : Array Slot} (h : LR ρ L A) {k : Nat} {v w : Value} {L' : List Slot} (hs : st2 L k v = some L') (hv : VR ρ v w) (hc : w.category = 2) : ∃ A', storeLocals A k w = some A' ∧ LR ρ L' A' := by
  unfold st2 at hs
  split at hs
  · rename_i q
    cases hs
    simp only [Bool.and_eq_true] at q
    obtain ⟨⟨q1, q2⟩, q3⟩ := q
    obtain ⟨hA, ⟨w1, w2⟩, hl⟩ := h
    have hk1 : k + 1 < L.length := by
      rcases Nat.lt_or_ge (k + 1) L.length with z | z
      · exact z
      · rw [List.getElem?_eq_none z] at q1
        cases h0 : L[k]? with
        | none => rw [h0] at q1; cases q1
        | some s0 => rw [h0] at q1; cases s0 <;> cases q1
    have hk : k < L.length := by omega
    have hkA : k < A.size := hA ▸ hk
    have hkA1 : k + 1 < A.size := hA ▸ hk1
    obtain ⟨sl, hsl⟩ : ∃ sl, A[k]? = some sl := ⟨A[k], Array.getElem?_eq_getElem hkA⟩
    obtain ⟨sm, hsm⟩ : ∃ sm, A[k + 1]? = some sm := ⟨A[k + 1], Array.getElem?_eq_getElem hkA1⟩
    have n1 : ¬ k = k + 1 := by omega
    have n2 : ¬ k + 2 = k + 1 := by omega
    have n3 : ¬ k + 2 = k := by omega
    classical
    have key : ∃ A', storeLocals A k w = some A' ∧ A'.size = A.size ∧ (∀ j, A'[j]? = if j = k then some (.val w) else if j = k + 1 then some .second else if (sl = .second ∧ j + 1 = k) ∨ ((∃ u, sm = .val u ∧ u.category = 2) ∧ j = k + 2) then some .unset else A[j]?) := by
      by_cases hm : ∃ u, sm = .val u ∧ u.category = 2
      · obtain ⟨u, rfl, hu⟩ := hm
        have g := w1 (k + 1) u hsm hu
        have hk2 : k + 2 < A.size := (Array.getElem?_eq_some_iff.mp g).1
        cases sl with
        | unset =>
          refine ⟨((A.setIfInBounds k (.val w)).setIfInBounds (k + 2) .unset).setIfInBounds (k + 1) .second, ?_, by simp, fun j => ?_⟩
          · rw [sl_unset hsl]; exact ss_2c hkA hkA1 hk2 hc (by rw [get_set, if_neg n1]; exact hsm) hu
          · rw [get_set, get_set, get_set]
            by_cases e0 : j = k
            · subst e0; simp [hkA]
            · by_cases e1 : j = k + 1
              · subst e1; simp [hkA1]
              · by_cases e2 : j = k + 2
                · subst e2; simp [hk2, hu]
                · have e0' : ¬ k = j := fun z => e0 z.symm
                  have e1' : ¬ k + 1 = j := fun z => e1 z.symm
                  have e2' : ¬ k + 2 = j := fun z => e2 z.symm
                  simp [e0, e1, e2, e0', e1', e2']
        | second =>
          obtain ⟨j0, u0, rfl, g1, g2⟩ := w2 k hsl
          have hj0 : j0 < A.size := by omega
          refine ⟨(((A.setIfInBounds j0 .unset).setIfInBounds (j0 + 1) (.val w)).setIfInBounds (j0 + 1 + 2) .unset).setIfInBounds (j0 + 1 + 1) .second, ?_, by simp, fun j => ?_⟩
          · have m1 : ¬ j0 + 1 = j0 + 1 + 1 := by omega
            have m2 : ¬ j0 = j0 + 1 + 1 := by omega
            rw [sl_second hsl (show j0 + 1 - 1 < A.size by omega)]
            exact ss_2c (by simpa using hkA) (by simpa using hkA1) (by simpa using hk2) hc (by rw [get_set, if_neg m1, get_set, if_neg (by omega)]; exact hsm) hu
          · rw [get_set, get_set, get_set, get_set]
            by_cases e0 : j = j0 + 1
            · subst e0; simp [hkA]
            · by_cases e1 : j = j0 + 1 + 1
              · subst e1; simp [hkA1]
              · by_cases e2 : j = j0 + 1 + 2
                · subst e2; simp [hk2, hu]
                · by_cases e3 : j = j0
                  · subst e3
                    rw [if_neg (by omega), if_neg (by omega), if_neg (by omega), if_pos rfl, if_pos hj0, if_neg (by omega), if_neg (by omega), if_pos (Or.inl ⟨rfl, rfl⟩)]
                  · have e0' : ¬ j0 + 1 = j := fun z => e0 z.symm
                    have e1' : ¬ j0 + 1 + 1 = j := fun z => e1 z.symm
                    have e2' : ¬ j0 + 1 + 2 = j := fun z => e2 z.symm
                    have e3' : ¬ j0 = j := fun z => e3 z.symm
                    simp [e0, e1, e2, e3, e0', e1', e2', e3']
        | val u1 =>
          have hu1 : ¬ u1.category = 2 := fun z => by have := w1 k u1 hsl z; rw [hsm] at this; cases this
          refine ⟨((A.setIfInBounds k (.val w)).setIfInBounds (k + 2) .unset).setIfInBounds (k + 1) .second, ?_, by simp, fun j => ?_⟩
          · rw [sl_val1 hsl hu1]; exact ss_2c hkA hkA1 hk2 hc (by rw [get_set, if_neg n1]; exact hsm) hu
          · rw [get_set, get_set, get_set]
            by_cases e0 : j = k
            · subst e0; simp [hkA]
            · by_cases e1 : j = k + 1
              · subst e1; simp [hkA1]
              · by_cases e2 : j = k + 2
                · subst e2; simp [hk2, hu]
                · have e0' : ¬ k = j := fun z => e0 z.symm
                  have e1' : ¬ k + 1 = j := fun z => e1 z.symm
                  have e2' : ¬ k + 2 = j := fun z => e2 z.symm
                  simp [e0, e1, e2, e0', e1', e2']
      · cases sl with
        | unset =>
          refine ⟨(A.setIfInBounds k (.val w)).setIfInBounds (k + 1) .second, ?_, by simp, fun j => ?_⟩
          · rw [sl_unset hsl]; exact ss_2 hkA hkA1 hc (by rw [get_set, if_neg n1]; exact hsm) hm
          · rw [get_set, get_set]
            by_cases e0 : j = k
            · subst e0; simp [hkA]
            · by_cases e1 : j = k + 1
              · subst e1; simp [hkA1]
              · have e0' : ¬ k = j := fun z => e0 z.symm
                have e1' : ¬ k + 1 = j := fun z => e1 z.symm
                simp [e0, e1, e0', e1', hm]
        | second =>
          obtain ⟨j0, u0, rfl, g1, g2⟩ := w2 k hsl
          have hj0 : j0 < A.size := by omega
          have m1 : ¬ j0 + 1 = j0 + 1 + 1 := by omega
          have m2 : ¬ j0 = j0 + 1 + 1 := by omega
          refine ⟨((A.setIfInBounds j0 .unset).setIfInBounds (j0 + 1) (.val w)).setIfInBounds (j0 + 1 + 1) .second, ?_, by simp, fun j => ?_⟩
          · rw [sl_second hsl (show j0 + 1 - 1 < A.size by omega)]
            exact ss_2 (by simpa using hkA) (by simpa using hkA1) hc (by rw [get_set, if_neg m1, get_set, if_neg (by omega)]; exact hsm) hm
          · rw [get_set, get_set, get_set]
            by_cases e0 : j = j0 + 1
            · subst e0; simp [hkA]
            · by_cases e1 : j = j0 + 1 + 1
              · subst e1; simp [hkA1]
              · by_cases e3 : j = j0
                · subst e3
                  rw [if_neg (by omega), if_neg (by omega), if_pos rfl, if_pos hj0, if_neg (by omega), if_neg (by omega), if_pos (Or.inl ⟨rfl, rfl⟩)]
                · have e0' : ¬ j0 + 1 = j := fun z => e0 z.symm
                  have e1' : ¬ j0 + 1 + 1 = j := fun z => e1 z.symm
                  have e3' : ¬ j0 = j := fun z => e3 z.symm
                  simp [e0, e1, e3, e0', e1', e3', hm]
        | val u1 =>
          by_cases hu1 : u1.category = 2
          · refine ⟨((A.setIfInBounds (k + 1) .unset).setIfInBounds k (.val w)).setIfInBounds (k + 1) .second, ?_, by simp, fun j => ?_⟩
            · rw [sl_val2 hsl hu1 hkA1]
              exact ss_2 (o := .unset) (by simpa using hkA) (by simpa using hkA1) hc (by rw [get_set, if_neg n1, get_set, if_pos rfl, if_pos hkA1]) (by rintro ⟨u, z, -⟩; cases z)
            · rw [get_set, get_set, get_set]
              by_cases e0 : j = k
              · subst e0; simp [hkA]
              · by_cases e1 : j = k + 1
                · subst e1; simp [hkA1]
                · have e0' : ¬ k = j := fun z => e0 z.symm
                  have e1' : ¬ k + 1 = j := fun z => e1 z.symm
                  simp [e0, e1, e0', e1', hm]
          · refine ⟨(A.setIfInBounds k (.val w)).setIfInBounds (k + 1) .second, ?_, by simp, fun j => ?_⟩
            · rw [sl_val1 hsl hu1]; exact ss_2 hkA hkA1 hc (by rw [get_set, if_neg n1]; exact hsm) hm
            · rw [get_set, get_set]
              by_cases e0 : j = k
              · subst e0; simp [hkA]
              · by_cases e1 : j = k + 1
                · subst e1; simp [hkA1]
                · have e0' : ¬ k = j := fun z => e0 z.symm
                  have e1' : ¬ k + 1 = j := fun z => e1 z.symm
                  simp [e0, e1, e0', e1', hm]
    obtain ⟨A', k1, k2, k3⟩ := key
    refine ⟨A', k1, by rw [k2, hA]; simp, ⟨fun i u g1 g2 => ?_, fun i g1 => ?_⟩, fun i s g => ?_⟩
    · by_cases e1 : i = k
      · subst e1; rw [k3]; simp
      · have g1' := g1
        rw [k3, if_neg e1] at g1'
        split at g1'
        · cases g1'
        · rename_i e2
          split at g1'
          · cases g1'
          · rename_i e4
            have g3 := w1 i u g1' g2
            rw [k3]
            have c1 : ¬ i + 1 = k := fun e3 => by
              have : sl = .second := by rw [← e3] at hsl; exact Option.some.inj (hsl.symm.trans g3)
              exact e4 (Or.inl ⟨this, e3⟩)
            have c2 : ¬ i + 1 = k + 1 := by omega
            have c3 : ¬ ((sl = .second ∧ i + 1 + 1 = k) ∨ ((∃ u, sm = .val u ∧ u.category = 2) ∧ i + 1 = k + 2)) := fun z => by
              rcases z with ⟨z1, z2⟩ | ⟨z1, z2⟩
              · subst z2
                rw [z1] at hsl
                obtain ⟨j0, u0, y1, y2, y3⟩ := w2 _ hsl
                have : j0 = i + 1 := by omega
                subst this
                rw [g3] at y2; cases y2
              · omega
            rw [if_neg c1, if_neg c2, if_neg c3]
            exact g3
    · rw [k3] at g1
      split at g1
      · cases g1
      · rename_i e1
        split at g1
        · rename_i e2
          exact ⟨k, w, e2, by rw [k3]; simp, hc⟩
        · rename_i e2
          split at g1
          · cases g1
          · rename_i e4
            obtain ⟨j, u, z1, z2, z3⟩ := w2 i g1
            refine ⟨j, u, z1, ?_, z3⟩
            rw [k3]
            have c1 : ¬ j = k := by omega
            have c2 : ¬ j = k + 1 := fun e => by
              subst e
              exact e4 (Or.inr ⟨⟨u, Option.some.inj (hsm.symm.trans z2), z3⟩, by omega⟩)
            have c3 : ¬ ((sl = .second ∧ j + 1 = k) ∨ ((∃ u, sm = .val u ∧ u.category = 2) ∧ j = k + 2)) := fun z => by
              rcases z with ⟨y1, y2⟩ | ⟨⟨u', y1, y2⟩, y3⟩
              · exact e1 (z1.trans y2)
              · subst y3
                have g5 := w1 (k + 1) u' (y1 ▸ hsm) y2
                rw [z2] at g5; cases g5
            rw [if_neg c1, if_neg c2, if_neg c3]
            exact z2
    · rw [List.getElem?_set] at g
      split at g
      · rename_i e
        subst e
        have : k + 1 < (L.set k (.val v)).length := by simp [hk1]
        rw [if_pos this] at g
        cases g
        show A'[k + 1]? = some .second
        rw [k3]; simp
      · rename_i e
        have e' : ¬ i = k + 1 := fun z => e z.symm
        rw [List.getElem?_set] at g
        split at g
        · rename_i e0
          subst e0
          cases g
          exact ⟨w, hv, by rw [k3]; simp⟩
        · rename_i e0
          have e0' : ¬ i = k := fun z => e0 z.symm
          have g2 := hl i s g
          rw [k3, if_neg e0', if_neg e']
          split
          · rename_i e4
            cases s with
            | unset => trivial
            | second =>
              exfalso
              have g2' : A[i]? = some .second := g2
              rcases e4 with ⟨y1, y2⟩ | ⟨⟨u', y1, y2⟩, y3⟩
              · obtain ⟨j0, u0, x1, x2, x3⟩ := w2 k (y1 ▸ hsl)
                have : i = j0 := by omega
                subst this
                rw [x2] at g2'; cases g2'
              · subst y3
                rw [g] at q3
                simp [isSec] at q3
            | val v0 =>
              exfalso
              obtain ⟨w0, x1, x2⟩ := g2
              rcases e4 with ⟨y1, y2⟩ | ⟨⟨u', y1, y2⟩, y3⟩
              · obtain ⟨j0, u0, z1, z2, z3⟩ := w2 k (y1 ▸ hsl)
                have : i = j0 := by omega
                subst this
                have hw0 : w0 = u0 := by rw [x2] at z2; cases z2; rfl
                have hcat : v0.category = 2 := by rw [← x1.cat, hw0]; exact z3
                subst y2
                have : L[i + 1 - 1]? = some (.val v0) := g
                rw [this] at q2
                simp [isC2, hcat] at q2
              · subst y3
                have g5 := w1 (k + 1) u' (y1 ▸ hsm) y2
                rw [x2] at g5; cases g5
          · exact g2
  · cases hs
/-! The frame with which a method is entered -/
theorem entA_app (ws : List Value) : ∀ acc : Array Slot, ws.foldl (fun acc v => if v.category = 2 then (acc.push (.val v)).push .second else acc.push (.val v)) acc = acc ++ (entA ws).toArray := by
  induction ws with
  | nil => intro acc; simp [entA]
  | cons v r ih =>
    intro acc
    rw [List.foldl_cons, ih]
    show _ = acc ++ (if v.category = 2 then .val v :: .second :: entA r else .val v :: entA r).toArray
    by_cases h : v.category = 2
    · rw [if_pos h, if_pos h]; simp
    · rw [if_neg h, if_neg h]; simp
theorem argsToLocals_eq (ws : List Value) (n : Nat) : argsToLocals ws.toArray n = (entL ws n).toArray := by
  unfold argsToLocals entL
  have h := entA_app ws #[]
  simp only [List.foldl_toArray', List.size_toArray] at *
  simp [h]
theorem entA_len {ρ : List Addr} : ∀ {v w : List Value}, SR ρ v w → (entA w).length = (entA v).length
  | [], _, h => by cases h; rfl
  | _ :: _, _, ⟨w, ws, h1, h2, h3⟩ => by
    subst h1
    unfold entA
    rw [h2.cat]
    split <;> simp [entA_len h3]
theorem entA_rel {ρ : List Addr} : ∀ {v w : List Value}, SR ρ v w → ∀ (m i : Nat) (s : Slot), (entA v ++ List.replicate m .unset)[i]? = some s → SlR ρ s (entA w ++ List.replicate m .unset)[i]?
  | [], _, h, m, i, s, q => by
    cases h
    simp only [entA, List.nil_append] at q ⊢
    rw [List.getElem?_replicate] at q
    split at q
    · cases q; trivial
    · cases q
  | v :: vs, _, ⟨w, ws, h1, h2, h3⟩, m, i, s, q => by
    subst h1
    unfold entA at q ⊢
    rw [h2.cat]
    split
    · rename_i c
      rw [if_pos c] at q
      match i, q with
      | 0, q => simp at q; subst q; exact ⟨w, h2, by simp⟩
      | 1, q => simp at q; subst q; simp [SlR]
      | i + 2, q => simp at q ⊢; exact entA_rel h3 m i s q
    · rename_i c
      rw [if_neg c] at q
      match i, q with
      | 0, q => simp at q; subst q; exact ⟨w, h2, by simp⟩
      | i + 1, q => simp at q ⊢; exact entA_rel h3 m i s q
theorem entA_wf : ∀ (ws : List Value) (m : Nat), (∀ (i : Nat) w, (entA ws ++ List.replicate m .unset)[i]? = some (.val w) → w.category = 2 → (entA ws ++ List.replicate m .unset)[i + 1]? = some .second) ∧
    ∀ (i : Nat), (entA ws ++ List.replicate m .unset)[i]? = some .second → ∃ j w, i = j + 1 ∧ (entA ws ++ List.replicate m .unset)[j]? = some (.val w) ∧ w.category = 2
  | [], m => by
    constructor
    · intro i w q
      simp only [entA, List.nil_append, List.getElem?_replicate] at q
      split at q <;> cases q
    · intro i q
      simp only [entA, List.nil_append, List.getElem?_replicate] at q
      split at q <;> cases q
  | v :: vs, m => by
    obtain ⟨h1, h2⟩ := entA_wf vs m
    unfold entA
    split
    · rename_i c
      constructor
      · intro i w q
        match i, q with
        | 0, q => intro _; simp
        | 1, q => simp at q
        | i + 2, q => simp at q ⊢; exact h1 i w q
      · intro i q
        match i, q with
        | 0, q => simp at q
        | 1, q => exact ⟨0, v, rfl, by simp, c⟩
        | i + 2, q =>
          simp at q
          obtain ⟨j, w, e, g1, g2⟩ := h2 i q
          exact ⟨j + 2, w, by omega, by simpa using g1, g2⟩
    · rename_i c
      constructor
      · intro i w q
        match i, q with
        | 0, q => intro z; simp at q; subst q; exact absurd z c
        | i + 1, q => simp at q ⊢; exact h1 i w q
      · intro i q
        match i, q with
        | 0, q => simp at q
        | i + 1, q =>
          simp at q
          obtain ⟨j, w, e, g1, g2⟩ := h2 i q
          exact ⟨j + 1, w, by omega, by simpa using g1, g2⟩
theorem LR.enter {ρ : List Addr} {v w : List Value} (h : SR ρ v w) {n : Nat} (hn : (entA v).length ≤ n) : LR ρ (entL v n) (argsToLocals w.toArray n) ∧ (argsToLocals w.toArray n).size = n := by
  rw [argsToLocals_eq]
  have hl := entA_len h
  refine ⟨⟨by simp [entL, hl], ?_, fun i s q => ?_⟩, by simp [entL, hl]; omega⟩
  · obtain ⟨h1, h2⟩ := entA_wf w (n - (entA w).length)
    exact ⟨fun i u q c => by simpa [entL] using h1 i u (by simpa [entL] using q) c, fun i q => by
      obtain ⟨j, u, e, g1, g2⟩ := h2 i (by simpa [entL] using q)
      exact ⟨j, u, e, by simpa [entL] using g1, g2⟩⟩
  · unfold entL at q ⊢
    rw [hl]
    simpa using entA_rel h _ i s q
end Jvm.Own
namespace Jvm.RoadKit
open Sem ClassFile Op Lib Jvm.Stand Jvm.Free Jvm.LawKit
section New
variable {p : Program} {l : Launch} {e : Env} {R : Room} {s : State} {m : MethodId} {args : Array Value} {below : List Frame} {meth : Method} {c : Code} {T : State} {locs : List Loc} {cells slots : Nat}
theorem retI (X : Stand p l e R s m args below meth c T locs cells slots) (hx : p.tables.exec = Jvm.exec) {pc : Nat} {Ls : Array Slot} {z : Int32} {rest : List Value} (hret : meth.sig.returnType = some .int) (hd : decode c.code pc = .ok (.ireturn, 1)) {fs : List Frame}
    (hl : ∀ (f : JFrame) (acts : List Action), f.method = m → f.locked = none → f.entered = [] → (doReturn e (T.setTop f) acts (some (.int z))).1 = T.setFrames fs) : Steps p.tables e below (T.setTop (mkF m pc Ls (.int z :: rest))) (T.setFrames fs) := by
  have hm' : T.vm.method? m = some meth := X.method'
  have hn : narrow .int (.int z) = .int z := rfl
  show Steps p.tables e below (T.setTop { method := m, pc := pc, locals := Ls, stack := _ :: rest, locked := none }) _
  jvm_step X.here [X.here.top, hx, hd, hm', hret, hn]
  first | (intro acts; rw [hl _ acts rfl rfl rfl]) | rw [hl _ _ rfl rfl rfl]
  exact Steps.refl _
end New
end Jvm.RoadKit
namespace Jvm.Own
open Jvm Jvm.ClassFile Sem Op Lib Jvm.Free Jvm.Stand Jvm.LawKit Jvm.RoadKit Bundle
/-! The plain heap and the real one -/
def tyA (b : Bool) : FieldType := if b then .boolean else .int
def CR (P : PD) (Z : State) (h : Heap) (ρ : List Addr) (a : Addr) : ACell → Prop
  | .inl (c, fs) => ∃ cd, P.cls[c]? = some cd ∧ Exa Z h a cd.1 ∧ fs.length = cd.2.2.length ∧ ∀ (i : Nat) v fd, fs[i]? = some v → cd.2.2[i]? = some fd → ∃ w, VR ρ v w ∧ Fld Z h a cd.1 fd.1 fd.2.1 w
  | .inr (.inl (b, L)) => ∃ cl, Arr Z h a cl (tyA b) ∧ cl.slots.size = L.length ∧ L.length < 2 ^ 31 ∧ ∀ (i : Nat) x, L[i]? = some x → cl.slots[i]? = some (.int x)
  | .inr (.inr L) => ∃ cl, Arr Z h a cl .long ∧ cl.slots.size = L.length ∧ L.length < 2 ^ 31 ∧ ∀ (i : Nat) x, L[i]? = some x → cl.slots[i]? = some (.long x)
def HR (P : PD) (Z : State) (n0 : Nat) (h : Heap) (ρ : List Addr) (H : AHeap) : Prop :=
  n0 ≤ h.size ∧ ρ.length = H.length ∧ (∀ (i j : Nat) a, ρ[i]? = some a → ρ[j]? = some a → i = j) ∧ (∀ (k : Nat) a, ρ[k]? = some a → P.nr ≤ k → n0 ≤ a) ∧ ∀ (k : Nat) a c, ρ[k]? = some a → H[k]? = some c → CR P Z h ρ a c
section Heaps
variable {P : PD} {Z : State} {n0 : Nat} {h h' : Heap} {ρ : List Addr} {H : AHeap} {a : Addr} {k : Nat} {a0 : Array Value}
theorem CR.lt {c : ACell} (q : CR P Z h ρ a c) : a < h.size := by
  match c, q with
  | .inl (_, _), q => obtain ⟨cd, -, E, -⟩ := q; exact E.lt
  | .inr (.inl (_, _)), q => obtain ⟨cl, A, -⟩ := q; exact A.lt
  | .inr (.inr _), q => obtain ⟨cl, A, -⟩ := q; exact A.lt
theorem HR.at (q : HR P Z n0 h ρ H) {c : ACell} (hc : H[k]? = some c) : ∃ a, ρ[k]? = some a ∧ CR P Z h ρ a c := by
  obtain ⟨-, q1, -, -, q4⟩ := q
  have hk : k < ρ.length := by rw [q1]; exact (List.getElem?_eq_some_iff.mp hc).1
  exact ⟨ρ[k], List.getElem?_eq_getElem hk, q4 k _ c (List.getElem?_eq_getElem hk) hc⟩
theorem HR.lt (q : HR P Z n0 h ρ H) (hk : ρ[k]? = some a) : a < h.size := by
  obtain ⟨-, q1, -, -, q4⟩ := q
  have hk' : k < H.length := by rw [← q1]; exact (List.getElem?_eq_some_iff.mp hk).1
  exact (q4 k a _ hk (List.getElem?_eq_getElem hk')).lt
theorem CR.grow {t : List Addr} {c : ACell} (E : Ext h h') (q : CR P Z h ρ a c) : CR P Z h' (ρ ++ t) a c := by
  match c, q with
  | .inl (_, _), ⟨cd, q1, q2, q3, q4⟩ => exact ⟨cd, q1, q2.ext E, q3, fun i v fd g1 g2 => by obtain ⟨w, z1, z2⟩ := q4 i v fd g1 g2; exact ⟨w, z1.mono, z2.ext E⟩⟩
  | .inr (.inl (_, _)), ⟨cl, q1, q2⟩ => exact ⟨cl, q1.ext E, q2⟩
  | .inr (.inr _), ⟨cl, q1, q2⟩ => exact ⟨cl, q1.ext E, q2⟩
theorem HR.push {c : ACell} (q : HR P Z n0 h ρ H) (E : Ext h h') (hc : CR P Z h' (ρ ++ [h.size]) h.size c) : HR P Z n0 h' (ρ ++ [h.size]) (H ++ [c]) := by
  have q0 := q
  obtain ⟨q1, q2, q3, q4, q5⟩ := q
  have old : ∀ (i : Nat) b, (ρ ++ [h.size])[i]? = some b → (ρ[i]? = some b ∧ b < h.size) ∨ (i = ρ.length ∧ b = h.size) := fun i b g => by
    rw [List.getElem?_append] at g
    split at g
    · exact Or.inl ⟨g, q0.lt g⟩
    · rename_i z
      right
      have : i - ρ.length = 0 := by
        rcases Nat.eq_zero_or_pos (i - ρ.length) with y | y
        · exact y
        · rw [List.getElem?_eq_none (by simp; omega)] at g; cases g
      rw [this] at g
      simp at g
      exact ⟨by omega, g.symm⟩
  refine ⟨Nat.le_trans q1 E.1, by simp [q2], fun i j b g1 g2 => ?_, fun i b g1 g2 => ?_, fun i b c' g1 g2 => ?_⟩
  · rcases old i b g1 with ⟨y1, y2⟩ | ⟨y1, y2⟩ <;> rcases old j b g2 with ⟨z1, z2⟩ | ⟨z1, z2⟩
    · exact q3 i j b y1 z1
    · exact absurd (z2 ▸ y2) (Nat.lt_irrefl _)
    · exact absurd (y2 ▸ z2) (Nat.lt_irrefl _)
    · rw [y1, z1]
  · rcases old i b g1 with ⟨y1, y2⟩ | ⟨y1, y2⟩
    · exact q4 i b y1 g2
    · rw [y2]; exact q1
  · rcases old i b g1 with ⟨y1, y2⟩ | ⟨y1, y2⟩
    · have hi : i < H.length := by rw [← q2]; exact (List.getElem?_eq_some_iff.mp y1).1
      rw [List.getElem?_append_left hi] at g2
      exact (q5 i b c' y1 g2).grow E
    · subst y1 y2
      rw [q2] at g2
      simp at g2
      subst g2
      exact hc
theorem CR.other {v : Value} {sl : Nat} {b : Addr} {c : ACell} (W : Wr h h' a sl v) (ne : b ≠ a) (q : CR P Z h ρ b c) : CR P Z h' ρ b c := by
  match c, q with
  | .inl (_, _), ⟨cd, q1, q2, q3, q4⟩ => exact ⟨cd, q1, q2.wr W, q3, fun i v fd g1 g2 => by obtain ⟨w, z1, z2⟩ := q4 i v fd g1 g2; exact ⟨w, z1, z2.other W (Or.inl ne)⟩⟩
  | .inr (.inl (_, _)), ⟨cl, q1, q2⟩ => exact ⟨cl, q1.other W ne, q2⟩
  | .inr (.inr _), ⟨cl, q1, q2⟩ => exact ⟨cl, q1.other W ne, q2⟩
theorem HR.set {v : Value} {sl : Nat} {c : ACell} (q : HR P Z n0 h ρ H) (hk : ρ[k]? = some a) (W : Wr h h' a sl v) (hc : CR P Z h' ρ a c) : HR P Z n0 h' ρ (H.set k c) := by
  obtain ⟨q1, q2, q3, q4, q5⟩ := q
  refine ⟨by rw [W.size]; exact q1, by simp [q2], q3, q4, fun i b c' g1 g2 => ?_⟩
  rw [List.getElem?_set] at g2
  split at g2
  · rename_i e
    subst e
    split at g2
    · cases g2
      rw [hk] at g1; cases g1
      exact hc
    · cases g2
  · rename_i e
    exact (q5 i b c' g1 g2).other W fun z => e (q3 k i a hk (z ▸ g1))
theorem nodup_ne : ∀ {l : List String}, nodup l = true → ∀ {i j : Nat} {x y : String}, l[i]? = some x → l[j]? = some y → i ≠ j → x ≠ y
  | [], _, i, j, x, y, h1, _, _ => by simp at h1
  | z :: r, hn, i, j, x, y, h1, h2, ne => by
    simp only [nodup, Bool.and_eq_true, Bool.not_eq_true', List.contains_eq_mem, decide_eq_false_iff_not] at hn
    match i, j, h1, h2, ne with
    | 0, 0, _, _, ne => exact absurd rfl ne
    | 0, j + 1, h1, h2, _ => simp at h1 h2; subst h1; exact fun e => hn.1 (e ▸ List.mem_of_getElem? h2)
    | i + 1, 0, h1, h2, _ => simp at h1 h2; subst h2; exact fun e => hn.1 (e ▸ List.mem_of_getElem? h1)
    | i + 1, j + 1, h1, h2, ne => simp at h1 h2; exact nodup_ne hn.2 h1 h2 (fun e => ne (by rw [e]))
theorem laid_of {C : String} {f : FD} (w : (fWord C f).before a0 Z = true) : Laid Z a0 C C f.1 f.2.1 := by
  unfold fWord at w
  split at w
  · exact Or.inr w
  · exact Or.inl w
theorem HR.putF {c j : Nat} {fs : List Value} {cd : CD} {fd : FD} {v w : Value} (q : HR P Z n0 h ρ H) (hk : ρ[k]? = some a) (hc : H[k]? = some (.inl (c, fs))) (hcd : P.cls[c]? = some cd) (hfd : cd.2.2[j]? = some fd)
    (hck : cChk cd = true) (hl : ∀ f ∈ cd.2.2, (fWord cd.1 f).before a0 Z = true) (W : Wr h h' a (RoadKit.slotOf Z cd.1 fd.1 fd.2.1) w) (hv : VR ρ v w) : HR P Z n0 h' ρ (H.set k (.inl (c, fs.set j v))) := by
  obtain ⟨a', ha, cr⟩ := q.at hc
  rw [hk] at ha; cases ha
  obtain ⟨cd', q1, q2, q3, q4⟩ := cr
  rw [hcd] at q1; cases q1
  refine q.set hk W ⟨cd, hcd, q2.wr W, by simp [q3], fun i v0 fd' g1 g2 => ?_⟩
  simp only [cChk, Bool.and_eq_true, List.all_eq_true] at hck
  obtain ⟨n1, n2⟩ := hck
  by_cases e : j = i
  · subst e
    rw [hfd] at g2; cases g2
    rw [List.getElem?_set] at g1
    split at g1
    · split at g1
      · cases g1
        rename_i z
        obtain ⟨w0, -, F⟩ := q4 j _ fd (List.getElem?_eq_getElem z) hfd
        exact ⟨w, hv, F.same W⟩
      · cases g1
    · rename_i z; exact absurd rfl z
  · rw [List.getElem?_set_ne e] at g1
    obtain ⟨w0, z1, F⟩ := q4 i v0 fd' g1 g2
    refine ⟨w0, z1, F.other W (Or.inr ?_)⟩
    have m1 := List.mem_of_getElem? hfd
    have m2 := List.mem_of_getElem? g2
    have f1 := n2 fd m1
    have f2 := n2 fd' m2
    simp only [fChk, Bool.and_eq_true, decide_eq_true_eq] at f1 f2
    refine slot_ne (laid_of (hl fd' m2)) (laid_of (hl fd m1)) ?_ f2.1 f1.1
    exact nodup_ne n1 (i := i) (j := j) (by simp [g2]) (by simp [hfd]) (fun z => e z.symm)
theorem HR.wrI {b : Bool} {L : List Int32} {i : Nat} {x : Int32} (q : HR P Z n0 h ρ H) (hk : ρ[k]? = some a) (hc : H[k]? = some (.inr (.inl (b, L)))) (W : Wr h h' a i (.int x)) : HR P Z n0 h' ρ (H.set k (.inr (.inl (b, L.set i x)))) := by
  obtain ⟨a', ha, cr⟩ := q.at hc
  rw [hk] at ha; cases ha
  obtain ⟨cl, A, q2, q3, q4⟩ := cr
  have lt : i < cl.slots.size := by
    obtain ⟨cl', z1, -, z3, -⟩ := W
    rw [A.1] at z1; cases z1
    exact z3
  refine q.set hk W ⟨_, A.same W, by simp [sz_set, q2], by simpa using q3, fun j y g => ?_⟩
  rw [List.getElem?_set] at g
  split at g
  · rename_i e
    subst e
    split at g
    · cases g; simp [Cell.setSlot, lt]
    · cases g
  · rename_i e
    have := q4 j y g
    simp [Cell.setSlot, Array.getElem?_setIfInBounds, e, this]
theorem HR.wrJ {L : List Int64} {i : Nat} {x : Int64} (q : HR P Z n0 h ρ H) (hk : ρ[k]? = some a) (hc : H[k]? = some (.inr (.inr L))) (W : Wr h h' a i (.long x)) : HR P Z n0 h' ρ (H.set k (.inr (.inr (L.set i x)))) := by
  obtain ⟨a', ha, cr⟩ := q.at hc
  rw [hk] at ha; cases ha
  obtain ⟨cl, A, q2, q3, q4⟩ := cr
  have lt : i < cl.slots.size := by
    obtain ⟨cl', z1, -, z3, -⟩ := W
    rw [A.1] at z1; cases z1
    exact z3
  refine q.set hk W ⟨_, A.same W, by simp [sz_set, q2], by simpa using q3, fun j y g => ?_⟩
  rw [List.getElem?_set] at g
  split at g
  · rename_i e
    subst e
    split at g
    · cases g; simp [Cell.setSlot, lt]
    · cases g
  · rename_i e
    have := q4 j y g
    simp [Cell.setSlot, Array.getElem?_setIfInBounds, e, this]
end Heaps
theorem SR.int {ρ : List Addr} {x : Int32} {S Sc : List Value} (h : SR ρ (.int x :: S) Sc) : ∃ Sc', Sc = .int x :: Sc' ∧ SR ρ S Sc' := by
  obtain ⟨w, ws, h1, h2, h3⟩ := h
  exact ⟨ws, by rw [h1, show w = .int x from h2], h3⟩
theorem SR.long {ρ : List Addr} {x : Int64} {S Sc : List Value} (h : SR ρ (.long x :: S) Sc) : ∃ Sc', Sc = .long x :: Sc' ∧ SR ρ S Sc' := by
  obtain ⟨w, ws, h1, h2, h3⟩ := h
  exact ⟨ws, by rw [h1, show w = .long x from h2], h3⟩
theorem SR.ref {ρ : List Addr} {x : Nat} {S Sc : List Value} (h : SR ρ (.ref x :: S) Sc) : ∃ a Sc', ρ[x]? = some a ∧ Sc = .ref a :: Sc' ∧ SR ρ S Sc' := by
  obtain ⟨w, ws, h1, ⟨a, h2, h4⟩, h3⟩ := h
  exact ⟨a, ws, h2, by rw [h1, h4], h3⟩
theorem rdA_spec {α : Type} {L : List α} {j : Int32} {x : α} (h : rdA L j = some x) : ¬ j < 0 ∧ L[j.toNatClampNeg]? = some x := by
  unfold rdA at h
  split at h
  · cases h
  · rename_i q; exact ⟨q, h⟩
theorem wrA_spec {α : Type} {L L' : List α} {j : Int32} {x : α} (h : wrA L j x = some L') : ¬ j < 0 ∧ j.toNatClampNeg < L.length ∧ L' = L.set j.toNatClampNeg x := by
  unfold wrA at h
  split at h
  · cases h
  · rename_i q
    split at h
    · rename_i z; cases h; exact ⟨q, z, rfl⟩
    · cases h
end Jvm.Own
namespace Jvm.Own
open Jvm Jvm.ClassFile Sem Op Lib Jvm.Free Jvm.Stand Jvm.LawKit Jvm.RoadKit Bundle
theorem st1_len {L L' : List Slot} {k : Nat} {v : Value} (h : st1 L k v = some L') : L'.length = L.length := by
  unfold st1 at h
  split at h
  · cases h; simp
  · cases h
theorem st2_len {L L' : List Slot} {k : Nat} {v : Value} (h : st2 L k v = some L') : L'.length = L.length := by
  unfold st2 at h
  split at h
  · cases h; simp
  · cases h
theorem lrem_mod (x y : Int64) : x - (x / y) * y = x % y := by
  apply Int64.toInt_inj.mp
  have h1 := Int64.le_toInt (x % y)
  have h2 := Int64.toInt_lt (x % y)
  rw [Int64.toInt_sub, Int64.toInt_mul, Int64.toInt_div, Int.bmod_mul_bmod, Int.sub_bmod_bmod, Int.mul_comm (x.toInt.tdiv y.toInt), ← Int.tmod_def, ← Int64.toInt_mod]
  exact Int.bmod_eq_of_le_mul_two (by omega) (by omega)
theorem putOk_sim {ρ : List Addr} {ty : FieldType} {v w : Value} (h : putOk ty v = true) (hv : VR ρ v w) : narrow ty w = w ∧ fits ty w = true := by
  cases ty <;> cases v <;> first | (simp [putOk] at h; done) | skip
  · cases hv; exact ⟨rfl, rfl⟩
  · cases hv; exact ⟨rfl, rfl⟩
  · rename_i x
    cases hv
    simp only [putOk, Bool.or_eq_true, beq_iff_eq] at h
    rcases h with rfl | rfl
    · exact ⟨rfl, rfl⟩
    · exact ⟨rfl, rfl⟩
  · obtain ⟨a, -, rfl⟩ := hv; exact ⟨rfl, rfl⟩
theorem dflt_sim {ρ : List Addr} {ty : FieldType} (h : dfOk ty = true) : VR ρ (dflt ty) (defaultValue ty) := by
  cases ty <;> first | (simp [dfOk] at h; done) | exact rfl
theorem fieldOf_spec {P : PD} {c a : Nat} {cd : CD} {f : FD} (h1 : P.cls[c]? = some cd) (h2 : cd.2.2[a]? = some f) : fieldOf P c a = some f := by simp [fieldOf, h1, h2]
theorem in_wordsOf {P : PD} {d : MD} {x : Nat × It} {w : Jvm.Cond} (hd : d ∈ P.mth) (hx : x ∈ d.code) (hw : w ∈ iWords P d x) : w ∈ wordsOf P :=
  List.mem_append_right _ (List.mem_flatMap.mpr ⟨d, hd, List.mem_flatMap.mpr ⟨x, hx, hw⟩⟩)
theorem in_wordsC {P : PD} {cd : CD} {w : Jvm.Cond} (hd : cd ∈ P.cls) (hw : w ∈ cWords cd) : w ∈ wordsOf P :=
  List.mem_append_left _ (List.mem_append_left _ (List.mem_flatMap.mpr ⟨cd, hd, hw⟩))
theorem in_wordsM {P : PD} {y : MD} {j : Nat} {w : Jvm.Cond} (hd : P.mth[j]? = some y) (hj : 0 < j) (hw : w ∈ mWords y) : w ∈ wordsOf P := by
  refine List.mem_append_left _ (List.mem_append_right _ (List.mem_flatMap.mpr ⟨y, ?_, hw⟩))
  have : (P.mth.drop 1)[j - 1]? = some y := by rw [List.getElem?_drop]; rw [show 1 + (j - 1) = j by omega]; exact hd
  exact List.mem_of_getElem? this
theorem fWord_in {cd : CD} {f : FD} (h : f ∈ cd.2.2) : fWord cd.1 f ∈ cWords cd := List.mem_cons_of_mem _ (List.mem_cons_of_mem _ (List.mem_map.mpr ⟨f, h, rfl⟩))
theorem cChk_of {P : PD} (hP : chk P = true) {cd : CD} (h : cd ∈ P.cls) : cChk cd = true := by
  simp only [chk, Bool.and_eq_true, List.all_eq_true] at hP
  exact hP.1 cd h
theorem mChk_of {P : PD} (hP : chk P = true) {d : MD} (h : d ∈ P.mth) : mChk P d = true := by
  simp only [chk, Bool.and_eq_true, List.all_eq_true] at hP
  exact hP.2 d h
theorem cid_of {P : PD} (hP : chk P = true) {d : MD} (h : d ∈ P.mth) {cd : CD} (hc : P.cls[d.cid]? = some cd) : cd.1 = d.name.cls := by
  have := mChk_of hP h
  simp only [mChk, Bool.and_eq_true] at this
  have h4 := this.1.1.1.2
  unfold clsChk at h4
  rw [hc] at h4
  simpa using h4
section Step
variable {P : PD} {Z : State} {n0 : Nat} {a0 : Array Value} {l : Launch} {p : Program} {e : Env} {R : Room} {s : State} {m : MethodId} {args : Array Value} {below : List Frame} {meth : Method} {c : Code} {T : State} {locs : List Loc} {cells slots : Nat} {d : MD}
def Nxt (P : PD) (Z : State) (n0 : Nat) (l : Launch) (p : Program) (e : Env) (R : Room) (s : State) (m : MethodId) (args : Array Value) (below : List Frame) (meth : Method) (c : Code) (T : State) (cells slots : Nat) (ρ : List Addr) (g : JFrame) (pc' : Nat) (L L' : List Slot) (S' : List Value) (H1 : AHeap) : Prop :=
  ∃ T' locs' A' Sc', Stand p l e R s m args below meth c T' locs' cells slots ∧ L'.length = L.length ∧ LR ρ L' A' ∧ SR ρ S' Sc' ∧ HR P Z n0 T'.heap ρ H1 ∧ Fr n0 locs' ∧
    ∀ target, Steps p.tables e below (T'.setTop (mkF m pc' A' Sc')) target → Steps p.tables e below (T.setTop g) target
theorem Nxt.pure {ρ : List Addr} {H : AHeap} {g : JFrame} {pc' : Nat} {L L' : List Slot} {S' Sc' : List Value} {A' : Array Slot} (X : Stand p l e R s m args below meth c T locs cells slots) (hl : L'.length = L.length) (hL : LR ρ L' A') (hS : SR ρ S' Sc') (hH : HR P Z n0 T.heap ρ H) (hF : Fr n0 locs)
    (k : ∀ target, Steps p.tables e below (T.setTop (mkF m pc' A' Sc')) target → Steps p.tables e below (T.setTop g) target) : Nxt P Z n0 l p e R s m args below meth c T cells slots ρ g pc' L L' S' H :=
  ⟨T, locs, A', Sc', X, hl, hL, hS, hH, hF, k⟩
theorem Nxt.mem {ρ : List Addr} {H1 : AHeap} {g : JFrame} {pc' : Nat} {L L' : List Slot} {S' Sc' : List Value} {A' : Array Slot} {T' : State} {locs' : List Loc} (X : Stand p l e R s m args below meth c T' locs' cells slots) (hl : L'.length = L.length) (hL : LR ρ L' A') (hS : SR ρ S' Sc') (hH : HR P Z n0 T'.heap ρ H1) (hF : Fr n0 locs')
    (k : ∀ target, Steps p.tables e below (T'.setTop (mkF m pc' A' Sc')) target → Steps p.tables e below (T.setTop g) target) : Nxt P Z n0 l p e R s m args below meth c T cells slots ρ g pc' L L' S' H1 :=
  ⟨T', locs', A', Sc', X, hl, hL, hS, hH, hF, k⟩
set_option maxHeartbeats 4000000 in
theorem stepX (X : Stand p l e R s m args below meth c T locs cells slots) (hx : p.tables.exec = Jvm.exec) (hZ : Z.Warmed39 s.vm) (hown : s.vm.findClass d.name.cls = some m.cls) (hnm : meth.name = d.name.name) (hP : chk P = true) (hW : ∀ w ∈ wordsOf P, w.before a0 Z = true) (hdm : d ∈ P.mth)
    {pc len a : Nat} {er : List Bool} {b : Int} {i : Instr} (hit : (pc, i, len, er, a, b) ∈ d.code) (hd : decode c.code pc = .ok (i, len)) (hlen : lenOk i len = true) {ρ : List Addr} {L L' : List Slot} {S S' Sc : List Value} {H H1 : AHeap} {A : Array Slot}
    (hL : LR ρ L A) (hS : SR ρ S Sc) (hH : HR P Z n0 T.heap ρ H) (hF : Fr n0 locs) (h : xI P (d.name.name == "<init>") d.cid i a b L S H = some (L', S', H1)) :
    Nxt P Z n0 l p e R s m args below meth c T cells slots ρ (mkF m pc A Sc) (pc + len) L L' S' H1 := by
  have hWi : ∀ w ∈ iWords P d (pc, i, len, er, a, b), w.before a0 Z = true := fun w q => hW w (in_wordsOf hdm hit q)
  cases i with
  | aload_n k =>
    obtain rfl : len = 1 := by simpa [lenOk] using hlen
    simp only [xI] at h
    split at h
    · rename_i x q
      cases h
      obtain ⟨w, hv, hg⟩ := hL.get q
      obtain ⟨ad, h1, rfl⟩ := hv
      exact Nxt.pure X rfl hL ⟨_, _, rfl, ⟨ad, h1, rfl⟩, hS⟩ hH hF (fun t z => XS.aloadN (g := mkF m pc A Sc) X.here hx rfl hd hg rfl z)
    · cases h
  | aload k =>
    obtain rfl : len = 2 := by simpa [lenOk] using hlen
    simp only [xI] at h
    split at h
    · rename_i x q
      cases h
      obtain ⟨w, hv, hg⟩ := hL.get q
      obtain ⟨ad, h1, rfl⟩ := hv
      exact Nxt.pure X rfl hL ⟨_, _, rfl, ⟨ad, h1, rfl⟩, hS⟩ hH hF (fun t z => XS.aload (g := mkF m pc A Sc) X.here hx rfl hd hg rfl z)
    · cases h
  | iload_n k =>
    obtain rfl : len = 1 := by simpa [lenOk] using hlen
    simp only [xI] at h
    split at h
    · rename_i x q
      cases h
      obtain ⟨w, hv, hg⟩ := hL.get q
      obtain rfl : w = .int _ := hv
      exact Nxt.pure X rfl hL ⟨_, _, rfl, rfl, hS⟩ hH hF (fun t z => XS.iloadN (g := mkF m pc A Sc) X.here hx rfl hd hg z)
    · cases h
  | iload k =>
    obtain rfl : len = 2 := by simpa [lenOk] using hlen
    simp only [xI] at h
    split at h
    · rename_i x q
      cases h
      obtain ⟨w, hv, hg⟩ := hL.get q
      obtain rfl : w = .int _ := hv
      exact Nxt.pure X rfl hL ⟨_, _, rfl, rfl, hS⟩ hH hF (fun t z => XS.iload (g := mkF m pc A Sc) X.here hx rfl hd hg z)
    · cases h
  | lload_n k =>
    obtain rfl : len = 1 := by simpa [lenOk] using hlen
    simp only [xI] at h
    split at h
    · rename_i x q
      cases h
      obtain ⟨w, hv, hg⟩ := hL.get q
      obtain rfl : w = .long _ := hv
      exact Nxt.pure X rfl hL ⟨_, _, rfl, rfl, hS⟩ hH hF (fun t z => XT.lloadN (g := mkF m pc A Sc) X.here hx rfl hd hg z)
    · cases h
  | lload k =>
    obtain rfl : len = 2 := by simpa [lenOk] using hlen
    simp only [xI] at h
    split at h
    · rename_i x q
      cases h
      obtain ⟨w, hv, hg⟩ := hL.get q
      obtain rfl : w = .long _ := hv
      exact Nxt.pure X rfl hL ⟨_, _, rfl, rfl, hS⟩ hH hF (fun t z => XT.lload (g := mkF m pc A Sc) X.here hx rfl hd hg z)
    · cases h
  | istore_n k =>
    obtain rfl : len = 1 := by simpa [lenOk] using hlen
    simp only [xI] at h
    split at h
    · rename_i x S0
      obtain ⟨L1, q, e1⟩ := Option.map_eq_some_iff.mp h
      cases e1
      obtain ⟨S2, rfl, h2⟩ := hS.int
      obtain ⟨A', z1, z2⟩ := store1_sim hL q (show VR ρ (.int x) (.int x) from rfl) rfl
      exact Nxt.pure X (st1_len q) z2 h2 hH hF (fun t z => XS.istoreN (g := mkF m pc A _) X.here hx rfl hd rfl z1 z)
    · cases h
  | istore k =>
    obtain rfl : len = 2 := by simpa [lenOk] using hlen
    simp only [xI] at h
    split at h
    · rename_i x S0
      obtain ⟨L1, q, e1⟩ := Option.map_eq_some_iff.mp h
      cases e1
      obtain ⟨S2, rfl, h2⟩ := hS.int
      obtain ⟨A', z1, z2⟩ := store1_sim hL q (show VR ρ (.int x) (.int x) from rfl) rfl
      exact Nxt.pure X (st1_len q) z2 h2 hH hF (fun t z => XS.istore (g := mkF m pc A _) X.here hx rfl hd rfl z1 z)
    · cases h
  | astore_n k =>
    obtain rfl : len = 1 := by simpa [lenOk] using hlen
    simp only [xI] at h
    split at h
    · rename_i x S0
      obtain ⟨L1, q, e1⟩ := Option.map_eq_some_iff.mp h
      cases e1
      obtain ⟨ad, S2, h1, rfl, h2⟩ := hS.ref
      obtain ⟨A', z1, z2⟩ := store1_sim hL q (show VR ρ (.ref x) (.ref ad) from ⟨ad, h1, rfl⟩) rfl
      exact Nxt.pure X (st1_len q) z2 h2 hH hF (fun t z => XS.astoreN (g := mkF m pc A _) X.here hx rfl hd rfl rfl z1 z)
    · cases h
  | astore k =>
    obtain rfl : len = 2 := by simpa [lenOk] using hlen
    simp only [xI] at h
    split at h
    · rename_i x S0
      obtain ⟨L1, q, e1⟩ := Option.map_eq_some_iff.mp h
      cases e1
      obtain ⟨ad, S2, h1, rfl, h2⟩ := hS.ref
      obtain ⟨A', z1, z2⟩ := store1_sim hL q (show VR ρ (.ref x) (.ref ad) from ⟨ad, h1, rfl⟩) rfl
      exact Nxt.pure X (st1_len q) z2 h2 hH hF (fun t z => XS.astore (g := mkF m pc A _) X.here hx rfl hd rfl rfl z1 z)
    · cases h
  | lstore_n k =>
    obtain rfl : len = 1 := by simpa [lenOk] using hlen
    simp only [xI] at h
    split at h
    · rename_i x S0
      obtain ⟨L1, q, e1⟩ := Option.map_eq_some_iff.mp h
      cases e1
      obtain ⟨S2, rfl, h2⟩ := hS.long
      obtain ⟨A', z1, z2⟩ := store2_sim hL q (show VR ρ (.long x) (.long x) from rfl) rfl
      exact Nxt.pure X (st2_len q) z2 h2 hH hF (fun t z => XT.lstoreN (g := mkF m pc A _) X.here hx rfl hd rfl z1 z)
    · cases h
  | lstore k =>
    obtain rfl : len = 2 := by simpa [lenOk] using hlen
    simp only [xI] at h
    split at h
    · rename_i x S0
      obtain ⟨L1, q, e1⟩ := Option.map_eq_some_iff.mp h
      cases e1
      obtain ⟨S2, rfl, h2⟩ := hS.long
      obtain ⟨A', z1, z2⟩ := store2_sim hL q (show VR ρ (.long x) (.long x) from rfl) rfl
      exact Nxt.pure X (st2_len q) z2 h2 hH hF (fun t z => XT.lstore (g := mkF m pc A _) X.here hx rfl hd rfl z1 z)
    · cases h
  | iinc k dd =>
    obtain rfl : len = 3 := by simpa [lenOk] using hlen
    simp only [xI] at h
    split at h
    · rename_i x q0
      obtain ⟨L1, q, e1⟩ := Option.map_eq_some_iff.mp h
      cases e1
      obtain ⟨w, hv, hg⟩ := hL.get q0
      obtain rfl : w = .int _ := hv
      obtain ⟨A', z1, z2⟩ := store1_sim hL q (show VR ρ (.int (x + Int32.ofInt dd)) (.int (x + Int32.ofInt dd)) from rfl) rfl
      exact Nxt.pure X (st1_len q) z2 hS hH hF (fun t z => XS.iinc (g := mkF m pc A Sc) X.here hx rfl hd hg z1 z)
    · cases h
  | iconst v =>
    obtain rfl : len = 1 := by simpa [lenOk] using hlen
    simp only [xI] at h
    cases h
    exact Nxt.pure X rfl hL ⟨_, _, rfl, rfl, hS⟩ hH hF (fun t z => XS.iconst (g := mkF m pc A Sc) X.here hx rfl hd z)
  | bipush v =>
    obtain rfl : len = 2 := by simpa [lenOk] using hlen
    simp only [xI] at h
    cases h
    exact Nxt.pure X rfl hL ⟨_, _, rfl, rfl, hS⟩ hH hF (fun t z => XS.bipush (g := mkF m pc A Sc) X.here hx rfl hd z)
  | sipush v =>
    obtain rfl : len = 3 := by simpa [lenOk] using hlen
    simp only [xI] at h
    cases h
    exact Nxt.pure X rfl hL ⟨_, _, rfl, rfl, hS⟩ hH hF (fun t z => XS.sipush (g := mkF m pc A Sc) X.here hx rfl hd z)
  | lconst v =>
    obtain rfl : len = 1 := by simpa [lenOk] using hlen
    simp only [xI] at h
    cases h
    exact Nxt.pure X rfl hL ⟨_, _, rfl, rfl, hS⟩ hH hF (fun t z => XT.lconst (g := mkF m pc A Sc) X.here hx rfl hd z)
  | ldc k =>
    obtain rfl : len = 2 := by simpa [lenOk] using hlen
    simp only [xI] at h
    cases h
    have w1 := hWi (.constant d.name.cls k (Int32.ofInt b)) (List.mem_singleton.mpr rfl)
    exact Nxt.pure X rfl hL ⟨_, _, rfl, rfl, hS⟩ hH hF (fun t z => X.ldcInt hx hown (mvT hZ w1) (g := mkF m pc A Sc) rfl hd t z)
  | ldc2_w k =>
    obtain rfl : len = 3 := by simpa [lenOk] using hlen
    simp only [xI] at h
    cases h
    have w1 := hWi (.constantLong d.name.cls k (Int64.ofInt b)) (List.mem_singleton.mpr rfl)
    exact Nxt.pure X rfl hL ⟨_, _, rfl, rfl, hS⟩ hH hF (fun t z => X.ldc2Long hx hown (mvT hZ w1) (g := mkF m pc A Sc) rfl hd t z)
  | iadd =>
    obtain rfl : len = 1 := by simpa [lenOk] using hlen
    simp only [xI] at h
    split at h
    · rename_i y x S0
      cases h
      obtain ⟨S1, rfl, h1⟩ := hS.int
      obtain ⟨S2, rfl, h2⟩ := h1.int
      exact Nxt.pure X rfl hL ⟨_, _, rfl, rfl, h2⟩ hH hF (fun t z => XS.iadd (g := mkF m pc A _) X.here hx rfl hd rfl z)
    · cases h
  | isub =>
    obtain rfl : len = 1 := by simpa [lenOk] using hlen
    simp only [xI] at h
    split at h
    · rename_i y x S0
      cases h
      obtain ⟨S1, rfl, h1⟩ := hS.int
      obtain ⟨S2, rfl, h2⟩ := h1.int
      exact Nxt.pure X rfl hL ⟨_, _, rfl, rfl, h2⟩ hH hF (fun t z => XS.isub (g := mkF m pc A _) X.here hx rfl hd rfl z)
    · cases h
  | imul =>
    obtain rfl : len = 1 := by simpa [lenOk] using hlen
    simp only [xI] at h
    split at h
    · rename_i y x S0
      cases h
      obtain ⟨S1, rfl, h1⟩ := hS.int
      obtain ⟨S2, rfl, h2⟩ := h1.int
      exact Nxt.pure X rfl hL ⟨_, _, rfl, rfl, h2⟩ hH hF (fun t z => XS.imul (g := mkF m pc A _) X.here hx rfl hd rfl z)
    · cases h
  | iand =>
    obtain rfl : len = 1 := by simpa [lenOk] using hlen
    simp only [xI] at h
    split at h
    · rename_i y x S0
      cases h
      obtain ⟨S1, rfl, h1⟩ := hS.int
      obtain ⟨S2, rfl, h2⟩ := h1.int
      exact Nxt.pure X rfl hL ⟨_, _, rfl, rfl, h2⟩ hH hF (fun t z => XS.iand (g := mkF m pc A _) X.here hx rfl hd rfl z)
    · cases h
  | ior =>
    obtain rfl : len = 1 := by simpa [lenOk] using hlen
    simp only [xI] at h
    split at h
    · rename_i y x S0
      cases h
      obtain ⟨S1, rfl, h1⟩ := hS.int
      obtain ⟨S2, rfl, h2⟩ := h1.int
      exact Nxt.pure X rfl hL ⟨_, _, rfl, rfl, h2⟩ hH hF (fun t z => XT.ior (g := mkF m pc A _) X.here hx rfl hd rfl z)
    · cases h
  | ixor =>
    obtain rfl : len = 1 := by simpa [lenOk] using hlen
    simp only [xI] at h
    split at h
    · rename_i y x S0
      cases h
      obtain ⟨S1, rfl, h1⟩ := hS.int
      obtain ⟨S2, rfl, h2⟩ := h1.int
      exact Nxt.pure X rfl hL ⟨_, _, rfl, rfl, h2⟩ hH hF (fun t z => XT.ixor (g := mkF m pc A _) X.here hx rfl hd rfl z)
    · cases h
  | ishl =>
    obtain rfl : len = 1 := by simpa [lenOk] using hlen
    simp only [xI] at h
    split at h
    · rename_i y x S0
      cases h
      obtain ⟨S1, rfl, h1⟩ := hS.int
      obtain ⟨S2, rfl, h2⟩ := h1.int
      exact Nxt.pure X rfl hL ⟨_, _, rfl, rfl, h2⟩ hH hF (fun t z => XT.ishl (g := mkF m pc A _) X.here hx rfl hd rfl z)
    · cases h
  | ishr =>
    obtain rfl : len = 1 := by simpa [lenOk] using hlen
    simp only [xI] at h
    split at h
    · rename_i y x S0
      cases h
      obtain ⟨S1, rfl, h1⟩ := hS.int
      obtain ⟨S2, rfl, h2⟩ := h1.int
      exact Nxt.pure X rfl hL ⟨_, _, rfl, rfl, h2⟩ hH hF (fun t z => XT.ishr (g := mkF m pc A _) X.here hx rfl hd rfl z)
    · cases h
  | iushr =>
    obtain rfl : len = 1 := by simpa [lenOk] using hlen
    simp only [xI] at h
    split at h
    · rename_i y x S0
      cases h
      obtain ⟨S1, rfl, h1⟩ := hS.int
      obtain ⟨S2, rfl, h2⟩ := h1.int
      exact Nxt.pure X rfl hL ⟨_, _, rfl, rfl, h2⟩ hH hF (fun t z => XT.iushr (g := mkF m pc A _) X.here hx rfl hd rfl z)
    · cases h
  | ladd =>
    obtain rfl : len = 1 := by simpa [lenOk] using hlen
    simp only [xI] at h
    split at h
    · rename_i y x S0
      cases h
      obtain ⟨S1, rfl, h1⟩ := hS.long
      obtain ⟨S2, rfl, h2⟩ := h1.long
      exact Nxt.pure X rfl hL ⟨_, _, rfl, rfl, h2⟩ hH hF (fun t z => XT.ladd (g := mkF m pc A _) X.here hx rfl hd rfl z)
    · cases h
  | lsub =>
    obtain rfl : len = 1 := by simpa [lenOk] using hlen
    simp only [xI] at h
    split at h
    · rename_i y x S0
      cases h
      obtain ⟨S1, rfl, h1⟩ := hS.long
      obtain ⟨S2, rfl, h2⟩ := h1.long
      exact Nxt.pure X rfl hL ⟨_, _, rfl, rfl, h2⟩ hH hF (fun t z => XT.lsub (g := mkF m pc A _) X.here hx rfl hd rfl z)
    · cases h
  | lmul =>
    obtain rfl : len = 1 := by simpa [lenOk] using hlen
    simp only [xI] at h
    split at h
    · rename_i y x S0
      cases h
      obtain ⟨S1, rfl, h1⟩ := hS.long
      obtain ⟨S2, rfl, h2⟩ := h1.long
      exact Nxt.pure X rfl hL ⟨_, _, rfl, rfl, h2⟩ hH hF (fun t z => XT.lmul (g := mkF m pc A _) X.here hx rfl hd rfl z)
    · cases h
  | land =>
    obtain rfl : len = 1 := by simpa [lenOk] using hlen
    simp only [xI] at h
    split at h
    · rename_i y x S0
      cases h
      obtain ⟨S1, rfl, h1⟩ := hS.long
      obtain ⟨S2, rfl, h2⟩ := h1.long
      exact Nxt.pure X rfl hL ⟨_, _, rfl, rfl, h2⟩ hH hF (fun t z => XT.land (g := mkF m pc A _) X.here hx rfl hd rfl z)
    · cases h
  | lor =>
    obtain rfl : len = 1 := by simpa [lenOk] using hlen
    simp only [xI] at h
    split at h
    · rename_i y x S0
      cases h
      obtain ⟨S1, rfl, h1⟩ := hS.long
      obtain ⟨S2, rfl, h2⟩ := h1.long
      exact Nxt.pure X rfl hL ⟨_, _, rfl, rfl, h2⟩ hH hF (fun t z => XT.lor (g := mkF m pc A _) X.here hx rfl hd rfl z)
    · cases h
  | lxor =>
    obtain rfl : len = 1 := by simpa [lenOk] using hlen
    simp only [xI] at h
    split at h
    · rename_i y x S0
      cases h
      obtain ⟨S1, rfl, h1⟩ := hS.long
      obtain ⟨S2, rfl, h2⟩ := h1.long
      exact Nxt.pure X rfl hL ⟨_, _, rfl, rfl, h2⟩ hH hF (fun t z => XT.lxor (g := mkF m pc A _) X.here hx rfl hd rfl z)
    · cases h
  | lcmp =>
    obtain rfl : len = 1 := by simpa [lenOk] using hlen
    simp only [xI] at h
    split at h
    · rename_i y x S0
      cases h
      obtain ⟨S1, rfl, h1⟩ := hS.long
      obtain ⟨S2, rfl, h2⟩ := h1.long
      exact Nxt.pure X rfl hL ⟨_, _, rfl, rfl, h2⟩ hH hF (fun t z => XT.lcmp (g := mkF m pc A _) X.here hx rfl hd rfl z)
    · cases h
  | lshl =>
    obtain rfl : len = 1 := by simpa [lenOk] using hlen
    simp only [xI] at h
    split at h
    · rename_i y x S0
      cases h
      obtain ⟨S1, rfl, h1⟩ := hS.int
      obtain ⟨S2, rfl, h2⟩ := h1.long
      exact Nxt.pure X rfl hL ⟨_, _, rfl, rfl, h2⟩ hH hF (fun t z => XT.lshl (g := mkF m pc A _) X.here hx rfl hd rfl z)
    · cases h
  | lshr =>
    obtain rfl : len = 1 := by simpa [lenOk] using hlen
    simp only [xI] at h
    split at h
    · rename_i y x S0
      cases h
      obtain ⟨S1, rfl, h1⟩ := hS.int
      obtain ⟨S2, rfl, h2⟩ := h1.long
      exact Nxt.pure X rfl hL ⟨_, _, rfl, rfl, h2⟩ hH hF (fun t z => XT.lshr (g := mkF m pc A _) X.here hx rfl hd rfl z)
    · cases h
  | lushr =>
    obtain rfl : len = 1 := by simpa [lenOk] using hlen
    simp only [xI] at h
    split at h
    · rename_i y x S0
      cases h
      obtain ⟨S1, rfl, h1⟩ := hS.int
      obtain ⟨S2, rfl, h2⟩ := h1.long
      exact Nxt.pure X rfl hL ⟨_, _, rfl, rfl, h2⟩ hH hF (fun t z => XT.lushr (g := mkF m pc A _) X.here hx rfl hd rfl z)
    · cases h
  | idiv =>
    obtain rfl : len = 1 := by simpa [lenOk] using hlen
    simp only [xI] at h
    split at h
    · rename_i y x S0
      split at h
      · cases h
      · rename_i hy
        cases h
        obtain ⟨S1, rfl, h1⟩ := hS.int
        obtain ⟨S2, rfl, h2⟩ := h1.int
        exact Nxt.pure X rfl hL ⟨_, _, rfl, rfl, h2⟩ hH hF (fun t z => XS.idiv (g := mkF m pc A _) X.here hx rfl hd rfl hy z)
    · cases h
  | irem =>
    obtain rfl : len = 1 := by simpa [lenOk] using hlen
    simp only [xI] at h
    split at h
    · rename_i y x S0
      split at h
      · cases h
      · rename_i hy
        cases h
        obtain ⟨S1, rfl, h1⟩ := hS.int
        obtain ⟨S2, rfl, h2⟩ := h1.int
        exact Nxt.pure X rfl hL ⟨_, _, rfl, rfl, h2⟩ hH hF (fun t z => iremM (g := mkF m pc A _) X hx rfl hd rfl hy z)
    · cases h
  | ldiv =>
    obtain rfl : len = 1 := by simpa [lenOk] using hlen
    simp only [xI] at h
    split at h
    · rename_i y x S0
      split at h
      · cases h
      · rename_i hy
        cases h
        obtain ⟨S1, rfl, h1⟩ := hS.long
        obtain ⟨S2, rfl, h2⟩ := h1.long
        exact Nxt.pure X rfl hL ⟨_, _, rfl, rfl, h2⟩ hH hF (fun t z => XT.ldiv (g := mkF m pc A _) X.here hx rfl hd rfl hy z)
    · cases h
  | lrem =>
    obtain rfl : len = 1 := by simpa [lenOk] using hlen
    simp only [xI] at h
    split at h
    · rename_i y x S0
      split at h
      · cases h
      · rename_i hy
        cases h
        obtain ⟨S1, rfl, h1⟩ := hS.long
        obtain ⟨S2, rfl, h2⟩ := h1.long
        exact Nxt.pure X rfl hL ⟨_, _, rfl, rfl, h2⟩ hH hF (fun t z => XT.lrem (g := mkF m pc A _) X.here hx rfl hd rfl hy (by rw [lrem_mod]; exact z))
    · cases h
  | i2l =>
    obtain rfl : len = 1 := by simpa [lenOk] using hlen
    simp only [xI] at h
    split at h
    · rename_i x S0
      cases h
      obtain ⟨S1, rfl, h1⟩ := hS.int
      exact Nxt.pure X rfl hL ⟨_, _, rfl, rfl, h1⟩ hH hF (fun t z => XT.i2l (g := mkF m pc A _) X.here hx rfl hd rfl z)
    · cases h
  | l2i =>
    obtain rfl : len = 1 := by simpa [lenOk] using hlen
    simp only [xI] at h
    split at h
    · rename_i x S0
      cases h
      obtain ⟨S1, rfl, h1⟩ := hS.long
      exact Nxt.pure X rfl hL ⟨_, _, rfl, rfl, h1⟩ hH hF (fun t z => XT.l2i (g := mkF m pc A _) X.here hx rfl hd rfl z)
    · cases h
  | dup =>
    obtain rfl : len = 1 := by simpa [lenOk] using hlen
    simp only [xI] at h
    split at h
    · rename_i x S0
      cases h
      obtain ⟨S1, rfl, h1⟩ := hS.int
      exact Nxt.pure X rfl hL ⟨_, _, rfl, rfl, _, _, rfl, rfl, h1⟩ hH hF (fun t z => XS.dup (g := mkF m pc A _) X.here hx rfl hd rfl rfl z)
    · rename_i x S0
      cases h
      obtain ⟨ad, S1, g1, rfl, h1⟩ := hS.ref
      exact Nxt.pure X rfl hL ⟨_, _, rfl, ⟨ad, g1, rfl⟩, _, _, rfl, ⟨ad, g1, rfl⟩, h1⟩ hH hF (fun t z => XS.dup (g := mkF m pc A _) X.here hx rfl hd rfl rfl z)
    · cases h
  | dup2 =>
    obtain rfl : len = 1 := by simpa [lenOk] using hlen
    simp only [xI] at h
    split at h
    · rename_i x y S0
      cases h
      obtain ⟨S1, rfl, h1⟩ := hS.int
      obtain ⟨ad, S2, g1, rfl, h2⟩ := h1.ref
      exact Nxt.pure X rfl hL ⟨_, _, rfl, rfl, _, _, rfl, ⟨ad, g1, rfl⟩, _, _, rfl, rfl, _, _, rfl, ⟨ad, g1, rfl⟩, h2⟩ hH hF (fun t z => XT.dup2 (g := mkF m pc A _) X.here hx rfl hd rfl rfl rfl z)
    · rename_i x S0
      cases h
      obtain ⟨S1, rfl, h1⟩ := hS.long
      exact Nxt.pure X rfl hL ⟨_, _, rfl, rfl, _, _, rfl, rfl, h1⟩ hH hF (fun t z => XT.dup2L (g := mkF m pc A _) X.here hx rfl hd rfl z)
    · cases h
  | pop =>
    obtain rfl : len = 1 := by simpa [lenOk] using hlen
    simp only [xI] at h
    split at h
    · rename_i x S0
      cases h
      obtain ⟨S1, rfl, h1⟩ := hS.int
      exact Nxt.pure X rfl hL h1 hH hF (fun t z => XT.pop (g := mkF m pc A _) X.here hx rfl hd rfl rfl z)
    · cases h
  | getfield k =>
    obtain rfl : len = 3 := by simpa [lenOk] using hlen
    simp only [xI] at h
    split at h
    · rename_i o S0
      obtain ⟨ad, S1, g1, rfl, h1⟩ := hS.ref
      split at h
      · rename_i c0 fs hc0
        split at h
        · rename_i ec
          subst ec
          obtain ⟨ad', g2, cd, q1, q2, q3, q4⟩ := hH.at hc0
          rw [g1] at g2; cases g2
          have hcd := cid_of hP hdm q1
          have core : ∀ v, fs[a]? = some v → ∃ w T2, VR ρ v w ∧ Stand p l e R s m args below meth c T2 locs cells slots ∧ T2.heap = T.heap ∧ ∀ target, Steps p.tables e below (T2.setTop (mkF m (pc + 3) A (w :: S1))) target → Steps p.tables e below (T.setTop (mkF m pc A (.ref ad :: S1))) target := fun v hv => by
            have ha : a < cd.2.2.length := by rw [← q3]; exact (List.getElem?_eq_some_iff.mp hv).1
            obtain ⟨w, hvw, F⟩ := q4 a v _ hv (List.getElem?_eq_getElem ha)
            have w1 := hWi (.fieldLink d.name.cls k d.name.cls cd.2.2[a].1 cd.2.2[a].2.1) (by
              show _ ∈ fLink P d k a
              unfold fLink
              rw [fieldOf_spec q1 (List.getElem?_eq_getElem ha)]
              exact List.mem_singleton.mpr rfl)
            rw [hcd] at F
            obtain ⟨T2, X2, e2, st2⟩ := getF X hx hZ hown (host := "") (Or.inl w1) Via.refl rfl F (g := mkF m pc A (.ref ad :: S1)) rfl rfl hd
            exact ⟨w, T2, hvw, X2, e2, st2⟩
          split at h
          · rename_i x hv
            cases h
            obtain ⟨w, T2, hvw, X2, e2, st2⟩ := core _ hv
            exact Nxt.mem X2 rfl hL ⟨_, _, rfl, hvw, h1⟩ (by rw [e2]; exact hH) hF st2
          · rename_i x hv
            cases h
            obtain ⟨w, T2, hvw, X2, e2, st2⟩ := core _ hv
            exact Nxt.mem X2 rfl hL ⟨_, _, rfl, hvw, h1⟩ (by rw [e2]; exact hH) hF st2
          · rename_i x hv
            cases h
            obtain ⟨w, T2, hvw, X2, e2, st2⟩ := core _ hv
            exact Nxt.mem X2 rfl hL ⟨_, _, rfl, hvw, h1⟩ (by rw [e2]; exact hH) hF st2
          · cases h
        · cases h
      · cases h
    · cases h
  | putfield k =>
    obtain rfl : len = 3 := by simpa [lenOk] using hlen
    simp only [xI] at h
    split at h
    · rename_i v o S0
      obtain ⟨w, Sx, rfl, hvw, hS1⟩ := hS
      obtain ⟨ad, S1, g1, rfl, h1⟩ := hS1.ref
      split at h
      · rename_i c0 fs hc0
        split at h
        · rename_i ec
          obtain ⟨ec, enr⟩ := ec
          subst ec
          split at h
          · rename_i nm ds ty fin hf
            split at h
            · rename_i hok
              cases h
              simp only [Bool.and_eq_true] at hok
              obtain ⟨hok, hfin⟩ := hok
              obtain ⟨ad', g2, cd, q1, q2, q3, q4⟩ := hH.at hc0
              rw [g1] at g2; cases g2
              have hcd := cid_of hP hdm q1
              rw [q1] at hf
              have hf' : cd.2.2[a]? = some (nm, ds, ty, fin) := hf
              have ha : a < fs.length := by rw [q3]; exact (List.getElem?_eq_some_iff.mp hf').1
              obtain ⟨w0, -, F⟩ := q4 a _ _ (List.getElem?_eq_getElem ha) hf'
              have w1 := hWi (.fieldLink d.name.cls k d.name.cls nm ds) (by
                show _ ∈ fLink P d k a
                unfold fLink
                rw [fieldOf_spec q1 hf']
                exact List.mem_singleton.mpr rfl)
              have hcm : cd ∈ P.cls := List.mem_of_getElem? q1
              have w2 := hW _ (in_wordsC hcm (fWord_in (List.mem_of_getElem? hf')))
              have w3 := hW (.instantiable cd.1 cd.2.1) (in_wordsC hcm (List.mem_cons_self ..))
              have hck := cChk_of hP hcm
              have hck' := hck
              simp only [cChk, Bool.and_eq_true, List.all_eq_true] at hck'
              have f1 := hck'.2 _ (List.mem_of_getElem? hf')
              simp only [fChk, Bool.and_eq_true, decide_eq_true_eq] at f1
              obtain ⟨p1, p2⟩ := putOk_sim hok hvw
              have Ly : (Jvm.Cond.lays cd.1 cd.1 nm ds).before a0 Z = true ∨ ((Jvm.Cond.laysFinal cd.1 cd.1 nm ds).before a0 Z = true ∧ d.name.cls = cd.1 ∧ meth.name = "<init>") := by
                unfold fWord at w2
                cases fin with
                | false => exact Or.inl w2
                | true => exact Or.inr ⟨w2, hcd.symm, by rw [hnm]; simpa using hfin⟩
              obtain ⟨T2, h2, X2, e2, W2, st2⟩ := putF X hx hZ hown (host := "") (R0 := d.name.cls) (O := cd.1) (Or.inl w1) (by rw [hcd]; exact Via.refl) rfl F q2 Ly w3 f1.1 p1 p2 (g := mkF m pc A (w :: .ref ad :: S1)) rfl rfl hd
              have hH2 := hH.putF (a0 := a0) g1 hc0 q1 hf' hck (fun f hfm => hW _ (in_wordsC hcm (fWord_in hfm))) W2 hvw
              exact Nxt.mem X2 rfl hL h1 (by rw [e2]; exact hH2) (Fr.snoc X2 hF (hH.2.2.2.1 _ _ g1 enr)) st2
            · cases h
          · cases h
        · cases h
      · cases h
    · cases h
  | iaload =>
    obtain rfl : len = 1 := by simpa [lenOk] using hlen
    simp only [xI] at h
    split at h
    · rename_i j o S0
      obtain ⟨S1, rfl, h1⟩ := hS.int
      obtain ⟨ad, S2, g1, rfl, h2⟩ := h1.ref
      split at h
      · rename_i B hc0
        obtain ⟨x, q, e1⟩ := Option.map_eq_some_iff.mp h
        cases e1
        obtain ⟨hj, hat⟩ := rdA_spec q
        obtain ⟨ad', g2, cl, Ar, z1, z2, z3⟩ := hH.at hc0
        rw [g1] at g2; cases g2
        have hin : ¬ (j < 0 ∨ cl.slots.size ≤ j.toNatClampNeg) := by
          have := (List.getElem?_eq_some_iff.mp hat).1
          rintro (y | y)
          · exact hj y
          · omega
        exact Nxt.pure X rfl hL ⟨_, _, rfl, rfl, h2⟩ hH hF (fun t z => X.iaload hx (j := j) (v := .int x) Ar.1 (State.isArrayOf_alike hZ.alike Ar.2.1) Ar.2.2 hin (z3 _ _ hat) (g := mkF m pc A _) rfl rfl hd t z)
      · cases h
    · cases h
  | baload =>
    obtain rfl : len = 1 := by simpa [lenOk] using hlen
    simp only [xI] at h
    split at h
    · rename_i j o S0
      obtain ⟨S1, rfl, h1⟩ := hS.int
      obtain ⟨ad, S2, g1, rfl, h2⟩ := h1.ref
      split at h
      · rename_i B hc0
        obtain ⟨x, q, e1⟩ := Option.map_eq_some_iff.mp h
        cases e1
        obtain ⟨hj, hat⟩ := rdA_spec q
        obtain ⟨ad', g2, cl, Ar, z1, z2, z3⟩ := hH.at hc0
        rw [g1] at g2; cases g2
        have hin : ¬ (j < 0 ∨ cl.slots.size ≤ j.toNatClampNeg) := by
          have := (List.getElem?_eq_some_iff.mp hat).1
          rintro (y | y)
          · exact hj y
          · omega
        exact Nxt.pure X rfl hL ⟨_, _, rfl, rfl, h2⟩ hH hF (fun t z => X.baloadBooleans hx (j := j) (v := .int x) Ar.1 (State.isArrayOf_alike hZ.alike Ar.2.1) Ar.2.2 hin (z3 _ _ hat) (g := mkF m pc A _) rfl rfl hd t z)
      · cases h
    · cases h
  | laload =>
    obtain rfl : len = 1 := by simpa [lenOk] using hlen
    simp only [xI] at h
    split at h
    · rename_i j o S0
      obtain ⟨S1, rfl, h1⟩ := hS.int
      obtain ⟨ad, S2, g1, rfl, h2⟩ := h1.ref
      split at h
      · rename_i B hc0
        obtain ⟨x, q, e1⟩ := Option.map_eq_some_iff.mp h
        cases e1
        obtain ⟨hj, hat⟩ := rdA_spec q
        obtain ⟨ad', g2, cl, Ar, z1, z2, z3⟩ := hH.at hc0
        rw [g1] at g2; cases g2
        have hin : ¬ (j < 0 ∨ cl.slots.size ≤ j.toNatClampNeg) := by
          have := (List.getElem?_eq_some_iff.mp hat).1
          rintro (y | y)
          · exact hj y
          · omega
        exact Nxt.pure X rfl hL ⟨_, _, rfl, rfl, h2⟩ hH hF (fun t z => X.laload hx (j := j) (v := .long x) Ar.1 (State.isArrayOf_alike hZ.alike Ar.2.1) Ar.2.2 hin (z3 _ _ hat) (g := mkF m pc A _) rfl rfl hd t z)
      · cases h
    · cases h
  | iastore =>
    obtain rfl : len = 1 := by simpa [lenOk] using hlen
    simp only [xI] at h
    split at h
    · rename_i x j o S0
      obtain ⟨S1, rfl, h1⟩ := hS.int
      obtain ⟨S2, rfl, h2⟩ := h1.int
      obtain ⟨ad, S3, g1, rfl, h3⟩ := h2.ref
      split at h
      · rename_i B hc0
        split at h
        · rename_i enr
          obtain ⟨B', q, e1⟩ := Option.map_eq_some_iff.mp h
          cases e1
          obtain ⟨hj, hlt, rfl⟩ := wrA_spec q
          obtain ⟨ad', g2, cl, Ar, z1, z2, z3⟩ := hH.at hc0
          rw [g1] at g2; cases g2
          have hin : ¬ (j < 0 ∨ cl.slots.size ≤ j.toNatClampNeg) := by
            rintro (y | y)
            · exact hj y
            · omega
          obtain ⟨T2, h2', X2, e2, W2, st2⟩ := stI X hx hZ rfl Ar (j := j) (x := x) hin (g := mkF m pc A _) rfl rfl hd
          exact Nxt.mem X2 rfl hL h3 (by rw [e2]; exact hH.wrI g1 hc0 W2) (Fr.snoc X2 hF (hH.2.2.2.1 _ _ g1 enr)) st2
        · cases h
      · cases h
    · cases h
  | bastore =>
    obtain rfl : len = 1 := by simpa [lenOk] using hlen
    simp only [xI] at h
    split at h
    · rename_i x j o S0
      obtain ⟨S1, rfl, h1⟩ := hS.int
      obtain ⟨S2, rfl, h2⟩ := h1.int
      obtain ⟨ad, S3, g1, rfl, h3⟩ := h2.ref
      split at h
      · rename_i B hc0
        split at h
        · rename_i enr
          obtain ⟨B', q, e1⟩ := Option.map_eq_some_iff.mp h
          cases e1
          obtain ⟨hj, hlt, rfl⟩ := wrA_spec q
          obtain ⟨ad', g2, cl, Ar, z1, z2, z3⟩ := hH.at hc0
          rw [g1] at g2; cases g2
          have hin : ¬ (j < 0 ∨ cl.slots.size ≤ j.toNatClampNeg) := by
            rintro (y | y)
            · exact hj y
            · omega
          obtain ⟨T2, h2', X2, e2, W2, st2⟩ := stZ X hx hZ rfl Ar (j := j) (x := x) hin (g := mkF m pc A _) rfl rfl hd
          exact Nxt.mem X2 rfl hL h3 (by rw [e2]; exact hH.wrI g1 hc0 W2) (Fr.snoc X2 hF (hH.2.2.2.1 _ _ g1 enr)) st2
        · cases h
      · cases h
    · cases h
  | lastore =>
    obtain rfl : len = 1 := by simpa [lenOk] using hlen
    simp only [xI] at h
    split at h
    · rename_i x j o S0
      obtain ⟨S1, rfl, h1⟩ := hS.long
      obtain ⟨S2, rfl, h2⟩ := h1.int
      obtain ⟨ad, S3, g1, rfl, h3⟩ := h2.ref
      split at h
      · rename_i B hc0
        split at h
        · rename_i enr
          obtain ⟨B', q, e1⟩ := Option.map_eq_some_iff.mp h
          cases e1
          obtain ⟨hj, hlt, rfl⟩ := wrA_spec q
          obtain ⟨ad', g2, cl, Ar, z1, z2, z3⟩ := hH.at hc0
          rw [g1] at g2; cases g2
          have hin : ¬ (j < 0 ∨ cl.slots.size ≤ j.toNatClampNeg) := by
            rintro (y | y)
            · exact hj y
            · omega
          obtain ⟨T2, h2', X2, e2, W2, st2⟩ := stJ X hx hZ rfl Ar (j := j) (x := x) hin (g := mkF m pc A _) rfl rfl hd
          exact Nxt.mem X2 rfl hL h3 (by rw [e2]; exact hH.wrJ g1 hc0 W2) (Fr.snoc X2 hF (hH.2.2.2.1 _ _ g1 enr)) st2
        · cases h
      · cases h
    · cases h
  | arraylength =>
    obtain rfl : len = 1 := by simpa [lenOk] using hlen
    simp only [xI] at h
    split at h
    · rename_i o S0
      obtain ⟨ad, S1, g1, rfl, h1⟩ := hS.ref
      split at h
      · rename_i bb B hc0
        cases h
        obtain ⟨ad', g2, cl, Ar, z1, z2, z3⟩ := hH.at hc0
        rw [g1] at g2; cases g2
        exact Nxt.pure X rfl hL ⟨_, _, rfl, rfl, h1⟩ hH hF (fun t z => X.arraylength hx (cell := cl) Ar.1 (State.isArrayOf_alike hZ.alike Ar.2.1) (g := mkF m pc A _) rfl rfl hd t (by rw [z1]; exact z))
      · cases h
    · cases h
  | _ => simp [xI] at h
set_option maxHeartbeats 4000000 in
theorem stepN (X : Stand p l e R s m args below meth c T locs cells slots) (hx : p.tables.exec = Jvm.exec) (hZ : Z.Warmed39 s.vm) (hown : s.vm.findClass d.name.cls = some m.cls) (hP : chk P = true) (hW : ∀ w ∈ wordsOf P, w.before a0 Z = true) (hdm : d ∈ P.mth)
    {pc len a ks : Nat} {er : List Bool} {b : Int} {i : Instr} (hit : (pc, i, len, er, a, b) ∈ d.code) (hd : decode c.code pc = .ok (i, len)) (hlen : lenOk i len = true) {ρ : List Addr} {S S' Sc : List Value} {H H1 : AHeap} {A : Array Slot}
    (hS : SR ρ S Sc) (hH : HR P Z n0 T.heap ρ H) (h : xN P i a S H = some (S', H1, ks)) (hc : cells + 1 ≤ R.cells) (hl : slots + ks ≤ R.slots) :
    ∃ T' ad Sc', Stand p l e R s m args below meth c T' locs (cells + 1) (slots + ks) ∧ SR (ρ ++ [ad]) S' Sc' ∧ HR P Z n0 T'.heap (ρ ++ [ad]) H1 ∧
      ∀ target, Steps p.tables e below (T'.setTop (mkF m (pc + len) A Sc')) target → Steps p.tables e below (T.setTop (mkF m pc A Sc)) target := by
  have hWi : ∀ w ∈ iWords P d (pc, i, len, er, a, b), w.before a0 Z = true := fun w q => hW w (in_wordsOf hdm hit q)
  cases i with
  | new k =>
    obtain rfl : len = 3 := by simpa [lenOk] using hlen
    simp only [xN] at h
    split at h
    · rename_i cd q1
      cases h
      have hcm : cd ∈ P.cls := List.mem_of_getElem? q1
      have w1 := hWi (.classLink d.name.cls k cd.1) (by simp only [iWords, q1]; exact List.mem_singleton.mpr rfl)
      have w2 := hW (.instantiable cd.1 cd.2.1) (in_wordsC hcm (List.mem_cons_self ..))
      have w3 := hW (.initialized cd.1) (in_wordsC hcm (List.mem_cons_of_mem _ (List.mem_cons_self ..)))
      obtain ⟨T2, h2, X2, e2, E2, A2, D2, -, st2⟩ := newO X hx hZ hown w1 w2 w3 rfl (g := mkF m pc A Sc) rfl hd hc hl
      have hck := cChk_of hP hcm
      simp only [cChk, Bool.and_eq_true, List.all_eq_true] at hck
      have hcr : CR P Z h2 (ρ ++ [T.heap.size]) T.heap.size (.inl (a, cd.2.2.map fun f => dflt f.2.2.1)) := by
        refine ⟨cd, q1, A2, by simp, fun j v fd y1 y2 => ?_⟩
        rw [List.getElem?_map, y2] at y1
        cases y1
        have f1 := hck.2 _ (List.mem_of_getElem? y2)
        simp only [fChk, Bool.and_eq_true, decide_eq_true_eq] at f1
        exact ⟨_, dflt_sim f1.2, D2 (laid_of (hW _ (in_wordsC hcm (fWord_in (List.mem_of_getElem? y2))))) f1.1⟩
      refine ⟨T2, T.heap.size, _, X2, ⟨_, _, rfl, ⟨T.heap.size, ?_, rfl⟩, hS.mono⟩, (by rw [e2]; exact hH.push E2 hcr), st2⟩
      rw [← hH.2.1]; simp
    · cases h
  | newarray t =>
    obtain rfl : len = 2 := by simpa [lenOk] using hlen
    simp only [xN] at h
    split at h
    · rename_i n S0
      obtain ⟨S1, rfl, h1⟩ := hS.int
      split at h
      · cases h
      · rename_i hn
        have hn1 : ¬ n < 0 := fun z => hn (Or.inl z)
        have hn2 : n.toNatClampNeg ≤ 100000 := Nat.le_of_not_lt fun z => hn (Or.inr z)
        have w1 := hWi (.arrayClass (newarray.typeOf t)) (List.mem_singleton.mpr rfl)
        have top : (ρ ++ [T.heap.size])[H.length]? = some T.heap.size := by rw [← hH.2.1]; simp
        split at h
        · cases h
          obtain ⟨T2, h2, cA, X2, e2, E2, A2, st2⟩ := newP X hx hZ w1 rfl (g := mkF m pc A _) rfl hd rfl hn1 (cap := n.toNatClampNeg) (Nat.le_refl _) (by omega) hc hl
          have hcr : CR P Z h2 (ρ ++ [T.heap.size]) T.heap.size ((.inr (.inl (false, List.replicate n.toNatClampNeg 0)) : ACell)) := by
            refine ⟨_, A2, by simp [sz_new], by simp; omega, fun j x y => ?_⟩
            rw [List.getElem?_replicate] at y
            split at y
            · rename_i lt
              cases y
              simp [newA, lt, newarray.typeOf, defaultValue]
            · cases y
          exact ⟨T2, T.heap.size, _, X2, ⟨_, _, rfl, ⟨T.heap.size, top, rfl⟩, h1.mono⟩, (by rw [e2]; exact hH.push E2 hcr), st2⟩
        · cases h
          obtain ⟨T2, h2, cA, X2, e2, E2, A2, st2⟩ := newP X hx hZ w1 rfl (g := mkF m pc A _) rfl hd rfl hn1 (cap := n.toNatClampNeg) (Nat.le_refl _) (by omega) hc hl
          have hcr : CR P Z h2 (ρ ++ [T.heap.size]) T.heap.size ((.inr (.inl (true, List.replicate n.toNatClampNeg 0)) : ACell)) := by
            refine ⟨_, A2, by simp [sz_new], by simp; omega, fun j x y => ?_⟩
            rw [List.getElem?_replicate] at y
            split at y
            · rename_i lt
              cases y
              simp [newA, lt, newarray.typeOf, defaultValue]
            · cases y
          exact ⟨T2, T.heap.size, _, X2, ⟨_, _, rfl, ⟨T.heap.size, top, rfl⟩, h1.mono⟩, (by rw [e2]; exact hH.push E2 hcr), st2⟩
        · cases h
          obtain ⟨T2, h2, cA, X2, e2, E2, A2, st2⟩ := newP X hx hZ w1 rfl (g := mkF m pc A _) rfl hd rfl hn1 (cap := n.toNatClampNeg) (Nat.le_refl _) (by omega) hc hl
          have hcr : CR P Z h2 (ρ ++ [T.heap.size]) T.heap.size ((.inr (.inr (List.replicate n.toNatClampNeg 0)) : ACell)) := by
            refine ⟨_, A2, by simp [sz_new], by simp; omega, fun j x y => ?_⟩
            rw [List.getElem?_replicate] at y
            split at y
            · rename_i lt
              cases y
              simp [newA, lt, newarray.typeOf, defaultValue]
            · cases y
          exact ⟨T2, T.heap.size, _, X2, ⟨_, _, rfl, ⟨T.heap.size, top, rfl⟩, h1.mono⟩, (by rw [e2]; exact hH.push E2 hcr), st2⟩
        · cases h
    · cases h
  | _ => simp [xN] at h
end Step
end Jvm.Own
namespace Jvm.Own
open Jvm Jvm.ClassFile Sem Op Lib Jvm.Free Jvm.Stand Jvm.LawKit Jvm.RoadKit Bundle
theorem fetch_mem : ∀ {l : List (Nat × It)} {pc : Nat} {i : It}, fetch l pc = some i → (pc, i) ∈ l
  | [], _, _, h => by simp [fetch] at h
  | (q, j) :: r, pc, i, h => by
    unfold fetch at h
    split at h
    · rename_i e; cases h; subst e; exact List.mem_cons_self ..
    · exact List.mem_cons_of_mem _ (fetch_mem h)
theorem tgt_spec {pc q : Nat} {o : Int} (h : tgt pc o = some q) : 0 ≤ (pc : Int) + o ∧ ((pc : Int) + o).toNat = q := by
  unfold tgt at h
  split at h
  · rename_i z; cases h; exact ⟨z, rfl⟩
  · cases h
/-- the end of a method's run -/
def Done (P : PD) (Z : State) (n0 : Nat) (p : Program) (e : Env) (below : List Frame) (s : State) (ρ : List Addr) (v : Option Value) (H' : AHeap) (kc ks : Nat) (t0 : State) : Prop :=
  ∃ s₂ v' L' t, Steps p.tables e below t0 s₂ ∧ s₂.status = .running ∧ Ended s₂ below (.returned v') ∧ OV (ρ ++ t) v v' ∧ HR P Z n0 s₂.heap (ρ ++ t) H' ∧ Fr n0 L' ∧ FrameEnd s (.returned v') s₂ L' kc ks
def Cx (P : PD) (Z : State) (p : Program) (R : Room) (s : State) (m : MethodId) (meth : Method) (c : Code) (d : MD) : Prop :=
  p.tables.exec = Jvm.exec ∧ Z.Warmed39 s.vm ∧ c.code = d.bytes ∧ c.maxLocals = d.maxL ∧ s.vm.findClass d.name.cls = some m.cls ∧ meth.name = d.name.name ∧ meth.sig.returnType = d.ret ∧ meth.locks = false ∧ d.rf ≤ R.frames ∧ d.rw ≤ R.locals
/-- what the machine says of a run that has come to pc is what the model does -/
def Says (P : PD) (Z : State) (n0 : Nat) (l : Launch) (n : Nat) : Prop :=
  ∀ (mi pc : Nat) (L : List Slot) (S : List Value) (H : AHeap) (v : Option Value) (H' : AHeap) (kc ks : Nat), exe P n mi pc L S H = some (v, H', kc, ks) → ∀ d, P.mth[mi]? = some d →
    ∀ (p : Program) (e : Env) (R : Room) (s : State) (m : MethodId) (args : Array Value) (below : List Frame) (meth : Method) (c : Code) (T : State) (locs : List Loc) (cells slots : Nat),
      Stand p l e R s m args below meth c T locs cells slots → Cx P Z p R s m meth c d → cells + kc ≤ R.cells → slots + ks ≤ R.slots →
      ∀ (ρ : List Addr) (A : Array Slot) (Sc : List Value), LR ρ L A → L.length = d.maxL → SR ρ S Sc → HR P Z n0 T.heap ρ H → Fr n0 locs →
        Done P Z n0 p e below s ρ v H' (cells + kc) (slots + ks) (T.setTop (mkF m pc A Sc))
def QQ (P : PD) (Z : State) (n0 : Nat) (ρ : List Addr) (v : Option Value) (H1 : AHeap) (v' : Option Value) (h' : Heap) (L : List Loc) : Prop := Fr n0 L ∧ ∃ t, OV (ρ ++ t) v v' ∧ HR P Z n0 h' (ρ ++ t) H1
theorem met_of {P : PD} {Z : State} {n0 : Nat} {l : Launch} {n : Nat} (ih : Says P Z n0 l n) {j : Nat} {y : MD} (hy : P.mth[j]? = some y) (hpn : plainName y.name.cls = true) {as ws : List Value} {H H1 : AHeap} {v : Option Value} {kc ks : Nat} (he : exe P n j 0 (entL as y.maxL) [] H = some (v, H1, kc, ks)) {ρ : List Addr} (hS : SR ρ as ws) (hlen : (entA as).length ≤ y.maxL) {h : Heap} (hH : HR P Z n0 h ρ H) (w0 : List Jvm.Cond) (rm : Room) (r1 : y.rf ≤ rm.frames) (r2 : y.rw ≤ rm.locals) (r3 : kc ≤ rm.cells) (r4 : ks ≤ rm.slots) :
    MetFree l y.name (head1 (Jvm.Cond.code y.name y.bytes y.maxL y.ret :: w0) rm) (fun a U => a = ws.toArray ∧ Z.Warmed39 U.vm ∧ U.heap = h) (fun _ _ _ _ _ => True)
      (fun _ U o U' => ∃ v' L, o = .returned v' ∧ QQ P Z n0 ρ v H1 v' U'.heap L ∧ FrameEnd U o U' L kc ks) := by
  refine MetFree.of_bodySF (plainFor_of_name hpn) hisR ?_
  intro p e s m args below meth c s₁ Bd hml0 hP hK
  obtain ⟨rfl, hZ, hh⟩ := hP
  have X0 : Stand p l e rm s m ws.toArray below meth c s₁ [] 0 0 := Stand.of_body Bd
  have e0 : s₁.heap = h := by rw [← hh, Bd.state]; rfl
  obtain ⟨hL, hsz⟩ := LR.enter hS hlen
  have hLl : (entL as y.maxL).length = y.maxL := by rw [← hL.1]; exact hsz
  obtain ⟨s₂, v', L', t, h1, h2, h3, h4, h5, h6, h7⟩ := ih j 0 _ [] H v H1 kc ks he y hy p e _ s m ws.toArray below meth c s₁ [] 0 0 X0
    ⟨Bd.exec, hZ, Bd.bytes, hml0, findClass_of_methodNamed Bd.named, (name_of_methodNamed Bd.named Bd.method).1, Bd.returns, BodyLoose.notSynchronized Bd, r1, r2⟩
    (by rw [Nat.zero_add]; exact r3) (by rw [Nat.zero_add]; exact r4) ρ _ [] hL hLl rfl (by rw [e0]; exact hH) (Fr.nil n0)
  refine ⟨s₂, _, h1, h2, h3, v', L', rfl, ⟨h6, t, h4, h5⟩, ?_⟩
  rw [Nat.zero_add, Nat.zero_add] at h7
  exact h7
section Sound
variable {P : PD} {Z : State} {n0 : Nat} {a0 : Array Value} {l : Launch}
theorem Done.step {p : Program} {e : Env} {below : List Frame} {s : State} {ρ t : List Addr} {v : Option Value} {H' : AHeap} {kc ks : Nat} {t0 t1 : State} (h : Done P Z n0 p e below s (ρ ++ t) v H' kc ks t1) (k : ∀ target, Steps p.tables e below t1 target → Steps p.tables e below t0 target) : Done P Z n0 p e below s ρ v H' kc ks t0 := by
  obtain ⟨s₂, v', L', t', h1, h2, h3, h4, h5, h6, h7⟩ := h
  exact ⟨s₂, v', L', t ++ t', k _ h1, h2, h3, by rw [← List.append_assoc]; exact h4, by rw [← List.append_assoc]; exact h5, h6, h7⟩
theorem argsOf_spec {n : Nat} {S as rest : List Value} (h : argsOf n S = some (as, rest)) : n ≤ S.length ∧ as = (S.take n).reverse ∧ rest = S.drop n := by
  unfold argsOf at h
  split at h
  · rename_i z; cases h; exact ⟨z, rfl, rfl⟩
  · cases h
theorem res_ext {α : Type} {o : Option Res} {v : Option Value} {H' : AHeap} {kc ks c1 s1 : Nat} (h : (o.map fun r => addR r c1 s1) = some (v, H', kc, ks)) : ∃ kc' ks', o = some (v, H', kc', ks') ∧ kc = kc' + c1 ∧ ks = ks' + s1 := by
  obtain ⟨⟨v0, H0, c0, s0⟩, h1, h2⟩ := Option.map_eq_some_iff.mp h
  simp only [addR] at h2
  cases h2
  exact ⟨c0, s0, h1, rfl, rfl⟩
set_option maxHeartbeats 4000000 in
theorem sound (hP : chk P = true) (hW : ∀ w ∈ wordsOf P, w.before a0 Z = true) : ∀ n, Says P Z n0 l n
  | 0 => fun mi pc L S H v H' kc ks h => by simp [exe] at h
  | n + 1 => by
    have ih := sound hP hW n
    intro mi pc L S H v H' kc ks h d hmi
    unfold exe at h
    rw [hmi] at h
    simp only at h
    have hdm : d ∈ P.mth := List.mem_of_getElem? hmi
    split at h
    · cases h
    rename_i it i len er a b hft
    have hit := fetch_mem hft
    have hmc := mChk_of hP hdm
    simp only [mChk, Bool.and_eq_true] at hmc
    obtain ⟨⟨⟨⟨⟨⟨mc1, mc2⟩, mc3⟩, mc4⟩, mc5⟩, mc6⟩, mc7⟩ := hmc
    unfold codeChk at mc3
    rw [List.all_eq_true] at mc3
    have hci := mc3 _ hit
    simp only [Bool.and_eq_true, decide_eq_true_eq] at hci
    obtain ⟨hdec, hlenOk⟩ := hci
    -- a jump, or a fall through
    have jump : ∀ (q : Nat) (S1 : List Value) (h1 : exe P n mi q (forget er L) S1 H = some (v, H', kc, ks)),
        (∀ (p : Program) (e : Env) (R : Room) (s : State) (m : MethodId) (args : Array Value) (below : List Frame) (meth : Method) (c : Code) (T : State) (locs : List Loc) (cells slots : Nat),
          Stand p l e R s m args below meth c T locs cells slots → Cx P Z p R s m meth c d → ∀ (ρ : List Addr) (A : Array Slot) (Sc : List Value), LR ρ L A → SR ρ S Sc → ∃ Sc1, SR ρ S1 Sc1 ∧ ∀ target, Steps p.tables e below (T.setTop (mkF m q A Sc1)) target → Steps p.tables e below (T.setTop (mkF m pc A Sc)) target) →
        ∀ (p : Program) (e : Env) (R : Room) (s : State) (m : MethodId) (args : Array Value) (below : List Frame) (meth : Method) (c : Code) (T : State) (locs : List Loc) (cells slots : Nat),
          Stand p l e R s m args below meth c T locs cells slots → Cx P Z p R s m meth c d → cells + kc ≤ R.cells → slots + ks ≤ R.slots →
          ∀ (ρ : List Addr) (A : Array Slot) (Sc : List Value), LR ρ L A → L.length = d.maxL → SR ρ S Sc → HR P Z n0 T.heap ρ H → Fr n0 locs →
            Done P Z n0 p e below s ρ v H' (cells + kc) (slots + ks) (T.setTop (mkF m pc A Sc)) := by
      intro q S1 h1 st p e R s m args below meth c T locs cells slots X cx k1 k2 ρ A Sc hL hLl hS hH hF
      obtain ⟨Sc1, hS1, st1⟩ := st p e R s m args below meth c T locs cells slots X cx ρ A Sc hL hS
      have := ih mi q _ S1 H v H' kc ks h1 d hmi p e R s m args below meth c T locs cells slots X cx k1 k2 ρ A Sc1 (hL.forget er) (by rw [forget_len]; exact hLl) hS1 hH hF
      exact Done.step (t := []) (by rw [List.append_nil]; exact this) st1
    have dec : ∀ {c : Code}, c.code = d.bytes → decode c.code pc = .ok (i, len) := fun hc => by rw [hc]; exact hdec
    split at h
    · -- goto
      rename_i o
      split at h
      · rename_i q hq
        obtain ⟨t1, t2⟩ := tgt_spec hq
        have m3 := jump q S h
        obtain rfl : len = 3 := by simpa [lenOk] using hlenOk
        exact m3 fun p e R s m args below meth c T locs cells slots X cx ρ A Sc hL hS => ⟨Sc, hS, fun t z => XS.goto (g := mkF m pc A Sc) X.here cx.1 rfl (pc0 := pc) (pc' := q) rfl (dec cx.2.2.1) t1 t2 z⟩
      · cases h
    · -- if_icmp
      rename_i cd o
      split at h
      · rename_i y x S1
        obtain rfl : len = 3 := by simpa [lenOk] using hlenOk
        split at h
        · rename_i hc
          split at h
          · rename_i q hq
            obtain ⟨t1, t2⟩ := tgt_spec hq
            have m3 := jump q S1 h
            exact m3 fun p e R s m args below meth c T locs cells slots X cx ρ A Sc hL hS => by
              obtain ⟨Sa, rfl, ha⟩ := hS.int
              obtain ⟨Sb, rfl, hb⟩ := ha.int
              exact ⟨Sb, hb, fun t z => XS.icmpYes (g := mkF m pc A _) X.here cx.1 rfl (pc0 := pc) (pc' := q) rfl (dec cx.2.2.1) rfl hc t1 t2 z⟩
          · cases h
        · rename_i hc
          have m3 := jump (pc + 3) S1 h
          exact m3 fun p e R s m args below meth c T locs cells slots X cx ρ A Sc hL hS => by
            obtain ⟨Sa, rfl, ha⟩ := hS.int
            obtain ⟨Sb, rfl, hb⟩ := ha.int
            exact ⟨Sb, hb, fun t z => XS.icmpNo (g := mkF m pc A _) X.here cx.1 rfl (dec cx.2.2.1) rfl (by simpa using hc) z⟩
      · cases h
    · -- ifCond
      rename_i cd o
      split at h
      · rename_i x S1
        obtain rfl : len = 3 := by simpa [lenOk] using hlenOk
        split at h
        · rename_i hc
          split at h
          · rename_i q hq
            obtain ⟨t1, t2⟩ := tgt_spec hq
            have m3 := jump q S1 h
            exact m3 fun p e R s m args below meth c T locs cells slots X cx ρ A Sc hL hS => by
              obtain ⟨Sa, rfl, ha⟩ := hS.int
              exact ⟨Sa, ha, fun t z => XS.ifYes (g := mkF m pc A _) X.here cx.1 rfl (pc0 := pc) (pc' := q) rfl (dec cx.2.2.1) rfl hc t1 t2 z⟩
          · cases h
        · rename_i hc
          have m3 := jump (pc + 3) S1 h
          exact m3 fun p e R s m args below meth c T locs cells slots X cx ρ A Sc hL hS => by
            obtain ⟨Sa, rfl, ha⟩ := hS.int
            exact ⟨Sa, ha, fun t z => XS.ifNo (g := mkF m pc A _) X.here cx.1 rfl (dec cx.2.2.1) rfl (by simpa using hc) z⟩
      · cases h
    · -- ifnonnull
      rename_i o
      split at h
      · rename_i x S1
        split at h
        · rename_i q hq
          obtain ⟨t1, t2⟩ := tgt_spec hq
          have m3 := jump q S1 h
          obtain rfl : len = 3 := by simpa [lenOk] using hlenOk
          exact m3 fun p e R s m args below meth c T locs cells slots X cx ρ A Sc hL hS => by
            obtain ⟨ad, Sa, -, rfl, ha⟩ := hS.ref
            exact ⟨Sa, ha, fun t z => XT.ifnonnullYes (g := mkF m pc A _) X.here cx.1 rfl (pc0 := pc) (pc' := q) rfl (dec cx.2.2.1) rfl t1 t2 z⟩
        · cases h
      · cases h
    · -- ireturn
      split at h
      · rename_i x
        split at h
        · rename_i v0 hv0
          cases h
          obtain rfl : len = 1 := by simpa [lenOk] using hlenOk
          intro p e R s m args below meth c T locs cells slots X cx k1 k2 ρ A Sc hL hLl hS hH hF
          obtain ⟨hx, hZ, hby, hml, hown, hnm, hret, hlk, -, -⟩ := cx
          obtain ⟨Sa, rfl, ha⟩ := hS.int
          unfold retV at hv0
          split at hv0
          · rename_i hr0
            cases hv0
            obtain ⟨fs, hr, hrun, hended, hWm, hsame⟩ := X.leave (v := some (.int x)) (fun q => by rw [hret, hr0] at q; cases q) hlk
            exact ⟨_, _, locs, [], retI X hx (by rw [hret, hr0]) (dec hby) hr, hrun, hended, ⟨_, rfl, rfl⟩, by rw [List.append_nil]; exact hH, hF, ⟨_, rfl⟩, hWm, hsame⟩
          · rename_i hr0
            cases hv0
            obtain ⟨fs, hr, hrun, hended, hWm, hsame⟩ := X.leave (v := some (.int (x &&& 1))) (fun q => by rw [hret, hr0] at q; cases q) hlk
            exact ⟨_, _, locs, [], retN X hx (t := .boolean) (by rw [hret, hr0]) (by simp) (dec hby) hr, hrun, hended, ⟨_, rfl, rfl⟩, by rw [List.append_nil]; exact hH, hF, ⟨_, rfl⟩, hWm, hsame⟩
          · cases hv0
        · cases h
      · cases h
    · -- lreturn
      split at h
      · rename_i x
        split at h
        · rename_i hr0
          cases h
          obtain rfl : len = 1 := by simpa [lenOk] using hlenOk
          intro p e R s m args below meth c T locs cells slots X cx k1 k2 ρ A Sc hL hLl hS hH hF
          obtain ⟨hx, hZ, hby, hml, hown, hnm, hret, hlk, -, -⟩ := cx
          obtain ⟨Sa, rfl, ha⟩ := hS.long
          obtain rfl : Sa = [] := ha
          obtain ⟨fs, hr, hrun, hended, hWm, hsame⟩ := X.leave (v := some (.long x)) (fun q => by rw [hret, hr0] at q; cases q) hlk
          exact ⟨_, _, locs, [], X.lreturnOut hx (by rw [hret, hr0]) (dec hby) hr, hrun, hended, ⟨_, rfl, rfl⟩, by rw [List.append_nil]; exact hH, hF, ⟨_, rfl⟩, hWm, hsame⟩
        · cases h
      · cases h
    · -- return
      split at h
      · split at h
        · rename_i hr0
          cases h
          obtain rfl : len = 1 := by simpa [lenOk] using hlenOk
          intro p e R s m args below meth c T locs cells slots X cx k1 k2 ρ A Sc hL hLl hS hH hF
          obtain ⟨hx, hZ, hby, hml, hown, hnm, hret, hlk, -, -⟩ := cx
          obtain rfl : Sc = [] := hS
          obtain ⟨fs, hr, hrun, hended, hWm, hsame⟩ := X.leave (v := none) (fun _ => rfl) hlk
          exact ⟨_, _, locs, [], X.returnOut hx (by rw [hret, hr0]) (dec hby) hr, hrun, hended, rfl, by rw [List.append_nil]; exact hH, hF, ⟨_, rfl⟩, hWm, hsame⟩
        · cases h
      · cases h
    · -- a call, or a plain step
      split at h
      · rename_i hinv
        split at h
        · -- Object.<init>
          rename_i hb1
          subst hb1
          have hk : ∃ k x S1, i = .invokespecial k ∧ S = .ref x :: S1 ∧ (if 1 ≤ d.rf ∧ catSum S1 + 12 ≤ d.rw then exe P n mi (pc + 3) (forget er L) S1 H else none) = some (v, H', kc, ks) := by
            split at h
            · exact ⟨_, _, _, rfl, rfl, h⟩
            · cases h
          clear h
          obtain ⟨k, x, S1, rfl, rfl, h⟩ := hk
          · split at h
            · rename_i hroom
              have m3 := ih mi (pc + 3) _ S1 H v H' kc ks h d hmi
              obtain rfl : len = 3 := by simpa [lenOk] using hlenOk
              have hWi : ∀ w ∈ iWords P d (pc, .invokespecial k, 3, er, a, -1), w.before a0 Z = true := fun w q => hW w (in_wordsOf hdm hit q)
              have hWi' : ∀ w ∈ [Jvm.Cond.methodLink d.name.cls k Lib.objectInit, .instanceMethod Lib.objectInit, .code Lib.objectInit ⟨#[0xb1]⟩ 1 none], w.before a0 Z = true := hWi
              intro p e R s m args below meth c T locs cells slots X cx k1 k2 ρ A Sc hL hLl hS hH hF
              have cx0 := cx
              obtain ⟨hx, hZ, hby, hml, hown, hnm, hret, hlk, hrf, hrw⟩ := cx
              obtain ⟨ad, Sa, -, rfl, ha⟩ := hS.ref
              obtain ⟨T2, X2, e2, st2⟩ := initO X hx hZ hown (hWi' _ (by simp)) (hWi' _ (by simp)) (hWi' _ (by simp)) rfl (g := mkF m pc A (.ref ad :: Sa)) rfl (by rw [hml]; exact hL.1.trans hLl) rfl (dec hby) (by omega) (W := catSum S1) (by show 2 * 0 + _ ≤ _; rw [ha.cat]; omega) (by omega)
              have := m3 p e R s m args below meth c T2 locs cells slots X2 cx0 k1 k2 ρ A Sa (hL.forget er) (by rw [forget_len]; exact hLl) ha (by rw [e2]; exact hH) hF
              exact Done.step (t := []) (by rw [List.append_nil]; exact this) st2
            · cases h
        · rename_i hb1
          split at h
          · cases h
          rename_i y hy
          split at h
          · cases h
          rename_i as rest hao
          split at h
          · rename_i hcond
            simp only [Bool.and_eq_true, decide_eq_true_eq] at hcond
            obtain ⟨⟨⟨⟨hj, hik⟩, hrecv⟩, hroom⟩, hent⟩ := hcond
            split at h
            · rename_i v1 H1 c1 s1 hcal
              obtain ⟨c0, s0, hcon, rfl, rfl⟩ := res_ext (α := Unit) h
              have m3 := ih mi (pc + 3) _ _ H1 v H' c0 s0 hcon d hmi
              intro p e R s m args below meth c T locs cells slots X cx k1 k2 ρ A Sc hL hLl hS hH hF
              have cx0 := cx
              obtain ⟨hx, hZ, hby, hml, hown, hnm, hret, hlk, hrf, hrw⟩ := cx
              have hym : y ∈ P.mth := List.mem_of_getElem? hy
              have hyc := mChk_of hP hym
              simp only [mChk, Bool.and_eq_true, decide_eq_true_eq] at hyc
              obtain ⟨⟨⟨⟨⟨⟨yc1, yc2⟩, yc3⟩, yc4⟩, yc5⟩, yc6⟩, yc7⟩ := hyc
              simp only [fitsRoom, Bool.and_eq_true, decide_eq_true_eq] at hroom
              obtain ⟨hn, has, hrest⟩ := argsOf_spec hao
              have hnc : nargs y ≤ Sc.length := by rw [hS.len]; exact hn
              have hSa : SR ρ as (Sc.take (nargs y)).reverse := by rw [has]; exact (hS.take _).rev
              have hSr : SR ρ rest (Sc.drop (nargs y)) := by rw [hrest]; exact hS.drop _
              have hsplit : Sc = (Sc.take (nargs y)).reverse.reverse ++ Sc.drop (nargs y) := by rw [List.reverse_reverse, List.take_append_drop]
              obtain ⟨ws, hws⟩ : ∃ ws, ws = (Sc.take (nargs y)).reverse := ⟨_, rfl⟩
              obtain ⟨rc, hrc⟩ : ∃ rc, rc = Sc.drop (nargs y) := ⟨_, rfl⟩
              have hwl : ws.length = nargs y := by rw [hws]; simp; omega
              rw [← hws] at hSa hsplit
              rw [← hrc] at hSr hsplit
              have wcode := hW (.code y.name y.bytes y.maxL y.ret) (in_wordsM hy hj (List.mem_cons_self ..))
              have winit := hW (.initialized y.name.cls) (in_wordsM hy hj (List.mem_cons_of_mem _ (List.mem_cons_self ..)))
              have wmore : ∀ w ∈ (if y.kind = 0 then [Jvm.Cond.static y.name] else if y.kind = 1 then [.instanceMethod y.name] else if y.kind = 2 then [.instanceMethod y.name, .privateMethod y.name] else [.declares y.name, .selects y.name.cls y.name y.name, .instanceMethod y.name]), w.before a0 Z = true := fun w q => hW w (in_wordsM hy hj (List.mem_cons_of_mem _ (List.mem_cons_of_mem _ q)))
              have hMH : y.name.cls ≠ "java/lang/invoke/MethodHandle" ∧ y.name.cls ≠ "java/lang/invoke/VarHandle" := ⟨yc5, yc6⟩
              have back := backOf (W := catSum rest) (len := 3) (R := R) (p := p) (e := e) (below := below) (s := s) (args := args) (met_of ih hy yc1 hcal hSa hent hH [] ({ frames := y.rf, cells := c1, slots := s1, locals := y.rw } : Room) (Nat.le_refl _) (Nat.le_refl _) (Nat.le_refl _) (Nat.le_refl _)) hZ wcode winit (by show y.rf + 1 ≤ _; omega) (by show _ + y.rw ≤ _; omega)
              have hWW : 2 * (mkF m pc A Sc).monitorRoom + (rc.map fun v => v.category).sum ≤ catSum rest := by show 2 * 0 + _ ≤ _; rw [hSr.cat]; omega
              have hpar : ∀ sig, parseMethodDescriptor y.name.desc = some sig → sig.parameters.length = y.npar := fun sig q => by
                unfold sigChk at yc2
                rw [q] at yc2
                simpa using yc2
              have fin : ∀ (v1' : Option Value) (T2 : State) (Lc : List Loc), Stand p l e R s m args below meth c T2 (locs ++ Lc) (cells + c1) (slots + s1) → QQ P Z n0 ρ v1 H1 v1' T2.heap Lc →
                  (∀ target, Steps p.tables e below (T2.setTop (mkF m (pc + 3) A (v1'.toList ++ rc))) target → Steps p.tables e below (T.setTop (mkF m pc A Sc)) target) →
                  Done P Z n0 p e below s ρ v H' (cells + (c0 + c1)) (slots + (s0 + s1)) (T.setTop (mkF m pc A Sc)) := by
                intro v1' T2 Lc X2 hq st2
                obtain ⟨hF2, t, hov, hH2⟩ := hq
                have := m3 p e R s m args below meth c T2 (locs ++ Lc) _ _ X2 cx0 (by omega) (by omega) (ρ ++ t) A (v1'.toList ++ rc) (hL.forget er).mono (by rw [forget_len]; exact hLl) (hov.list.app hSr.mono) hH2 (hF.app hF2)
                have q1 : cells + c1 + c0 = cells + (c0 + c1) := by omega
                have q2 : slots + s1 + s0 = slots + (s0 + s1) := by omega
                rw [q1, q2] at this
                exact this.step st2
              have hcR : cells + c1 ≤ R.cells := by omega
              have hsR : slots + s1 ≤ R.slots := by omega
              cases i with
              | invokestatic k =>
                obtain rfl : len = 3 := by simpa [lenOk] using hlenOk
                have hk0 : y.kind = 0 := by simpa [invKind] using hik
                have wl := hW (.methodLink d.name.cls k y.name) (in_wordsOf hdm hit (by show _ ∈ mLink P d k a b; unfold mLink; rw [if_neg hb1, hy]; exact List.mem_singleton.mpr rfl))
                have wst := wmore (.static y.name) (by rw [if_pos hk0]; exact List.mem_singleton.mpr rfl)
                have hna : nargs y = y.npar := by simp [nargs, hk0]
                obtain ⟨v1', _, ⟨T2, L2, k2', n2⟩, -, X2, ⟨Lc, hQ, l2, y2, z2⟩, st2⟩ := Jvm.LawKit.callS X hx (y := y.name) hown (mvT hZ wl) (mvT hZ wst) (mvT hZ winit) (mvT hZ wcode) hMH back (g := mkF m pc A Sc) rfl (by rw [hml]; exact hL.1.trans hLl) (argsL := ws) (rest := rc) (fun sig q => by rw [hpar sig q, hwl, hna]) hsplit hWW (dec hby) (fun _ _ => ⟨rfl, rfl, hcR, hsR⟩)
                dsimp only [Pt.U, Pt.locs, Pt.cells, Pt.slots] at X2 l2 y2 z2 st2 hQ
                subst l2 y2 z2
                exact fin v1' T2 Lc X2 hQ st2
              | invokespecial k =>
                obtain rfl : len = 3 := by simpa [lenOk] using hlenOk
                have hk1 : y.kind = 1 := by simpa [invKind] using hik
                have wl := hW (.methodLink d.name.cls k y.name) (in_wordsOf hdm hit (by show _ ∈ mLink P d k a b; unfold mLink; rw [if_neg hb1, hy]; exact List.mem_singleton.mpr rfl))
                have wst := wmore (.instanceMethod y.name) (by rw [if_neg (by omega), if_pos hk1]; exact List.mem_singleton.mpr rfl)
                have hna : nargs y = y.npar + 1 := by simp [nargs, hk1]
                simp [hk1] at yc7
                have wcode' : (Jvm.Cond.code y.name y.bytes y.maxL none).before a0 Z = true := by rw [← yc7.2]; exact wcode
                unfold recvOk at hrecv
                rw [if_neg (by omega)] at hrecv
                split at hrecv
                · rename_i o as'
                  obtain ⟨ad, ws', g1, rfl, ha'⟩ := hSa.ref
                  have hst : Sc = ws'.reverse ++ .ref ad :: rc := by rw [hsplit]; simp
                  obtain ⟨v1', _, ⟨T2, L2, k2', n2⟩, -, X2, ⟨Lc, hQ, l2, y2, z2⟩, st2⟩ := X.specialBack hx (y := y.name) yc7.1 hown (mvT hZ wl) (mvT hZ wst) (mvT hZ wcode') hMH back (g := mkF m pc A Sc) rfl (by rw [hml]; exact hL.1.trans hLl) (Steps.refl _) (a := ad) (argsL := ws') (rest := rc) (fun sig q => by rw [hpar sig q]; simp [hna] at hwl; omega) hst hWW (dec hby) (fun _ _ => ⟨rfl, rfl, hcR, hsR⟩)
                  dsimp only [Pt.U, Pt.locs, Pt.cells, Pt.slots] at X2 l2 y2 z2 st2 hQ
                  subst l2 y2 z2
                  exact fin v1' T2 Lc X2 hQ fun t z => st2.trans z
                · cases hrecv
              | invokevirtual k =>
                obtain rfl : len = 3 := by simpa [lenOk] using hlenOk
                have wl := hW (.methodLink d.name.cls k y.name) (in_wordsOf hdm hit (by show _ ∈ mLink P d k a b; unfold mLink; rw [if_neg hb1, hy]; exact List.mem_singleton.mpr rfl))
                have hk23 : y.kind = 2 ∨ y.kind = 3 := by simpa [invKind] using hik
                have hk0 : ¬ y.kind = 0 := by omega
                have hk1 : ¬ y.kind = 1 := by omega
                have hna : nargs y = y.npar + 1 := by simp [nargs, hk0]
                unfold recvOk at hrecv
                rw [if_neg hk0] at hrecv
                split at hrecv
                · rename_i o as'
                  obtain ⟨ad, ws', g1, rfl, ha'⟩ := hSa.ref
                  have hst : Sc = ws'.reverse ++ .ref ad :: rc := by rw [hsplit]; simp
                  split at hrecv
                  · rename_i c0 fs hc0
                    obtain rfl : c0 = y.cid := by simpa using hrecv
                    obtain ⟨ad', g2, cd, q1, q2, q3, q4⟩ := hH.at hc0
                    rw [g1] at g2; cases g2
                    have hcd := cid_of hP hym q1
                    have hcm : cd ∈ P.cls := List.mem_of_getElem? q1
                    rw [hcd] at q2
                    by_cases hk2 : y.kind = 2
                    · have w1 := wmore (.instanceMethod y.name) (by rw [if_neg hk0, if_neg hk1, if_pos hk2]; simp)
                      have w2 := wmore (.privateMethod y.name) (by rw [if_neg hk0, if_neg hk1, if_pos hk2]; simp)
                      have w3 := hW (.instantiable cd.1 cd.2.1) (in_wordsC hcm (List.mem_cons_self ..))
                      rw [hcd] at w3
                      obtain ⟨cI, kI, i1, i2, i3, i4, -⟩ := Cond.instantiable_spec (mvT hZ w3 (args := args) : (Jvm.Cond.instantiable y.name.cls cd.2.1).before args s = true)
                      have hsel := selects_self_of_private (args := args) i1 i2 (by simp at i4; exact i4.1) (Cond.privateMethod_at (mvP hZ w2 (args := #[]))) (mvT hZ w1) hMH
                      obtain ⟨cq, hq1, hq2⟩ := q2.cell
                      obtain ⟨v1', _, ⟨T2, L2, k2', n2⟩, -, X2, ⟨Lc, hQ, l2, y2, z2⟩, st2⟩ := X.privateBack hx (y := y.name) hown (mvT hZ wl) (mvT hZ w1) hsel (Cond.privateMethod_at (mvP hZ w2 (args := #[]))) (mvT hZ wcode) hMH back (g := mkF m pc A Sc) rfl (by rw [hml]; exact hL.1.trans hLl) (Steps.refl _) (a := ad) hq1 hq2 (argsL := ws') (rest := rc) (fun sig q => by rw [hpar sig q]; simp [hna] at hwl; omega) hst hWW (dec hby) (fun _ _ => ⟨rfl, rfl, hcR, hsR⟩)
                      dsimp only [Pt.U, Pt.locs, Pt.cells, Pt.slots] at X2 l2 y2 z2 st2 hQ
                      subst l2 y2 z2
                      exact fin v1' T2 Lc X2 hQ fun t z => st2.trans z
                    · have w1 := wmore (.declares y.name) (by rw [if_neg hk0, if_neg hk1, if_neg hk2]; simp)
                      have w2 := wmore (.selects y.name.cls y.name y.name) (by rw [if_neg hk0, if_neg hk1, if_neg hk2]; simp)
                      have w3 := wmore (.instanceMethod y.name) (by rw [if_neg hk0, if_neg hk1, if_neg hk2]; simp)
                      obtain ⟨cq, kq, qa, qb, qc⟩ := isOf hZ rfl q2
                      obtain ⟨v1', _, ⟨T2, L2, k2', n2⟩, -, X2, ⟨Lc, hQ, l2, y2, z2⟩, st2⟩ := X.virtualBack hx (y := y.name) (z := y.name) hown (mvT hZ wl) (mvT hZ w1) (notFace_of_selects (args := #[]) (mvT hZ w2)) (mvT hZ w2) (mvT hZ w3) hMH back qa qc (g := mkF m pc A Sc) rfl (by rw [hml]; exact hL.1.trans hLl) (Steps.refl _) (argsL := ws') (rest := rc) (fun sig q => by rw [hpar sig q]; simp [hna] at hwl; omega) hst hWW (dec hby) (fun _ _ => ⟨rfl, rfl, hcR, hsR⟩)
                      dsimp only [Pt.U, Pt.locs, Pt.cells, Pt.slots] at X2 l2 y2 z2 st2 hQ
                      subst l2 y2 z2
                      exact fin v1' T2 Lc X2 hQ fun t z => st2.trans z
                  · cases hrecv
                · cases hrecv
              | _ => simp [isInv] at hinv
            · cases h
          · cases h
      · split at h
        · split at h
          · rename_i S1 H1 k1' hxN
            obtain ⟨c0, s0, hcon, rfl, rfl⟩ := res_ext (α := Unit) h
            have m3 := ih mi (pc + len) _ S1 H1 v H' c0 s0 hcon d hmi
            intro p e R s m args below meth c T locs cells slots X cx k1 k2 ρ A Sc hL hLl hS hH hF
            have cx0 := cx
            obtain ⟨hx, hZ, hby, hml, hown, hnm, hret, hlk, hrf, hrw⟩ := cx
            obtain ⟨T2, ad, Sc2, X2, hS2, hH2, st2⟩ := stepN (A := A) X hx hZ hown hP hW hdm hit (dec hby) hlenOk hS hH hxN (by omega) (by omega)
            have := m3 p e R s m args below meth c T2 locs _ _ X2 cx0 (by omega) (by omega) (ρ ++ [ad]) A Sc2 (hL.forget er).mono (by rw [forget_len]; exact hLl) hS2 hH2 hF
            have q1 : cells + 1 + c0 = cells + (c0 + 1) := by omega
            have q2 : slots + k1' + s0 = slots + (s0 + k1') := by omega
            rw [q1, q2] at this
            exact this.step st2
          · cases h
        · split at h
          · rename_i L1 S1 H1 hxI
            have m3 := ih mi (pc + len) L1 S1 H1 v H' kc ks h d hmi
            intro p e R s m args below meth c T locs cells slots X cx k1 k2 ρ A Sc hL hLl hS hH hF
            have cx0 := cx
            obtain ⟨hx, hZ, hby, hml, hown, hnm, hret, hlk, hrf, hrw⟩ := cx
            obtain ⟨T2, locs2, A2, Sc2, X2, x3, hL2, hS2, hH2, hF2, st2⟩ := stepX X hx hZ hown hnm hP hW hdm hit (dec hby) hlenOk (hL.forget er) hS hH hF hxI
            have := m3 p e R s m args below meth c T2 locs2 cells slots X2 cx0 k1 k2 ρ A2 Sc2 hL2 (by rw [x3, forget_len]; exact hLl) hS2 hH2 hF2
            exact Done.step (t := []) (by rw [List.append_nil]; exact this) st2
          · cases h
end Sound
end Jvm.Own
namespace Jvm.Own
open Jvm Jvm.ClassFile Sem Op Lib Jvm.Free Jvm.Stand Jvm.LawKit Jvm.RoadKit Bundle
/-! Runs of the plain machine, rule by rule -/
def OEnds (P : PD) (mi pc : Nat) (L : List Slot) (S : List Value) (H : AHeap) (r : Res) : Prop := ∃ n0, ∀ n, n0 ≤ n → exe P n mi pc L S H = some r
def plainI : Instr → Bool
  | .goto _ => false
  | .if_icmp _ _ => false
  | .ifCond _ _ => false
  | .ifnonnull _ => false
  | .ireturn => false
  | .lreturn => false
  | .return_ => false
  | .invokestatic _ => false
  | .invokespecial _ => false
  | .invokevirtual _ => false
  | .new _ => false
  | .newarray _ => false
  | _ => true
section Rules
variable {P : PD} {mi pc len a q : Nat} {er : List Bool} {b : Int} {i : Instr} {d y : MD} {L L' : List Slot} {S S' as rest : List Value} {H H' H1 : AHeap} {r : Res} {kc ks : Nat} {v : Option Value}
theorem OEnds.up (h : ∀ n, exe P n mi q L' S' H' = some r → exe P (n + 1) mi pc L S H = some r) (E : OEnds P mi q L' S' H' r) : OEnds P mi pc L S H r := by
  obtain ⟨n0, E⟩ := E
  refine ⟨n0 + 1, fun n hn => ?_⟩
  obtain ⟨k, rfl⟩ : ∃ k, n = k + 1 := ⟨n - 1, by omega⟩
  exact h k (E k (by omega))
theorem OEnds.plain (hm : P.mth[mi]? = some d) (hf : fetch d.code pc = some (i, len, er, a, b)) (hp : plainI i = true) (hx : xI P (d.name.name == "<init>") d.cid i a b (forget er L) S H = some (L', S', H')) (E : OEnds P mi (pc + len) L' S' H' r) : OEnds P mi pc L S H r := by
  refine E.up fun n h => ?_
  unfold exe
  rw [hm]
  simp only
  rw [hf]
  simp only
  split
  all_goals first | (simp [plainI] at hp; done) | skip
  have h1 : ¬ isInv i = true := by
    cases i <;> first | (simp [plainI] at hp; done) | simp [isInv]
  have h2 : ¬ isNew i = true := by
    cases i <;> first | (simp [plainI] at hp; done) | simp [isNew]
  rw [if_neg h1, if_neg h2, hx]
  exact h
theorem OEnds.goto {o : Int} (hm : P.mth[mi]? = some d) (hf : fetch d.code pc = some (.goto o, len, er, a, b)) (ht : tgt pc o = some q) (E : OEnds P mi q (forget er L) S H r) : OEnds P mi pc L S H r := by
  refine E.up fun n h => ?_
  unfold exe
  rw [hm]
  simp only
  rw [hf]
  simp only
  rw [ht]
  exact h
theorem OEnds.icmpT {o : Int} {cd : ClassFile.Cond} {x z : Int32} (hm : P.mth[mi]? = some d) (hf : fetch d.code pc = some (.if_icmp cd o, len, er, a, b)) (ht : tgt pc o = some q) (hc : if_icmp.holds cd x z = true) (E : OEnds P mi q (forget er L) S H r) : OEnds P mi pc L (.int z :: .int x :: S) H r := by
  refine E.up fun n h => ?_
  unfold exe
  rw [hm]
  simp only
  rw [hf]
  simp only
  rw [if_pos hc, ht]
  exact h
theorem OEnds.icmpF {o : Int} {cd : ClassFile.Cond} {x z : Int32} (hm : P.mth[mi]? = some d) (hf : fetch d.code pc = some (.if_icmp cd o, len, er, a, b)) (hc : if_icmp.holds cd x z = false) (E : OEnds P mi (pc + 3) (forget er L) S H r) : OEnds P mi pc L (.int z :: .int x :: S) H r := by
  refine E.up fun n h => ?_
  unfold exe
  rw [hm]
  simp only
  rw [hf]
  simp only
  rw [if_neg (by rw [hc]; exact Bool.false_ne_true)]
  exact h
theorem OEnds.ifT {o : Int} {cd : ClassFile.Cond} {x : Int32} (hm : P.mth[mi]? = some d) (hf : fetch d.code pc = some (.ifCond cd o, len, er, a, b)) (ht : tgt pc o = some q) (hc : if_icmp.holds cd x 0 = true) (E : OEnds P mi q (forget er L) S H r) : OEnds P mi pc L (.int x :: S) H r := by
  refine E.up fun n h => ?_
  unfold exe
  rw [hm]
  simp only
  rw [hf]
  simp only
  rw [if_pos ((if0 cd x).trans hc), ht]
  exact h
theorem OEnds.ifF {o : Int} {cd : ClassFile.Cond} {x : Int32} (hm : P.mth[mi]? = some d) (hf : fetch d.code pc = some (.ifCond cd o, len, er, a, b)) (hc : if_icmp.holds cd x 0 = false) (E : OEnds P mi (pc + 3) (forget er L) S H r) : OEnds P mi pc L (.int x :: S) H r := by
  refine E.up fun n h => ?_
  unfold exe
  rw [hm]
  simp only
  rw [hf]
  simp only
  rw [if_neg (by rw [if0 cd x, hc]; exact Bool.false_ne_true)]
  exact h
theorem OEnds.nonnull {o : Int} {x : Nat} (hm : P.mth[mi]? = some d) (hf : fetch d.code pc = some (.ifnonnull o, len, er, a, b)) (ht : tgt pc o = some q) (E : OEnds P mi q (forget er L) S H r) : OEnds P mi pc L (.ref x :: S) H r := by
  refine E.up fun n h => ?_
  unfold exe
  rw [hm]
  simp only
  rw [hf]
  simp only
  rw [ht]
  exact h
theorem OEnds.iret {x : Int32} {u : Value} (hm : P.mth[mi]? = some d) (hf : fetch d.code pc = some (.ireturn, len, er, a, b)) (hv : retV d.ret x = some u) : OEnds P mi pc L [.int x] H (some u, H, 0, 0) := by
  refine ⟨1, fun n hn => ?_⟩
  obtain ⟨k, rfl⟩ : ∃ k, n = k + 1 := ⟨n - 1, by omega⟩
  unfold exe
  rw [hm]
  simp only
  rw [hf]
  simp only
  rw [hv]
theorem OEnds.lret {x : Int64} (hm : P.mth[mi]? = some d) (hf : fetch d.code pc = some (.lreturn, len, er, a, b)) (hv : d.ret = some .long) : OEnds P mi pc L [.long x] H (some (.long x), H, 0, 0) := by
  refine ⟨1, fun n hn => ?_⟩
  obtain ⟨k, rfl⟩ : ∃ k, n = k + 1 := ⟨n - 1, by omega⟩
  unfold exe
  rw [hm]
  simp only
  rw [hf]
  simp only
  rw [if_pos hv]
theorem OEnds.vret (hm : P.mth[mi]? = some d) (hf : fetch d.code pc = some (.return_, len, er, a, b)) (hv : d.ret = none) : OEnds P mi pc L [] H (none, H, 0, 0) := by
  refine ⟨1, fun n hn => ?_⟩
  obtain ⟨k, rfl⟩ : ∃ k, n = k + 1 := ⟨n - 1, by omega⟩
  unfold exe
  rw [hm]
  simp only
  rw [hf]
  simp only
  rw [if_pos hv]
theorem OEnds.oinit {k x : Nat} (hm : P.mth[mi]? = some d) (hf : fetch d.code pc = some (.invokespecial k, len, er, a, -1)) (hr : 1 ≤ d.rf ∧ catSum S + 12 ≤ d.rw) (E : OEnds P mi (pc + 3) (forget er L) S H r) : OEnds P mi pc L (.ref x :: S) H r := by
  refine E.up fun n h => ?_
  unfold exe
  rw [hm]
  simp only
  rw [hf]
  simp only [isInv, if_true]
  rw [if_pos hr]
  exact h
theorem OEnds.call (hm : P.mth[mi]? = some d) (hf : fetch d.code pc = some (i, len, er, a, b)) (hi : isInv i = true) (hb : ¬ b = -1) (hy : P.mth[a]? = some y) (hao : argsOf (nargs y) S = some (as, rest))
    (hc : (decide (0 < a) && invKind i y.kind && recvOk P H y as && fitsRoom d y rest && decide ((entA as).length ≤ y.maxL)) = true) (E1 : OEnds P a 0 (entL as y.maxL) [] H (v, H1, kc, ks)) (E2 : OEnds P mi (pc + 3) (forget er L) (v.toList ++ rest) H1 r) : OEnds P mi pc L S H (addR r kc ks) := by
  obtain ⟨n1, E1⟩ := E1
  obtain ⟨n2, E2⟩ := E2
  refine ⟨n1 + n2 + 1, fun n hn => ?_⟩
  obtain ⟨k, rfl⟩ : ∃ k, n = k + 1 := ⟨n - 1, by omega⟩
  have e1 := E1 k (by omega)
  have e2 := E2 k (by omega)
  unfold exe
  rw [hm]
  simp only
  rw [hf]
  simp only
  split
  all_goals first | (simp [isInv] at hi; done) | skip
  rw [if_pos hi, if_neg hb, hy]
  simp only
  rw [hao]
  simp only
  rw [if_pos hc, e1]
  simp only
  rw [e2]
  rfl
theorem OEnds.call0 (hm : P.mth[mi]? = some d) (hf : fetch d.code pc = some (i, len, er, a, b)) (hi : isInv i = true) (hb : ¬ b = -1) (hy : P.mth[a]? = some y) (hao : argsOf (nargs y) S = some (as, rest))
    (hc : (decide (0 < a) && invKind i y.kind && recvOk P H y as && fitsRoom d y rest && decide ((entA as).length ≤ y.maxL)) = true) (E1 : OEnds P a 0 (entL as y.maxL) [] H (v, H1, 0, 0)) (E2 : OEnds P mi (pc + 3) (forget er L) (v.toList ++ rest) H1 r) : OEnds P mi pc L S H r :=
  OEnds.call (r := r) hm hf hi hb hy hao hc E1 E2
theorem OEnds.made (hm : P.mth[mi]? = some d) (hf : fetch d.code pc = some (i, len, er, a, b)) (hi : isNew i = true) (hx : xN P i a S H = some (S', H', ks)) (E : OEnds P mi (pc + len) (forget er L) S' H' r) : OEnds P mi pc L S H (addR r 1 ks) := by
  obtain ⟨n0, E⟩ := E
  refine ⟨n0 + 1, fun n hn => ?_⟩
  obtain ⟨k, rfl⟩ : ∃ k, n = k + 1 := ⟨n - 1, by omega⟩
  have e1 := E k (by omega)
  unfold exe
  rw [hm]
  simp only
  rw [hf]
  simp only
  split
  all_goals first | (simp [isNew] at hi; done) | skip
  have h1 : ¬ isInv i = true := by
    cases i <;> first | (simp [isNew] at hi; done) | simp [isInv]
  rw [if_neg h1, if_pos hi, hx]
  simp only
  rw [e1]
  rfl
end Rules
/-- k plain instructions and jumps in one go -/
def adv (P : PD) (d : MD) : Nat → Nat → List Slot → List Value → AHeap → Option (Nat × List Slot × List Value × AHeap)
  | 0, pc, L, S, H => some (pc, L, S, H)
  | k + 1, pc, L, S, H => match fetch d.code pc with
    | some (i, len, er, a, b) => match i with
      | .goto o => match tgt pc o with
        | some q => adv P d k q (forget er L) S H
        | none => none
      | i => if plainI i = true then match xI P (d.name.name == "<init>") d.cid i a b (forget er L) S H with
          | some (L', S', H') => adv P d k (pc + len) L' S' H'
          | none => none
        else none
    | none => none
theorem OEnds.adv {P : PD} {mi : Nat} {d : MD} (hm : P.mth[mi]? = some d) {r : Res} : ∀ (k : Nat) {pc pc' : Nat} {L L' : List Slot} {S S' : List Value} {H H' : AHeap}, adv P d k pc L S H = some (pc', L', S', H') → OEnds P mi pc' L' S' H' r → OEnds P mi pc L S H r
  | 0, _, _, _, _, _, _, _, _, h, E => by
    unfold Own.adv at h
    cases h
    exact E
  | k + 1, pc, pc', L, L', S, S', H, H', h, E => by
    unfold Own.adv at h
    split at h
    · rename_i it i len er a b hf
      split at h
      · rename_i o
        split at h
        · rename_i q hq
          exact OEnds.goto hm hf hq (OEnds.adv hm k h E)
        · cases h
      · split at h
        · rename_i hp
          split at h
          · rename_i L1 S1 H1 hx
            exact OEnds.plain hm hf hp hx (OEnds.adv hm k h E)
          · cases h
        · cases h
    · cases h
theorem x_iaload {P : PD} {ini : Bool} {cid a o : Nat} {b : Int} {L : List Slot} {S : List Value} {H : AHeap} {A : List Int32} {j x : Int32} (h : H[o]? = some (.inr (.inl (false, A)))) (hx : rdA A j = some x) : xI P ini cid .iaload a b L (.int j :: .ref o :: S) H = some (L, .int x :: S, H) := by simp [xI, h, hx]
theorem x_baload {P : PD} {ini : Bool} {cid a o : Nat} {b : Int} {L : List Slot} {S : List Value} {H : AHeap} {A : List Int32} {j x : Int32} (h : H[o]? = some (.inr (.inl (true, A)))) (hx : rdA A j = some x) : xI P ini cid .baload a b L (.int j :: .ref o :: S) H = some (L, .int x :: S, H) := by simp [xI, h, hx]
theorem x_laload {P : PD} {ini : Bool} {cid a o : Nat} {b : Int} {L : List Slot} {S : List Value} {H : AHeap} {A : List Int64} {j : Int32} {x : Int64} (h : H[o]? = some (.inr (.inr A))) (hx : rdA A j = some x) : xI P ini cid .laload a b L (.int j :: .ref o :: S) H = some (L, .long x :: S, H) := by simp [xI, h, hx]
theorem x_iastore {P : PD} {ini : Bool} {cid a o : Nat} {b : Int} {L : List Slot} {S : List Value} {H : AHeap} {A A' : List Int32} {j x : Int32} (h : H[o]? = some (.inr (.inl (false, A)))) (hn : P.nr ≤ o) (hx : wrA A j x = some A') : xI P ini cid .iastore a b L (.int x :: .int j :: .ref o :: S) H = some (L, S, H.set o (.inr (.inl (false, A')))) := by simp [xI, h, hx, hn]
theorem x_bastore {P : PD} {ini : Bool} {cid a o : Nat} {b : Int} {L : List Slot} {S : List Value} {H : AHeap} {A A' : List Int32} {j x : Int32} (h : H[o]? = some (.inr (.inl (true, A)))) (hn : P.nr ≤ o) (hx : wrA A j (x &&& 1) = some A') : xI P ini cid .bastore a b L (.int x :: .int j :: .ref o :: S) H = some (L, S, H.set o (.inr (.inl (true, A')))) := by simp [xI, h, hx, hn]
theorem x_lastore {P : PD} {ini : Bool} {cid a o : Nat} {b : Int} {L : List Slot} {S : List Value} {H : AHeap} {A A' : List Int64} {j : Int32} {x : Int64} (h : H[o]? = some (.inr (.inr A))) (hn : P.nr ≤ o) (hx : wrA A j x = some A') : xI P ini cid .lastore a b L (.long x :: .int j :: .ref o :: S) H = some (L, S, H.set o (.inr (.inr A'))) := by simp [xI, h, hx, hn]
theorem x_irem {P : PD} {ini : Bool} {cid a : Nat} {b : Int} {L : List Slot} {S : List Value} {H : AHeap} {x y : Int32} (h : ¬ y = 0) : xI P ini cid .irem a b L (.int y :: .int x :: S) H = some (L, .int (x % y) :: S, H) := by simp [xI, h]
theorem x_idiv {P : PD} {ini : Bool} {cid a : Nat} {b : Int} {L : List Slot} {S : List Value} {H : AHeap} {x y : Int32} (h : ¬ y = 0) : xI P ini cid .idiv a b L (.int y :: .int x :: S) H = some (L, .int (x / y) :: S, H) := by simp [xI, h]
theorem x_lrem {P : PD} {ini : Bool} {cid a : Nat} {b : Int} {L : List Slot} {S : List Value} {H : AHeap} {x y : Int64} (h : ¬ y = 0) : xI P ini cid .lrem a b L (.long y :: .long x :: S) H = some (L, .long (x % y) :: S, H) := by simp [xI, h]
theorem x_ldiv {P : PD} {ini : Bool} {cid a : Nat} {b : Int} {L : List Slot} {S : List Value} {H : AHeap} {x y : Int64} (h : ¬ y = 0) : xI P ini cid .ldiv a b L (.long y :: .long x :: S) H = some (L, .long (x / y) :: S, H) := by simp [xI, h]
theorem c_lt {x y : Int64} : XT.cmpL x y < 0 ↔ x < y := by
  unfold XT.cmpL; split <;> (try split) <;> simp_all [Int64.lt_iff_toInt_lt, ← Int64.toInt_inj] <;> omega
theorem c_gt {x y : Int64} : 0 < XT.cmpL x y ↔ y < x := by
  unfold XT.cmpL; split <;> (try split) <;> simp_all [Int64.lt_iff_toInt_lt, ← Int64.toInt_inj] <;> omega
theorem c_eq {x y : Int64} : XT.cmpL x y = 0 ↔ x = y := by
  unfold XT.cmpL; split <;> (try split) <;> simp_all [Int64.lt_iff_toInt_lt, ← Int64.toInt_inj] <;> omega
end Jvm.Own
namespace Jvm.Own
open Jvm Jvm.ClassFile Sem Op Lib Jvm.Free Jvm.Stand Jvm.LawKit Jvm.RoadKit Bundle
theorem bnd {α β : Type} {o : Option α} {f : α → Option β} {b : β} (h : o.bind f = some b) : ∃ a, o = some a ∧ f a = some b := Option.bind_eq_some_iff.mp h
theorem x_putZ {P : PD} {ini : Bool} {k cid a o : Nat} {b : Int} {L : List Slot} {S : List Value} {H : AHeap} {fs : List Value} {nm ds : String} {x : Int32} (h : H[o]? = some (.inl (cid, fs))) (hn : P.nr ≤ o) (hf : ((P.cls[cid]?).bind fun cd => cd.2.2[a]?) = some (nm, ds, .boolean, false)) (hx : x = 0 ∨ x = 1) :
    xI P ini cid (.putfield k) a b L (.int x :: .ref o :: S) H = some (L, S, H.set o (.inl (cid, fs.set a (.int x)))) := by
  rcases hx with rfl | rfl <;> simp [xI, h, hn, hf, putOk]
section Rules
variable {P : PD} {mi pc len a q : Nat} {er : List Bool} {b : Int} {i : Instr} {d y : MD} {L L' : List Slot} {S S' as rest : List Value} {H H' H1 : AHeap} {r : Res} {kc ks : Nat} {v : Option Value}
theorem OEnds.made1 {w : Option Value} {Hf : AHeap} (hm : P.mth[mi]? = some d) (hf : fetch d.code pc = some (i, len, er, a, b)) (hi : isNew i = true) (hx : xN P i a S H = some (S', H', ks)) {c0 s0 c1 s1 : Nat} (hr : (c1, s1) = (c0 + 1, s0 + ks)) (E : OEnds P mi (pc + len) (forget er L) S' H' (w, Hf, c0, s0)) : OEnds P mi pc L S H (w, Hf, c1, s1) := by
  cases hr
  exact OEnds.made (r := (w, Hf, c0, s0)) hm hf hi hx E
/-! The same, of a run whose end is told by a property -/
def OEndsQ (P : PD) (mi pc : Nat) (L : List Slot) (S : List Value) (H : AHeap) (Q : Res → Prop) : Prop := ∃ r, OEnds P mi pc L S H r ∧ Q r
variable {Q : Res → Prop}
theorem OEndsQ.plain (hm : P.mth[mi]? = some d) (hf : fetch d.code pc = some (i, len, er, a, b)) (hp : plainI i = true) (hx : xI P (d.name.name == "<init>") d.cid i a b (forget er L) S H = some (L', S', H')) (E : OEndsQ P mi (pc + len) L' S' H' Q) : OEndsQ P mi pc L S H Q := by
  obtain ⟨r, E, hq⟩ := E; exact ⟨r, OEnds.plain hm hf hp hx E, hq⟩
theorem OEndsQ.icmpT {o : Int} {cd : ClassFile.Cond} {x z : Int32} (hm : P.mth[mi]? = some d) (hf : fetch d.code pc = some (.if_icmp cd o, len, er, a, b)) (ht : tgt pc o = some q) (hc : if_icmp.holds cd x z = true) (E : OEndsQ P mi q (forget er L) S H Q) : OEndsQ P mi pc L (.int z :: .int x :: S) H Q := by
  obtain ⟨r, E, hq⟩ := E; exact ⟨r, OEnds.icmpT hm hf ht hc E, hq⟩
theorem OEndsQ.icmpF {o : Int} {cd : ClassFile.Cond} {x z : Int32} (hm : P.mth[mi]? = some d) (hf : fetch d.code pc = some (.if_icmp cd o, len, er, a, b)) (hc : if_icmp.holds cd x z = false) (E : OEndsQ P mi (pc + 3) (forget er L) S H Q) : OEndsQ P mi pc L (.int z :: .int x :: S) H Q := by
  obtain ⟨r, E, hq⟩ := E; exact ⟨r, OEnds.icmpF hm hf hc E, hq⟩
theorem OEndsQ.ifT {o : Int} {cd : ClassFile.Cond} {x : Int32} (hm : P.mth[mi]? = some d) (hf : fetch d.code pc = some (.ifCond cd o, len, er, a, b)) (ht : tgt pc o = some q) (hc : if_icmp.holds cd x 0 = true) (E : OEndsQ P mi q (forget er L) S H Q) : OEndsQ P mi pc L (.int x :: S) H Q := by
  obtain ⟨r, E, hq⟩ := E; exact ⟨r, OEnds.ifT hm hf ht hc E, hq⟩
theorem OEndsQ.ifF {o : Int} {cd : ClassFile.Cond} {x : Int32} (hm : P.mth[mi]? = some d) (hf : fetch d.code pc = some (.ifCond cd o, len, er, a, b)) (hc : if_icmp.holds cd x 0 = false) (E : OEndsQ P mi (pc + 3) (forget er L) S H Q) : OEndsQ P mi pc L (.int x :: S) H Q := by
  obtain ⟨r, E, hq⟩ := E; exact ⟨r, OEnds.ifF hm hf hc E, hq⟩
theorem OEndsQ.nonnull {o : Int} {x : Nat} (hm : P.mth[mi]? = some d) (hf : fetch d.code pc = some (.ifnonnull o, len, er, a, b)) (ht : tgt pc o = some q) (E : OEndsQ P mi q (forget er L) S H Q) : OEndsQ P mi pc L (.ref x :: S) H Q := by
  obtain ⟨r, E, hq⟩ := E; exact ⟨r, OEnds.nonnull hm hf ht E, hq⟩
theorem OEndsQ.call0 (hm : P.mth[mi]? = some d) (hf : fetch d.code pc = some (i, len, er, a, b)) (hi : isInv i = true) (hb : ¬ b = -1) (hy : P.mth[a]? = some y) (hao : argsOf (nargs y) S = some (as, rest))
    (hc : (decide (0 < a) && invKind i y.kind && recvOk P H y as && fitsRoom d y rest && decide ((entA as).length ≤ y.maxL)) = true) (E1 : OEnds P a 0 (entL as y.maxL) [] H (v, H1, 0, 0)) (E2 : OEndsQ P mi (pc + 3) (forget er L) (v.toList ++ rest) H1 Q) : OEndsQ P mi pc L S H Q := by
  obtain ⟨r, E, hq⟩ := E2; exact ⟨r, OEnds.call0 hm hf hi hb hy hao hc E1 E, hq⟩
theorem OEndsQ.adv (hm : P.mth[mi]? = some d) (k : Nat) {pc' : Nat} (h : adv P d k pc L S H = some (pc', L', S', H')) (E : OEndsQ P mi pc' L' S' H' Q) : OEndsQ P mi pc L S H Q := by
  obtain ⟨r, E, hq⟩ := E; exact ⟨r, OEnds.adv hm k h E, hq⟩
/-- what a law's run ends with: its answer, and at the most so many cells and slots made -/
def LawQ (x : Int32) (kc ks : Nat) (r : Res) : Prop := r.1 = some (.int x) ∧ r.2.2.1 ≤ kc ∧ r.2.2.2 ≤ ks
theorem OEndsQ.iret {x u : Int32} (hm : P.mth[mi]? = some d) (hf : fetch d.code pc = some (.ireturn, len, er, a, b)) (hv : retV d.ret x = some (.int u)) : OEndsQ P mi pc L [.int x] H (LawQ u kc ks) :=
  ⟨_, OEnds.iret hm hf hv, rfl, Nat.zero_le _, Nat.zero_le _⟩
theorem OEndsQ.weak {x : Int32} {c0 s0 : Nat} (h1 : c0 ≤ kc) (h2 : s0 ≤ ks) (E : OEndsQ P mi pc L S H (LawQ x c0 s0)) : OEndsQ P mi pc L S H (LawQ x kc ks) := by
  obtain ⟨r, E, q1, q2, q3⟩ := E; exact ⟨r, E, q1, Nat.le_trans q2 h1, Nat.le_trans q3 h2⟩
theorem OEndsQ.made {x : Int32} {c0 s0 c1 s1 : Nat} (hm : P.mth[mi]? = some d) (hf : fetch d.code pc = some (i, len, er, a, b)) (hi : isNew i = true) (hx : xN P i a S H = some (S', H', ks)) (h1 : c0 + 1 ≤ c1) (h2 : s0 + ks ≤ s1) (E : OEndsQ P mi (pc + len) (forget er L) S' H' (LawQ x c0 s0)) : OEndsQ P mi pc L S H (LawQ x c1 s1) := by
  obtain ⟨⟨v, Hf, k, n⟩, E, q1, q2, q3⟩ := E
  dsimp only at q1 q2 q3
  exact ⟨_, OEnds.made hm hf hi hx E, q1, by show k + 1 ≤ c1; omega, by show n + ks ≤ s1; omega⟩
theorem OEndsQ.callN {x : Int32} {c0 s0 c1 s1 : Nat} (hm : P.mth[mi]? = some d) (hf : fetch d.code pc = some (i, len, er, a, b)) (hi : isInv i = true) (hb : ¬ b = -1) (hy : P.mth[a]? = some y) (hao : argsOf (nargs y) S = some (as, rest))
    (hc : (decide (0 < a) && invKind i y.kind && recvOk P H y as && fitsRoom d y rest && decide ((entA as).length ≤ y.maxL)) = true) (E1 : OEnds P a 0 (entL as y.maxL) [] H (v, H1, kc, ks)) (h1 : c0 + kc ≤ c1) (h2 : s0 + ks ≤ s1) (E2 : OEndsQ P mi (pc + 3) (forget er L) (v.toList ++ rest) H1 (LawQ x c0 s0)) : OEndsQ P mi pc L S H (LawQ x c1 s1) := by
  obtain ⟨⟨v, Hf, k, n⟩, E, q1, q2, q3⟩ := E2
  dsimp only at q1 q2 q3
  exact ⟨_, OEnds.call hm hf hi hb hy hao hc E1 E, q1, by show k + kc ≤ c1; omega, by show n + ks ≤ s1; omega⟩
end Rules
/-! From the machine to the claim -/
theorem law_met {P : PD} {Z : State} {a0 : Array Value} {l : Launch} {y : MD} {as ws : List Value} {H : AHeap} {ρ : List Addr} {n0 kc ks : Nat} {h : Heap} (hP : chk P = true) (hW : ∀ w ∈ wordsOf P, w.before a0 Z = true) (hy : P.mth[0]? = some y)
    (E : OEndsQ P 0 0 (entL as y.maxL) [] H (LawQ 1 kc ks)) (hS : SR ρ as ws) (hlen : (entA as).length ≤ y.maxL) (hH : HR P Z n0 h ρ H) (w0 : List Jvm.Cond) (rm : Room) (r1 : y.rf ≤ rm.frames) (r2 : y.rw ≤ rm.locals) (r3 : kc ≤ rm.cells) (r4 : ks ≤ rm.slots) :
    MetFree l y.name (head1 (Jvm.Cond.code y.name y.bytes y.maxL y.ret :: w0) rm) (fun a U => a = ws.toArray ∧ Z.Warmed39 U.vm ∧ U.heap = h) (fun _ _ _ _ _ => True)
      (fun _ U o U' => ∃ L, o = .returned (some (.int 1)) ∧ Fr n0 L ∧ FrameEnd U o U' L kc ks) := by
  obtain ⟨⟨v, H1, c1, s1⟩, ⟨n, E⟩, q1, q2, q3⟩ := E
  dsimp only at q1 q2 q3
  subst q1
  have hpn : plainName y.name.cls = true := by
    have := mChk_of hP (List.mem_of_getElem? hy)
    simp only [mChk, Bool.and_eq_true] at this
    exact this.1.1.1.1.1.1
  have M := met_of (l := l) (n := n) (sound hP hW n) hy hpn (E n (Nat.le_refl _)) hS hlen hH w0 rm r1 r2 (Nat.le_trans q2 r3) (Nat.le_trans q3 r4)
  intro p e ha hc hk s m args below hf happ hp hK
  obtain ⟨n', o, h1, h2, h3, v', L, rfl, ⟨hF, t, ⟨u, rfl, hu⟩, -⟩, hq⟩ := M p e ha hc hk s m args below hf happ hp hK
  obtain rfl : u = .int 1 := hu
  exact ⟨n', _, h1, h2, h3, L, rfl, hF, hq.1, hq.2.1, hq.2.2.mono q2 q3⟩
end Jvm.Own
namespace Jvm.Own
open Jvm Jvm.ClassFile Sem Op Lib Jvm.Free Jvm.Stand Jvm.LawKit Jvm.RoadKit Bundle
/-- the law's script: an int array of at most 260 -/
theorem script_of {s : State} {ad : Addr} {cl : Cell} (hf : Fit s) (A : Arr s s.heap ad cl .int) (e0 : (Term.arg 0).eval #[.ref ad] s none [] s = some (.ref ad)) (hn : (Jvm.Cond.le (.length (.arg 0)) (.int 260)).value #[.ref ad] s none s [] = some true) :
    ∃ scr : List Int32, cl.slots.size = scr.length ∧ scr.length ≤ 260 ∧ ∀ (i : Nat) x, scr[i]? = some x → cl.slots[i]? = some (.int x) := by
  obtain ⟨u, v, g1, g2, -, -⟩ := cmp_v (Or.inr (Or.inr hn))
  obtain ⟨a', cl', z1, z2, z3⟩ := Term.length_spec g1
  have hat := A.fin (Vm.Alike.refl _)
  rw [e0] at z1
  cases z1
  rw [hat] at z2
  cases z2
  have hsz : cl.slots.size < 2 ^ 31 := by
    rcases Nat.lt_or_ge cl.slots.size (2 ^ 31) with q | q
    · exact q
    · exfalso
      simp [Term.eval, hat] at g1
      omega
  subst z3
  have hv : v = .int 260 := by simpa [Term.eval] using g2.symm
  subst hv
  have hle : cl.slots.size.toInt32 ≤ 260 := by
    simpa [Cond.value, g1, g2] using hn
  have hle' : cl.slots.size ≤ 260 := by
    rw [Int32.le_iff_toInt_le, len_toInt hsz] at hle
    have : (260 : Int32).toInt = 260 := rfl
    rw [this] at hle
    omega
  have key : ∀ i, i < cl.slots.size → ∃ x, cl.slots[i]? = some (.int x) := fun i hi => by
    have hj := idx_in hi hsz
    obtain ⟨v, e1, e2⟩ := elem_fit hf A hj
    have : i.toInt32.toNatClampNeg = i := by
      have h1 : i.toInt32.toInt = i := len_toInt (by omega)
      simp [Int32.toNatClampNeg, h1]
    rw [this] at e1
    obtain ⟨x, rfl⟩ := fit_I e2 (Or.inl rfl)
    exact ⟨x, e1⟩
  refine ⟨cl.slots.toList.map fun v => match v with | .int x => x | _ => 0, by simp, by simpa using hle', fun i x hx => ?_⟩
  rw [List.getElem?_map] at hx
  obtain ⟨v, h1, h2⟩ := Option.map_eq_some_iff.mp hx
  have h1' : cl.slots[i]? = some v := by simpa using h1
  obtain ⟨y, hy⟩ := key i (Array.getElem?_eq_some_iff.mp h1').1
  rw [h1'] at hy
  cases hy
  rw [h1']
  simp at h2
  rw [h2]
theorem hr_script {P : PD} {s : State} {ad : Addr} {cl : Cell} {scr : List Int32} (hnr : P.nr = 1) (A : Arr s s.heap ad cl .int) (h1 : cl.slots.size = scr.length) (h2 : scr.length ≤ 260) (h3 : ∀ (i : Nat) x, scr[i]? = some x → cl.slots[i]? = some (.int x)) : HR P s s.heap.size s.heap [ad] [.inr (.inl (false, scr))] := by
  refine ⟨Nat.le_refl _, rfl, fun i j a g1 g2 => ?_, fun k a g1 g2 => ?_, fun k a c g1 g2 => ?_⟩
  · match i, j, g1, g2 with
    | 0, 0, _, _ => rfl
    | i + 1, _, g1, _ => simp at g1
    | 0, j + 1, _, g2 => simp at g2
  · match k, g1, g2 with
    | 0, _, g2 => rw [hnr] at g2; omega
    | k + 1, g1, _ => simp at g1
  · match k, g1, g2 with
    | 0, g1, g2 =>
      simp at g1 g2
      subst g1 g2
      exact ⟨cl, A, h1, by omega, h3⟩
    | k + 1, g1, _ => simp at g1
end Jvm.Own
namespace Jvm.Own
open Jvm
/-! Ints in range, arrays -/
theorem ilt {a b : Int32} : a < b ↔ a.toInt < b.toInt := Int32.lt_iff_toInt_lt
theorem ile {a b : Int32} : a ≤ b ↔ a.toInt ≤ b.toInt := Int32.le_iff_toInt_le
theorem ieq {a b : Int32} : a = b ↔ a.toInt = b.toInt := Int32.toInt_inj.symm
theorem irng (a : Int32) : -2147483648 ≤ a.toInt ∧ a.toInt < 2147483648 := ⟨Int32.le_toInt a, Int32.toInt_lt a⟩
theorem iadd_i {a b : Int32} (h1 : -2147483648 ≤ a.toInt + b.toInt) (h2 : a.toInt + b.toInt < 2147483648) : (a + b).toInt = a.toInt + b.toInt := by
  rw [Int32.toInt_add]; exact Int.bmod_eq_of_le (by omega) (by omega)
theorem isub_i {a b : Int32} (h1 : -2147483648 ≤ a.toInt - b.toInt) (h2 : a.toInt - b.toInt < 2147483648) : (a - b).toInt = a.toInt - b.toInt := by
  rw [Int32.toInt_sub]; exact Int.bmod_eq_of_le (by omega) (by omega)
theorem imul_i {a b : Int32} (h1 : -2147483648 ≤ a.toInt * b.toInt) (h2 : a.toInt * b.toInt < 2147483648) : (a * b).toInt = a.toInt * b.toInt := by
  rw [Int32.toInt_mul]; exact Int.bmod_eq_of_le (by omega) (by omega)
theorem rdA_nn {α : Type} {L : List α} {j : Int32} (h0 : 0 ≤ j.toInt) : rdA L j = L[j.toInt.toNat]? := by
  unfold rdA
  rw [if_neg (by rw [ilt]; exact Int.not_lt.mpr h0)]
  rfl
theorem rdA_in {α : Type} {L : List α} {j : Int32} (h0 : 0 ≤ j.toInt) (h1 : j.toInt.toNat < L.length) : rdA L j = some L[j.toInt.toNat] := by
  rw [rdA_nn h0, List.getElem?_eq_getElem h1]
theorem wrA_in {α : Type} {L : List α} {j : Int32} {x : α} (h0 : 0 ≤ j.toInt) (h1 : j.toInt.toNat < L.length) : wrA L j x = some (L.set j.toInt.toNat x) := by
  unfold wrA
  rw [if_neg (by rw [ilt]; exact Int.not_lt.mpr h0)]
  exact if_pos h1
theorem rdA_rep {α : Type} {n : Nat} {x : α} {j : Int32} (h0 : 0 ≤ j.toInt) (h1 : j.toInt < n) : rdA (List.replicate n x) j = some x := by
  rw [rdA_nn h0, List.getElem?_replicate, if_pos (by omega)]
end Jvm.Own
namespace Jvm.Own
open Jvm
/-! Sums of ints with their wrap, for omega; runs that answer, and what they answer -/
theorem bmod32 (x : Int) : x.bmod (2 ^ 32) = (x + 2147483648) % 4294967296 - 2147483648 := by
  rw [Int.bmod_def]
  split <;> omega
theorem iadd_e (a b : Int32) : (a + b).toInt = (a.toInt + b.toInt + 2147483648) % 4294967296 - 2147483648 := by
  rw [Int32.toInt_add, bmod32]
theorem isub_e (a b : Int32) : (a - b).toInt = (a.toInt - b.toInt + 2147483648) % 4294967296 - 2147483648 := by
  rw [Int32.toInt_sub, bmod32]
theorem imul_e (a b : Int32) : (a * b).toInt = (a.toInt * b.toInt + 2147483648) % 4294967296 - 2147483648 := by
  rw [Int32.toInt_mul, bmod32]
theorem iscr {n : Nat} (h : n ≤ 260) : (n.toInt32).toInt = n := Int32.toInt_ofNat_of_lt (by omega)
def Tot {α : Type} (x : Option α) (P : α → Prop) : Prop := ∃ r, x = some r ∧ P r
theorem Tot.mk {α : Type} {P : α → Prop} {a : α} (h : P a) : Tot (some a) P := ⟨a, rfl, h⟩
theorem Tot.bind {α β : Type} {x : Option α} {f : α → Option β} {P : α → Prop} {Q : β → Prop} (h : Tot x P) (g : ∀ a, P a → Tot (f a) Q) : Tot (x.bind f) Q := by
  obtain ⟨r, e, p⟩ := h
  rw [e]
  exact g r p
theorem Tot.mono {α : Type} {x : Option α} {P Q : α → Prop} (h : Tot x P) (g : ∀ a, P a → Q a) : Tot x Q := by
  obtain ⟨r, e, p⟩ := h
  exact ⟨r, e, g r p⟩
theorem Tot.ite {α : Type} {c : Prop} [Decidable c] {a b : Option α} {Q : α → Prop} (h1 : c → Tot a Q) (h2 : ¬ c → Tot b Q) : Tot (if c then a else b) Q := by
  by_cases h : c
  · rw [if_pos h]; exact h1 h
  · rw [if_neg h]; exact h2 h
theorem Tot.rd {α β : Type} {L : List α} {j : Int32} {f : α → Option β} {Q : β → Prop} (h0 : 0 ≤ j.toInt) (h1 : j.toInt < L.length) (g : ∀ a, L[j.toInt.toNat]? = some a → Tot (f a) Q) : Tot ((rdA L j).bind f) Q := by
  have h2 : j.toInt.toNat < L.length := by omega
  rw [rdA_in h0 h2]
  exact g _ (List.getElem?_eq_getElem h2)
theorem Tot.wr {α β : Type} {L : List α} {j : Int32} {x : α} {f : List α → Option β} {Q : β → Prop} (h0 : 0 ≤ j.toInt) (h1 : j.toInt < L.length) (g : ∀ L' : List α, L' = L.set j.toInt.toNat x → L'.length = L.length → Tot (f L') Q) : Tot ((wrA L j x).bind f) Q := by
  rw [wrA_in h0 (by omega)]
  exact g _ rfl (by simp)
theorem Tot.eq {α : Type} {x : Option α} {a : α} (h : Tot x (fun r => r = a)) : x = some a := by
  obtain ⟨r, e, p⟩ := h
  rw [e, p]
theorem Tot.of {α : Type} {x : Option α} {a : α} {P : α → Prop} (e : x = some a) (p : P a) : Tot x P := ⟨a, e, p⟩
/-- a bit mask at 15, 31 .. -/
theorem iand_rng (x : Int32) (m : Int32) (h : 0 ≤ m.toInt) : 0 ≤ (x &&& m).toInt ∧ (x &&& m).toInt ≤ m.toInt := by
  have hm : m.toBitVec.msb = false := by
    rw [BitVec.msb_eq_toInt]; simpa using h
  have hx : (x &&& m).toBitVec.msb = false := by
    rw [Int32.toBitVec_and, BitVec.msb_and, hm, Bool.and_false]
  have e1 : m.toInt = (m.toBitVec.toNat : Int) := BitVec.toInt_eq_toNat_of_msb hm
  have e2 : (x &&& m).toInt = (((x &&& m).toBitVec).toNat : Int) := BitVec.toInt_eq_toNat_of_msb hx
  have e3 : ((x &&& m).toBitVec).toNat ≤ m.toBitVec.toNat := by
    rw [Int32.toBitVec_and, BitVec.toNat_and]; exact Nat.and_le_right
  omega
def gI (L : List Int32) (j : Int32) : Int32 := (rdA L j).getD 0
theorem rdg {L : List Int32} {j : Int32} (h0 : 0 ≤ j.toInt) (h1 : j.toInt < L.length) : rdA L j = some (gI L j) := by
  have h2 : j.toInt.toNat < L.length := by omega
  unfold gI
  rw [rdA_in h0 h2]
  (first | done | rfl | simp)
theorem gset {L : List Int32} {i j : Int32} {x : Int32} (hi : 0 ≤ i.toInt) (hl : i.toInt < L.length) (hj : 0 ≤ j.toInt) : gI (L.set i.toInt.toNat x) j = if i = j then x else gI L j := by
  unfold gI
  rw [rdA_nn hj, rdA_nn hj]
  by_cases h : i = j
  · subst h
    rw [if_pos rfl, List.getElem?_set_self (by omega)]
    (first | done | rfl | simp)
  · rw [if_neg h, List.getElem?_set_ne (by rw [ieq] at h; omega)]
theorem gext {A B : List Int32} (hl : A.length < 100000) (ha : A.length = B.length) (h : ∀ i : Int32, 0 ≤ i.toInt → i.toInt < A.length → gI A i = gI B i) : A = B := by
  apply List.ext_getElem ha
  intro k h1 h2
  have e : (Int32.ofNat k).toInt = k := Int32.toInt_ofNat_of_lt (by omega)
  have q := h (Int32.ofNat k) (by omega) (by omega)
  unfold gI at q
  rw [rdA_nn (by omega), rdA_nn (by omega), e] at q
  simpa [h1, h2] using q
theorem Tot.rdI {β : Type} {L : List Int32} {j : Int32} {f : Int32 → Option β} {Q : β → Prop} (h0 : 0 ≤ j.toInt) (h1 : j.toInt < L.length) (g : Tot (f (gI L j)) Q) : Tot ((rdA L j).bind f) Q := by
  rw [rdg h0 h1]
  exact g
theorem gI_rep {n : Nat} {x : Int32} {j : Int32} (h0 : 0 ≤ j.toInt) (h1 : j.toInt < n) : gI (List.replicate n x) j = x := by
  unfold gI
  rw [rdA_rep h0 h1]
  (first | done | rfl | simp)
/-! Longs -/
theorem lltI {a b : Int64} : a < b ↔ a.toInt < b.toInt := Int64.lt_iff_toInt_lt
theorem leqI {a b : Int64} : a = b ↔ a.toInt = b.toInt := Int64.toInt_inj.symm
theorem lrng (a : Int64) : -9223372036854775808 ≤ a.toInt ∧ a.toInt < 9223372036854775808 := ⟨Int64.le_toInt a, Int64.toInt_lt a⟩
theorem ladd_i {a b : Int64} (h1 : -9223372036854775808 ≤ a.toInt + b.toInt) (h2 : a.toInt + b.toInt < 9223372036854775808) : (a + b).toInt = a.toInt + b.toInt := by
  rw [Int64.toInt_add]; exact Int.bmod_eq_of_le (by omega) (by omega)
theorem lsub_i {a b : Int64} (h1 : -9223372036854775808 ≤ a.toInt - b.toInt) (h2 : a.toInt - b.toInt < 9223372036854775808) : (a - b).toInt = a.toInt - b.toInt := by
  rw [Int64.toInt_sub]; exact Int.bmod_eq_of_le (by omega) (by omega)
theorem lmul_i {a b : Int64} (h1 : -9223372036854775808 ≤ a.toInt * b.toInt) (h2 : a.toInt * b.toInt < 9223372036854775808) : (a * b).toInt = a.toInt * b.toInt := by
  rw [Int64.toInt_mul]; exact Int.bmod_eq_of_le (by omega) (by omega)
theorem lmod_i {a b : Int64} (h : 0 ≤ a.toInt) : (a % b).toInt = a.toInt % b.toInt := by
  rw [Int64.toInt_mod, Int.tmod_eq_emod_of_nonneg h]
theorem lback {a : Int64} (h1 : -2147483648 ≤ a.toInt) (h2 : a.toInt < 2147483648) : a.toInt32.toInt64 = a := by
  rw [leqI, Int32.toInt_toInt64, Int64.toInt_toInt32, bmod32]
  omega
theorem mulb {a b M : Int} (h0 : 0 ≤ a) (h1 : a ≤ M) (h2 : 0 ≤ b) (h3 : b ≤ M) : 0 ≤ a * b ∧ a * b ≤ M * M :=
  ⟨Int.mul_nonneg h0 h2, Int.mul_le_mul h1 h3 h2 (by omega)⟩
end Jvm.Own
namespace Jvm.Pilot.@@N@@
open Jvm Jvm.ClassFile Sem Op Lib Jvm.Free Jvm.Stand Jvm.LawKit Jvm.RoadKit Bundle Jvm.Own Jvm.Pilot.@@N@@.Jvm.D
def d_0 : MD := (x, code, maxLocals, ret, 0, 1, 999, 6, 97, [(0, .aload_n 0, 1, [], 0, 0), (1, .iconst 0, 1, [], 0, 0), (2, .invokestatic 8, 3, [], 1, 0), (5, .invokestatic 14, 3, [], 2, 0), (8, .iconst 4, 1, [], 0, 0), (9, .irem, 1, [], 0, 0), (10, .istore_n 1, 1, [], 0, 0), (11, .aload_n 0, 1, [], 0, 0), (12, .iconst 1, 1, [], 0, 0), (13, .invokestatic 8, 3, [], 1, 0), (16, .invokestatic 14, 3, [], 2, 0), (19, .iconst 4, 1, [], 0, 0), (20, .irem, 1, [], 0, 0), (21, .istore_n 2, 1, [], 0, 0), (22, .aload_n 0, 1, [], 0, 0), (23, .iconst 2, 1, [], 0, 0), (24, .invokestatic 8, 3, [], 1, 0), (27, .invokestatic 14, 3, [], 2, 0), (30, .iconst 4, 1, [], 0, 0), (31, .irem, 1, [], 0, 0), (32, .istore_n 3, 1, [], 0, 0), (33, .iload_n 1, 1, [], 0, 0), (34, .iload_n 2, 1, [], 0, 0), (35, .iadd, 1, [], 0, 0), (36, .iload_n 3, 1, [], 0, 0), (37, .iadd, 1, [], 0, 0), (38, .istore 4, 2, [], 0, 0), (40, .iload_n 2, 1, [], 0, 0), (41, .iload_n 3, 1, [], 0, 0), (42, .iadd, 1, [], 0, 0), (43, .istore 5, 2, [], 0, 0), (45, .iload_n 3, 1, [], 0, 0), (46, .istore 6, 2, [], 0, 0), (48, .new 18, 3, [], 0, 0), (51, .dup, 1, [], 0, 0), (52, .iload_n 1, 1, [], 0, 0), (53, .iload_n 2, 1, [], 0, 0), (54, .iload_n 3, 1, [], 0, 0), (55, .invokespecial 20, 3, [], 3, 0), (58, .astore 7, 2, [], 0, 0), (60, .aload_n 0, 1, [], 0, 0), (61, .arraylength, 1, [], 0, 0), (62, .iconst 4, 1, [], 0, 0), (63, .idiv, 1, [], 0, 0), (64, .iconst 1, 1, [], 0, 0), (65, .iadd, 1, [], 0, 0), (66, .istore 8, 2, [], 0, 0), (68, .iload 8, 2, [], 0, 0), (70, .sipush 150, 3, [], 0, 0), (73, .if_icmp .le 8, 3, [], 0, 0), (76, .sipush 150, 3, [], 0, 0), (79, .istore 8, 2, [], 0, 0), (81, .iconst 0, 1, [], 0, 0), (82, .istore 9, 2, [], 0, 0), (84, .iload 9, 2, [false, true, true, true, false, false, false, false, false, false, true, true, true, true, true, true, true, true, true, true, true, true, true, true, true, true, true, true, true, true], 0, 0), (86, .iload 8, 2, [], 0, 0), (88, .if_icmp .ge 940, 3, [], 0, 0), (91, .iconst 3, 1, [], 0, 0), (92, .iconst 4, 1, [], 0, 0), (93, .iload 9, 2, [], 0, 0), (95, .imul, 1, [], 0, 0), (96, .iadd, 1, [], 0, 0), (97, .istore 10, 2, [], 0, 0), (99, .aload_n 0, 1, [], 0, 0), (100, .iload 10, 2, [], 0, 0), (102, .invokestatic 8, 3, [], 1, 0), (105, .invokestatic 14, 3, [], 2, 0), (108, .bipush 8, 2, [], 0, 0), (110, .irem, 1, [], 0, 0), (111, .istore 11, 2, [], 0, 0), (113, .aload_n 0, 1, [], 0, 0), (114, .iload 10, 2, [], 0, 0), (116, .iconst 1, 1, [], 0, 0), (117, .iadd, 1, [], 0, 0), (118, .invokestatic 8, 3, [], 1, 0), (121, .invokestatic 14, 3, [], 2, 0), (124, .istore 12, 2, [], 0, 0), (126, .aload_n 0, 1, [], 0, 0), (127, .iload 10, 2, [], 0, 0), (129, .iconst 2, 1, [], 0, 0), (130, .iadd, 1, [], 0, 0), (131, .invokestatic 8, 3, [], 1, 0), (134, .invokestatic 14, 3, [], 2, 0), (137, .istore 13, 2, [], 0, 0), (139, .aload_n 0, 1, [], 0, 0), (140, .iload 10, 2, [], 0, 0), (142, .iconst 3, 1, [], 0, 0), (143, .iadd, 1, [], 0, 0), (144, .invokestatic 8, 3, [], 1, 0), (147, .invokestatic 14, 3, [], 2, 0), (150, .istore 14, 2, [], 0, 0), (152, .iload 12, 2, [], 0, 0), (154, .bipush 7, 2, [], 0, 0), (156, .irem, 1, [], 0, 0), (157, .istore 15, 2, [], 0, 0), (159, .iload 15, 2, [], 0, 0), (161, .bipush 6, 2, [], 0, 0), (163, .if_icmp .ge 10, 3, [], 0, 0), (166, .iload 15, 2, [], 0, 0), (168, .iconst 3, 1, [], 0, 0), (169, .irem, 1, [], 0, 0), (170, .goto 4, 3, [], 0, 0), (173, .iconst 3, 1, [], 0, 0), (174, .istore 15, 2, [false, true, true, true, false, false, false, false, false, false, true, false, false, false, false, true, true, true, true, true, true, true, true, true, true, true, true, true, true, true], 0, 0), (176, .iload 13, 2, [], 0, 0), (178, .bipush 33, 2, [], 0, 0), (180, .irem, 1, [], 0, 0), (181, .istore 16, 2, [], 0, 0), (183, .iload 14, 2, [], 0, 0), (185, .bipush 9, 2, [], 0, 0), (187, .irem, 1, [], 0, 0), (188, .istore 17, 2, [], 0, 0), (190, .iload 12, 2, [], 0, 0), (192, .bipush 7, 2, [], 0, 0), (194, .idiv, 1, [], 0, 0), (195, .bipush 34, 2, [], 0, 0), (197, .irem, 1, [], 0, 0), (198, .iconst 1, 1, [], 0, 0), (199, .isub, 1, [], 0, 0), (200, .istore 18, 2, [], 0, 0), (202, .iload 15, 2, [], 0, 0), (204, .iload 16, 2, [], 0, 0), (206, .iload 17, 2, [], 0, 0), (208, .invokestatic 23, 3, [], 9, 0), (211, .istore 19, 2, [], 0, 0), (213, .iconst 0, 1, [], 0, 0), (214, .istore 20, 2, [], 0, 0), (216, .iload 11, 2, [], 0, 0), (218, .iconst 4, 1, [], 0, 0), (219, .if_icmp .gt 276, 3, [], 0, 0), (222, .iload 11, 2, [], 0, 0), (224, .iconst 4, 1, [], 0, 0), (225, .if_icmp .ne 8, 3, [], 0, 0), (228, .iload 18, 2, [], 0, 0), (230, .goto 4, 3, [], 0, 0), (233, .iconst (-1), 1, [], 0, 0), (234, .istore 21, 2, [false, true, true, true, false, false, false, false, false, false, true, false, true, true, true, false, false, false, false, false, true, true, true, true, true, true, true, true, true, true], 0, 0), (236, .iconst 0, 1, [], 0, 0), (237, .istore 22, 2, [], 0, 0), (239, .iconst 1, 1, [], 0, 0), (240, .istore 23, 2, [], 0, 0), (242, .iconst 0, 1, [], 0, 0), (243, .istore 24, 2, [], 0, 0), (245, .iload 24, 2, [false, true, true, true, false, false, false, false, false, false, true, false, true, true, true, false, false, false, false, false, true, false, false, false, false, true, true, true, true, true], 0, 0), (247, .bipush 32, 2, [], 0, 0), (249, .if_icmp .ge 174, 3, [], 0, 0), (252, .iconst 0, 1, [], 0, 0), (253, .istore 25, 2, [], 0, 0), (255, .iconst 0, 1, [], 0, 0), (256, .istore 26, 2, [], 0, 0), (258, .iconst 0, 1, [], 0, 0), (259, .istore 27, 2, [], 0, 0), (261, .iconst 0, 1, [], 0, 0), (262, .istore 28, 2, [], 0, 0), (264, .iload 28, 2, [false, true, true, true, false, false, false, false, false, false, true, false, true, true, true, false, false, false, false, false, true, false, false, false, false, false, false, false, false, true], 0, 0), (266, .bipush 32, 2, [], 0, 0), (268, .if_icmp .ge 87, 3, [], 0, 0), (271, .aload 7, 2, [], 0, 0), (273, .iload 28, 2, [], 0, 0), (275, .invokevirtual 27, 3, [], 10, 0), (278, .istore 29, 2, [], 0, 0), (280, .iload 29, 2, [], 0, 0), (282, .ifCond .ge 6, 3, [], 0, 0), (285, .goto 64, 3, [], 0, 0), (288, .iload 24, 2, [], 0, 0), (290, .ifCond .ne 6, 3, [], 0, 0), (293, .iinc 22 1, 3, [], 0, 0), (296, .iload 28, 2, [false, true, true, true, false, false, false, false, false, false, true, false, true, true, true, false, false, false, false, false, true], 0, 0), (298, .iload 21, 2, [], 0, 0), (300, .if_icmp .ne 6, 3, [], 0, 0), (303, .goto 46, 3, [], 0, 0), (306, .aload 7, 2, [], 0, 0), (308, .iload 28, 2, [], 0, 0), (310, .invokevirtual 30, 3, [], 29, 0), (313, .aload 7, 2, [], 0, 0), (315, .iload 28, 2, [], 0, 0), (317, .invokevirtual 33, 3, [], 30, 0), (320, .iload 24, 2, [], 0, 0), (322, .invokestatic 36, 3, [], 12, 0), (325, .ifCond .eq 24, 3, [], 0, 0), (328, .iinc 25 1, 3, [], 0, 0), (331, .iload 29, 2, [], 0, 0), (333, .iconst 1, 1, [], 0, 0), (334, .if_icmp .lt 6, 3, [], 0, 0), (337, .iinc 26 1, 3, [], 0, 0), (340, .iload 29, 2, [false, true, true, true, false, false, false, false, false, false, true, false, true, true, true, false, false, false, false, false, true], 0, 0), (342, .iconst 2, 1, [], 0, 0), (343, .if_icmp .lt 6, 3, [], 0, 0), (346, .iinc 27 1, 3, [], 0, 0), (349, .iinc 28 1, 3, [], 0, 0), (352, .goto (-88), 3, [], 0, 0), (355, .iload 19, 2, [false, true, true, true, false, false, false, false, false, false, true, false, true, true, true, false, false, false, false, false, true, false, false, false, false, false, false, false, true, true], 0, 0), (357, .ifCond .eq 36, 3, [], 0, 0), (360, .iload 16, 2, [], 0, 0), (362, .iload 17, 2, [], 0, 0), (364, .iload 24, 2, [], 0, 0), (366, .invokestatic 36, 3, [], 12, 0), (369, .ifCond .eq 24, 3, [], 0, 0), (372, .iinc 25 1, 3, [], 0, 0), (375, .iload 15, 2, [], 0, 0), (377, .iconst 1, 1, [], 0, 0), (378, .if_icmp .lt 6, 3, [], 0, 0), (381, .iinc 26 1, 3, [], 0, 0), (384, .iload 15, 2, [false, true, true, true, false, false, false, false, false, false, true, false, true, true, true, false, false, false, false, false, true, false, false, false, false, false, false, false, true, true], 0, 0), (386, .iconst 2, 1, [], 0, 0), (387, .if_icmp .lt 6, 3, [], 0, 0), (390, .iinc 27 1, 3, [], 0, 0), (393, .iload 25, 2, [false, true, true, true, false, false, false, false, false, false, true, false, true, true, true, false, false, false, false, false, true, false, false, false, false, false, false, false, true, true], 0, 0), (395, .iload 4, 2, [], 0, 0), (397, .if_icmp .gt 17, 3, [], 0, 0), (400, .iload 26, 2, [], 0, 0), (402, .iload 5, 2, [], 0, 0), (404, .if_icmp .gt 10, 3, [], 0, 0), (407, .iload 27, 2, [], 0, 0), (409, .iload 6, 2, [], 0, 0), (411, .if_icmp .le 6, 3, [], 0, 0), (414, .iconst 0, 1, [], 0, 0), (415, .istore 23, 2, [], 0, 0), (417, .iinc 24 1, 3, [], 0, 0), (420, .goto (-175), 3, [], 0, 0), (423, .iload 11, 2, [false, true, true, true, false, false, false, false, false, false, true, false, true, true, true, false, false, false, false, false, true, true, false, false, true, true, true, true, true, true], 0, 0), (425, .iconst 3, 1, [], 0, 0), (426, .if_icmp .gt 30, 3, [], 0, 0), (429, .iload 19, 2, [], 0, 0), (431, .ifCond .eq 19, 3, [], 0, 0), (434, .iload 22, 2, [], 0, 0), (436, .bipush 32, 2, [], 0, 0), (438, .if_icmp .ge 12, 3, [], 0, 0), (441, .iload 23, 2, [], 0, 0), (443, .ifCond .eq 7, 3, [], 0, 0), (446, .iconst 1, 1, [], 0, 0), (447, .goto 4, 3, [], 0, 0), (450, .iconst 0, 1, [], 0, 0), (451, .istore 20, 2, [], 0, 0), (453, .goto 42, 3, [], 0, 0), (456, .iload 18, 2, [], 0, 0), (458, .ifCond .lt 34, 3, [], 0, 0), (461, .iload 18, 2, [], 0, 0), (463, .bipush 31, 2, [], 0, 0), (465, .if_icmp .gt 27, 3, [], 0, 0), (468, .aload 7, 2, [], 0, 0), (470, .iload 18, 2, [], 0, 0), (472, .invokevirtual 27, 3, [], 10, 0), (475, .ifCond .lt 17, 3, [], 0, 0), (478, .iload 19, 2, [], 0, 0), (480, .ifCond .eq 12, 3, [], 0, 0), (483, .iload 23, 2, [], 0, 0), (485, .ifCond .eq 7, 3, [], 0, 0), (488, .iconst 1, 1, [], 0, 0), (489, .goto 4, 3, [], 0, 0), (492, .iconst 0, 1, [], 0, 0), (493, .istore 20, 2, [], 0, 0), (495, .iload 11, 2, [false, true, true, true, false, false, false, false, false, false, true, false, true, true, true, false, false, false, false, true, false, true, true, true, true, true, true, true, true, true], 0, 0), (497, .iconst 3, 1, [], 0, 0), (498, .if_icmp .gt 29, 3, [], 0, 0), (501, .aload 7, 2, [], 0, 0), (503, .iload 15, 2, [], 0, 0), (505, .iload 16, 2, [], 0, 0), (507, .iload 17, 2, [], 0, 0), (509, .invokevirtual 39, 3, [], 13, 0), (512, .ifCond .lt 7, 3, [], 0, 0), (515, .iconst 1, 1, [], 0, 0), (516, .goto 4, 3, [], 0, 0), (519, .iconst 0, 1, [], 0, 0), (520, .iload 20, 2, [false, true, true, true, false, false, false, false, false, false, true, true, true, true, true, true, true, true, true, true, false, true, true, true, true, true, true, true, true, true], 0, 0), (522, .if_icmp .eq 62, 3, [], 0, 0), (525, .iconst 0, 1, [], 0, 0), (526, .ireturn, 1, [], 0, 0), (527, .iload 11, 2, [], 0, 0), (529, .iconst 4, 1, [], 0, 0), (530, .if_icmp .ne 31, 3, [], 0, 0), (533, .aload 7, 2, [], 0, 0), (535, .iload 18, 2, [], 0, 0), (537, .iload 15, 2, [], 0, 0), (539, .iload 16, 2, [], 0, 0), (541, .iload 17, 2, [], 0, 0), (543, .invokevirtual 43, 3, [], 40, 0), (546, .ifCond .ne 7, 3, [], 0, 0), (549, .iconst 1, 1, [], 0, 0), (550, .goto 4, 3, [], 0, 0), (553, .iconst 0, 1, [], 0, 0), (554, .iload 20, 2, [false, true, true, true, false, false, false, false, false, false, true, true, true, true, true, true, true, true, true, true, false, true, true, true, true, true, true, true, true, true], 0, 0), (556, .if_icmp .eq 28, 3, [], 0, 0), (559, .iconst 0, 1, [], 0, 0), (560, .ireturn, 1, [], 0, 0), (561, .iload 11, 2, [], 0, 0), (563, .iconst 5, 1, [], 0, 0), (564, .if_icmp .ne 14, 3, [], 0, 0), (567, .aload 7, 2, [], 0, 0), (569, .iload 18, 2, [], 0, 0), (571, .invokevirtual 47, 3, [], 32, 0), (574, .pop, 1, [], 0, 0), (575, .goto 9, 3, [], 0, 0), (578, .aload 7, 2, [], 0, 0), (580, .invokevirtual 50, 3, [], 34, 0), (583, .pop, 1, [], 0, 0), (584, .iconst 0, 1, [], 0, 0), (585, .istore 21, 2, [], 0, 0), (587, .iload 21, 2, [false, true, true, true, false, false, false, false, false, false, true, true, true, true, true, true, true, true, true, true, true, false, true, true, true, true, true, true, true, true], 0, 0), (589, .bipush 32, 2, [], 0, 0), (591, .if_icmp .ge 117, 3, [], 0, 0), (594, .iconst 0, 1, [], 0, 0), (595, .istore 22, 2, [], 0, 0), (597, .iconst 0, 1, [], 0, 0), (598, .istore 23, 2, [], 0, 0), (600, .iconst 0, 1, [], 0, 0), (601, .istore 24, 2, [], 0, 0), (603, .iconst 0, 1, [], 0, 0), (604, .istore 25, 2, [], 0, 0), (606, .iload 25, 2, [false, true, true, true, false, false, false, false, false, false, true, true, true, true, true, true, true, true, true, true, true, false, false, false, false, false, true, true, true, true], 0, 0), (608, .bipush 32, 2, [], 0, 0), (610, .if_icmp .ge 69, 3, [], 0, 0), (613, .aload 7, 2, [], 0, 0), (615, .iload 25, 2, [], 0, 0), (617, .invokevirtual 27, 3, [], 10, 0), (620, .istore 26, 2, [], 0, 0), (622, .iload 26, 2, [], 0, 0), (624, .ifCond .ge 6, 3, [], 0, 0), (627, .goto 46, 3, [], 0, 0), (630, .aload 7, 2, [], 0, 0), (632, .iload 25, 2, [], 0, 0), (634, .invokevirtual 30, 3, [], 29, 0), (637, .aload 7, 2, [], 0, 0), (639, .iload 25, 2, [], 0, 0), (641, .invokevirtual 33, 3, [], 30, 0), (644, .iload 21, 2, [], 0, 0), (646, .invokestatic 36, 3, [], 12, 0), (649, .ifCond .eq 24, 3, [], 0, 0), (652, .iinc 22 1, 3, [], 0, 0), (655, .iload 26, 2, [], 0, 0), (657, .iconst 1, 1, [], 0, 0), (658, .if_icmp .lt 6, 3, [], 0, 0), (661, .iinc 23 1, 3, [], 0, 0), (664, .iload 26, 2, [false, true, true, true, false, false, false, false, false, false, true, true, true, true, true, true, true, true, true, true, true, false, false, false, false, false, false, true, true, true], 0, 0), (666, .iconst 2, 1, [], 0, 0), (667, .if_icmp .lt 6, 3, [], 0, 0), (670, .iinc 24 1, 3, [], 0, 0), (673, .iinc 25 1, 3, [], 0, 0), (676, .goto (-70), 3, [], 0, 0), (679, .iload 22, 2, [false, true, true, true, false, false, false, false, false, false, true, true, true, true, true, true, true, true, true, true, true, false, false, false, false, true, true, true, true, true], 0, 0), (681, .iload 4, 2, [], 0, 0), (683, .if_icmp .gt 17, 3, [], 0, 0), (686, .iload 23, 2, [], 0, 0), (688, .iload 5, 2, [], 0, 0), (690, .if_icmp .gt 10, 3, [], 0, 0), (693, .iload 24, 2, [], 0, 0), (695, .iload 6, 2, [], 0, 0), (697, .if_icmp .le 5, 3, [], 0, 0), (700, .iconst 0, 1, [], 0, 0), (701, .ireturn, 1, [], 0, 0), (702, .iinc 21 1, 3, [], 0, 0), (705, .goto (-118), 3, [], 0, 0), (708, .aload 7, 2, [false, true, true, true, false, false, false, false, false, false, true, true, true, true, true, true, true, true, true, true, true, true, true, true, true, true, true, true, true, true], 0, 0), (710, .invokevirtual 54, 3, [], 31, 0), (713, .ifCond .eq 309, 3, [], 0, 0), (716, .iconst 0, 1, [], 0, 0), (717, .istore 21, 2, [], 0, 0), (719, .iload 21, 2, [false, true, true, true, false, false, false, false, false, false, true, true, true, true, true, true, true, true, true, true, true, false, true, true, true, true, true, true, true, true], 0, 0), (721, .bipush 32, 2, [], 0, 0), (723, .if_icmp .ge 137, 3, [], 0, 0), (726, .aload 7, 2, [], 0, 0), (728, .iload 21, 2, [], 0, 0), (730, .invokevirtual 27, 3, [], 10, 0), (733, .istore 22, 2, [], 0, 0), (735, .iload 22, 2, [], 0, 0), (737, .ifCond .ge 6, 3, [], 0, 0), (740, .goto 114, 3, [], 0, 0), (743, .aload 7, 2, [], 0, 0), (745, .iload 21, 2, [], 0, 0), (747, .invokevirtual 58, 3, [], 45, 0), (750, .istore 23, 2, [], 0, 0), (752, .iload 23, 2, [], 0, 0), (754, .ifCond .ge 6, 3, [], 0, 0), (757, .goto 97, 3, [], 0, 0), (760, .aload 7, 2, [], 0, 0), (762, .iload 23, 2, [], 0, 0), (764, .invokevirtual 61, 3, [], 46, 0), (767, .iload 22, 2, [], 0, 0), (769, .if_icmp .ge 5, 3, [], 0, 0), (772, .iconst 0, 1, [], 0, 0), (773, .ireturn, 1, [], 0, 0), (774, .iload 21, 2, [], 0, 0), (776, .iconst 1, 1, [], 0, 0), (777, .iadd, 1, [], 0, 0), (778, .istore 24, 2, [], 0, 0), (780, .iload 24, 2, [false, true, true, true, false, false, false, false, false, false, true, true, true, true, true, true, true, true, true, true, true, false, true, false, false, true, true, true, true, true], 0, 0), (782, .bipush 32, 2, [], 0, 0), (784, .if_icmp .ge 70, 3, [], 0, 0), (787, .aload 7, 2, [], 0, 0), (789, .iload 24, 2, [], 0, 0), (791, .invokevirtual 27, 3, [], 10, 0), (794, .ifCond .lt 54, 3, [], 0, 0), (797, .aload 7, 2, [], 0, 0), (799, .iload 24, 2, [], 0, 0), (801, .invokevirtual 58, 3, [], 45, 0), (804, .iload 23, 2, [], 0, 0), (806, .if_icmp .eq 6, 3, [], 0, 0), (809, .goto 39, 3, [], 0, 0), (812, .aload 7, 2, [], 0, 0), (814, .iload 21, 2, [], 0, 0), (816, .invokevirtual 30, 3, [], 29, 0), (819, .aload 7, 2, [], 0, 0), (821, .iload 21, 2, [], 0, 0), (823, .invokevirtual 33, 3, [], 30, 0), (826, .aload 7, 2, [], 0, 0), (828, .iload 24, 2, [], 0, 0), (830, .invokevirtual 30, 3, [], 29, 0), (833, .aload 7, 2, [], 0, 0), (835, .iload 24, 2, [], 0, 0), (837, .invokevirtual 33, 3, [], 30, 0), (840, .invokestatic 64, 3, [], 48, 0), (843, .ifCond .eq 5, 3, [], 0, 0), (846, .iconst 0, 1, [], 0, 0), (847, .ireturn, 1, [], 0, 0), (848, .iinc 24 1, 3, [], 0, 0), (851, .goto (-71), 3, [], 0, 0), (854, .iinc 21 1, 3, [], 0, 0), (857, .goto (-138), 3, [], 0, 0), (860, .iconst 0, 1, [], 0, 0), (861, .istore 21, 2, [], 0, 0), (863, .iload 21, 2, [false, true, true, true, false, false, false, false, false, false, true, true, true, true, true, true, true, true, true, true, true, false, true, true, true, true, true, true, true, true], 0, 0), (865, .iload 4, 2, [], 0, 0), (867, .if_icmp .ge 155, 3, [], 0, 0), (870, .iconst 0, 1, [], 0, 0), (871, .istore 22, 2, [], 0, 0), (873, .iload 22, 2, [false, true, true, true, false, false, false, false, false, false, true, true, true, true, true, true, true, true, true, true, true, false, false, true, true, true, true, true, true, true], 0, 0), (875, .bipush 32, 2, [], 0, 0), (877, .if_icmp .ge 139, 3, [], 0, 0), (880, .aload 7, 2, [], 0, 0), (882, .iload 21, 2, [], 0, 0), (884, .iload 22, 2, [], 0, 0), (886, .invokevirtual 68, 3, [], 36, 0), (889, .istore 23, 2, [], 0, 0), (891, .iload 23, 2, [], 0, 0), (893, .iconst (-1), 1, [], 0, 0), (894, .if_icmp .eq 27, 3, [], 0, 0), (897, .iload 23, 2, [], 0, 0), (899, .ifCond .lt 20, 3, [], 0, 0), (902, .iload 23, 2, [], 0, 0), (904, .bipush 31, 2, [], 0, 0), (906, .if_icmp .gt 13, 3, [], 0, 0), (909, .aload 7, 2, [], 0, 0), (911, .iload 23, 2, [], 0, 0), (913, .invokevirtual 27, 3, [], 10, 0), (916, .ifCond .ge 5, 3, [], 0, 0), (919, .iconst 0, 1, [], 0, 0), (920, .ireturn, 1, [], 0, 0), (921, .iconst 0, 1, [], 0, 0), (922, .istore 24, 2, [], 0, 0), (924, .iload 24, 2, [false, true, true, true, false, false, false, false, false, false, true, true, true, true, true, true, true, true, true, true, true, false, false, false, false, true, true, true, true, true], 0, 0), (926, .bipush 32, 2, [], 0, 0), (928, .if_icmp .ge 82, 3, [], 0, 0), (931, .aload 7, 2, [], 0, 0), (933, .iload 24, 2, [], 0, 0), (935, .invokevirtual 27, 3, [], 10, 0), (938, .ifCond .ge 6, 3, [], 0, 0), (941, .goto 63, 3, [], 0, 0), (944, .aload 7, 2, [], 0, 0), (946, .iload 24, 2, [], 0, 0), (948, .invokevirtual 58, 3, [], 45, 0), (951, .iload 21, 2, [], 0, 0), (953, .if_icmp .ne 29, 3, [], 0, 0), (956, .aload 7, 2, [], 0, 0), (958, .iload 24, 2, [], 0, 0), (960, .invokevirtual 30, 3, [], 29, 0), (963, .aload 7, 2, [], 0, 0), (965, .iload 24, 2, [], 0, 0), (967, .invokevirtual 33, 3, [], 30, 0), (970, .iload 22, 2, [], 0, 0), (972, .invokestatic 36, 3, [], 12, 0), (975, .ifCond .eq 7, 3, [], 0, 0), (978, .iconst 1, 1, [], 0, 0), (979, .goto 4, 3, [], 0, 0), (982, .iconst 0, 1, [], 0, 0), (983, .istore 25, 2, [false, true, true, true, false, false, false, false, false, false, true, true, true, true, true, true, true, true, true, true, true, false, false, false, false, true, true, true, true, true], 0, 0), (985, .iload 23, 2, [], 0, 0), (987, .iload 24, 2, [], 0, 0), (989, .if_icmp .ne 7, 3, [], 0, 0), (992, .iconst 1, 1, [], 0, 0), (993, .goto 4, 3, [], 0, 0), (996, .iconst 0, 1, [], 0, 0), (997, .iload 25, 2, [false, true, true, true, false, false, false, false, false, false, true, true, true, true, true, true, true, true, true, true, true, false, false, false, false, false, true, true, true, true], 0, 0), (999, .if_icmp .eq 5, 3, [], 0, 0), (1002, .iconst 0, 1, [], 0, 0), (1003, .ireturn, 1, [], 0, 0), (1004, .iinc 24 1, 3, [], 0, 0), (1007, .goto (-83), 3, [], 0, 0), (1010, .iinc 22 1, 3, [], 0, 0), (1013, .goto (-140), 3, [], 0, 0), (1016, .iinc 21 1, 3, [], 0, 0), (1019, .goto (-156), 3, [], 0, 0), (1022, .iinc 9 1, 3, [], 0, 0), (1025, .goto (-941), 3, [], 0, 0), (1028, .iconst 1, 1, [], 0, 0), (1029, .ireturn, 1, [], 0, 0)])
def d_1 : MD := (⟨"RoomPlannerOwnLaw", "cell", "([II)I"⟩, method_2_code, 2, some .int, 0, 2, 999, 0, 0, [(0, .iload_n 1, 1, [], 0, 0), (1, .aload_n 0, 1, [], 0, 0), (2, .arraylength, 1, [], 0, 0), (3, .if_icmp .ge 9, 3, [], 0, 0), (6, .aload_n 0, 1, [], 0, 0), (7, .iload_n 1, 1, [], 0, 0), (8, .iaload, 1, [], 0, 0), (9, .goto 4, 3, [], 0, 0), (12, .iconst 0, 1, [], 0, 0), (13, .ireturn, 1, [], 0, 0)])
def d_2 : MD := (⟨"RoomPlannerOwnLaw", "m", "(I)I"⟩, method_3_code, 1, some .int, 0, 1, 999, 0, 0, [(0, .iload_n 0, 1, [], 0, 0), (1, .ldc 7, 2, [], 0, 2147483647), (3, .iand, 1, [], 0, 0), (4, .ireturn, 1, [], 0, 0)])
def d_3 : MD := (⟨"RoomPlanner", "<init>", "(III)V"⟩, prog_1_method_1_code, 4, none, 1, 3, 0, 1, 15, [(0, .aload_n 0, 1, [], 0, 0), (1, .invokespecial 1, 3, [], 0, -1), (4, .aload_n 0, 1, [], 0, 0), (5, .iconst 3, 1, [], 0, 0), (6, .newarray .int, 2, [], 0, 0), (8, .putfield 7, 3, [], 0, 0), (11, .aload_n 0, 1, [], 0, 0), (12, .iconst 3, 1, [], 0, 0), (13, .newarray .int, 2, [], 0, 0), (15, .putfield 13, 3, [], 1, 0), (18, .aload_n 0, 1, [], 0, 0), (19, .iconst 3, 1, [], 0, 0), (20, .newarray .int, 2, [], 0, 0), (22, .putfield 16, 3, [], 2, 0), (25, .aload_n 0, 1, [], 0, 0), (26, .bipush 32, 2, [], 0, 0), (28, .newarray .boolean, 2, [], 0, 0), (30, .putfield 19, 3, [], 3, 0), (33, .aload_n 0, 1, [], 0, 0), (34, .bipush 32, 2, [], 0, 0), (36, .newarray .int, 2, [], 0, 0), (38, .putfield 23, 3, [], 4, 0), (41, .aload_n 0, 1, [], 0, 0), (42, .bipush 32, 2, [], 0, 0), (44, .newarray .int, 2, [], 0, 0), (46, .putfield 26, 3, [], 5, 0), (49, .aload_n 0, 1, [], 0, 0), (50, .bipush 32, 2, [], 0, 0), (52, .newarray .int, 2, [], 0, 0), (54, .putfield 29, 3, [], 6, 0), (57, .aload_n 0, 1, [], 0, 0), (58, .bipush 96, 2, [], 0, 0), (60, .newarray .int, 2, [], 0, 0), (62, .putfield 32, 3, [], 7, 0), (65, .aload_n 0, 1, [], 0, 0), (66, .bipush 96, 2, [], 0, 0), (68, .newarray .int, 2, [], 0, 0), (70, .putfield 35, 3, [], 8, 0), (73, .aload_n 0, 1, [], 0, 0), (74, .bipush 32, 2, [], 0, 0), (76, .newarray .int, 2, [], 0, 0), (78, .putfield 38, 3, [], 9, 0), (81, .aload_n 0, 1, [], 0, 0), (82, .sipush 768, 3, [], 0, 0), (85, .newarray .int, 2, [], 0, 0), (87, .putfield 41, 3, [], 10, 0), (90, .aload_n 0, 1, [], 0, 0), (91, .bipush 32, 2, [], 0, 0), (93, .newarray .int, 2, [], 0, 0), (95, .putfield 44, 3, [], 11, 0), (98, .aload_n 0, 1, [], 0, 0), (99, .getfield 7, 3, [], 0, 0), (102, .iconst 0, 1, [], 0, 0), (103, .aload_n 0, 1, [], 0, 0), (104, .iload_n 1, 1, [], 0, 0), (105, .invokevirtual 47, 3, [], 4, 0), (108, .iastore, 1, [], 0, 0), (109, .aload_n 0, 1, [], 0, 0), (110, .getfield 7, 3, [], 0, 0), (113, .iconst 1, 1, [], 0, 0), (114, .aload_n 0, 1, [], 0, 0), (115, .iload_n 2, 1, [], 0, 0), (116, .invokevirtual 47, 3, [], 4, 0), (119, .iastore, 1, [], 0, 0), (120, .aload_n 0, 1, [], 0, 0), (121, .getfield 7, 3, [], 0, 0), (124, .iconst 2, 1, [], 0, 0), (125, .aload_n 0, 1, [], 0, 0), (126, .iload_n 3, 1, [], 0, 0), (127, .invokevirtual 47, 3, [], 4, 0), (130, .iastore, 1, [], 0, 0), (131, .aload_n 0, 1, [], 0, 0), (132, .invokevirtual 51, 3, [], 5, 0), (135, .aload_n 0, 1, [], 0, 0), (136, .invokevirtual 54, 3, [], 6, 0), (139, .aload_n 0, 1, [], 0, 0), (140, .invokevirtual 57, 3, [], 7, 0), (143, .aload_n 0, 1, [], 0, 0), (144, .invokevirtual 60, 3, [], 8, 0), (147, .aload_n 0, 1, [], 0, 0), (148, .iconst 0, 1, [], 0, 0), (149, .putfield 63, 3, [], 15, 0), (152, .aload_n 0, 1, [], 0, 0), (153, .iconst 0, 1, [], 0, 0), (154, .putfield 67, 3, [], 16, 0), (157, .return_, 1, [], 0, 0)])
def d_4 : MD := (⟨"RoomPlanner", "clampRooms", "(I)I"⟩, prog_1_method_18_code, 2, some .int, 2, 1, 0, 0, 0, [(0, .iload_n 1, 1, [], 0, 0), (1, .ifCond .ge 5, 3, [], 0, 0), (4, .iconst 0, 1, [], 0, 0), (5, .ireturn, 1, [], 0, 0), (6, .iload_n 1, 1, [], 0, 0), (7, .bipush 8, 2, [], 0, 0), (9, .if_icmp .le 6, 3, [], 0, 0), (12, .bipush 8, 2, [], 0, 0), (14, .ireturn, 1, [], 0, 0), (15, .iload_n 1, 1, [], 0, 0), (16, .ireturn, 1, [], 0, 0)])
def d_5 : MD := (⟨"RoomPlanner", "computeRoomTables", "()V"⟩, prog_1_method_19_code, 4, none, 2, 0, 0, 0, 0, [(0, .aload_n 0, 1, [], 0, 0), (1, .getfield 7, 3, [], 0, 0), (4, .iconst 0, 1, [], 0, 0), (5, .iaload, 1, [], 0, 0), (6, .istore_n 1, 1, [], 0, 0), (7, .aload_n 0, 1, [], 0, 0), (8, .getfield 7, 3, [], 0, 0), (11, .iconst 1, 1, [], 0, 0), (12, .iaload, 1, [], 0, 0), (13, .istore_n 2, 1, [], 0, 0), (14, .aload_n 0, 1, [], 0, 0), (15, .getfield 7, 3, [], 0, 0), (18, .iconst 2, 1, [], 0, 0), (19, .iaload, 1, [], 0, 0), (20, .istore_n 3, 1, [], 0, 0), (21, .aload_n 0, 1, [], 0, 0), (22, .getfield 13, 3, [], 1, 0), (25, .iconst 2, 1, [], 0, 0), (26, .iload_n 3, 1, [], 0, 0), (27, .iastore, 1, [], 0, 0), (28, .aload_n 0, 1, [], 0, 0), (29, .getfield 13, 3, [], 1, 0), (32, .iconst 1, 1, [], 0, 0), (33, .iload_n 2, 1, [], 0, 0), (34, .iload_n 3, 1, [], 0, 0), (35, .iadd, 1, [], 0, 0), (36, .iastore, 1, [], 0, 0), (37, .aload_n 0, 1, [], 0, 0), (38, .getfield 13, 3, [], 1, 0), (41, .iconst 0, 1, [], 0, 0), (42, .iload_n 1, 1, [], 0, 0), (43, .iload_n 2, 1, [], 0, 0), (44, .iadd, 1, [], 0, 0), (45, .iload_n 3, 1, [], 0, 0), (46, .iadd, 1, [], 0, 0), (47, .iastore, 1, [], 0, 0), (48, .aload_n 0, 1, [], 0, 0), (49, .getfield 16, 3, [], 2, 0), (52, .iconst 0, 1, [], 0, 0), (53, .iconst 0, 1, [], 0, 0), (54, .iastore, 1, [], 0, 0), (55, .aload_n 0, 1, [], 0, 0), (56, .getfield 16, 3, [], 2, 0), (59, .iconst 1, 1, [], 0, 0), (60, .iload_n 1, 1, [], 0, 0), (61, .iastore, 1, [], 0, 0), (62, .aload_n 0, 1, [], 0, 0), (63, .getfield 16, 3, [], 2, 0), (66, .iconst 2, 1, [], 0, 0), (67, .iload_n 1, 1, [], 0, 0), (68, .iload_n 2, 1, [], 0, 0), (69, .iadd, 1, [], 0, 0), (70, .iastore, 1, [], 0, 0), (71, .aload_n 0, 1, [], 0, 0), (72, .iload_n 1, 1, [], 0, 0), (73, .iload_n 2, 1, [], 0, 0), (74, .iadd, 1, [], 0, 0), (75, .iload_n 3, 1, [], 0, 0), (76, .iadd, 1, [], 0, 0), (77, .putfield 142, 3, [], 12, 0), (80, .return_, 1, [], 0, 0)])
def d_6 : MD := (⟨"RoomPlanner", "resetStays", "()V"⟩, prog_1_method_28_code, 2, none, 2, 0, 0, 0, 0, [(0, .iconst 0, 1, [], 0, 0), (1, .istore_n 1, 1, [], 0, 0), (2, .iload_n 1, 1, [], 0, 0), (3, .bipush 32, 2, [], 0, 0), (5, .if_icmp .ge 37, 3, [], 0, 0), (8, .aload_n 0, 1, [], 0, 0), (9, .getfield 19, 3, [], 3, 0), (12, .iload_n 1, 1, [], 0, 0), (13, .iconst 0, 1, [], 0, 0), (14, .bastore, 1, [], 0, 0), (15, .aload_n 0, 1, [], 0, 0), (16, .getfield 23, 3, [], 4, 0), (19, .iload_n 1, 1, [], 0, 0), (20, .iconst 0, 1, [], 0, 0), (21, .iastore, 1, [], 0, 0), (22, .aload_n 0, 1, [], 0, 0), (23, .getfield 26, 3, [], 5, 0), (26, .iload_n 1, 1, [], 0, 0), (27, .iconst 0, 1, [], 0, 0), (28, .iastore, 1, [], 0, 0), (29, .aload_n 0, 1, [], 0, 0), (30, .getfield 29, 3, [], 6, 0), (33, .iload_n 1, 1, [], 0, 0), (34, .iconst 0, 1, [], 0, 0), (35, .iastore, 1, [], 0, 0), (36, .iinc 1 1, 3, [], 0, 0), (39, .goto (-37), 3, [], 0, 0), (42, .aload_n 0, 1, [], 0, 0), (43, .iconst 0, 1, [], 0, 0), (44, .putfield 75, 3, [], 13, 0), (47, .return_, 1, [], 0, 0)])
def d_7 : MD := (⟨"RoomPlanner", "resetCounts", "()V"⟩, prog_1_method_35_code, 2, none, 2, 0, 0, 0, 0, [(0, .iconst 0, 1, [], 0, 0), (1, .istore_n 1, 1, [], 0, 0), (2, .iload_n 1, 1, [], 0, 0), (3, .bipush 96, 2, [], 0, 0), (5, .if_icmp .ge 23, 3, [], 0, 0), (8, .aload_n 0, 1, [], 0, 0), (9, .getfield 32, 3, [], 7, 0), (12, .iload_n 1, 1, [], 0, 0), (13, .iconst 0, 1, [], 0, 0), (14, .iastore, 1, [], 0, 0), (15, .aload_n 0, 1, [], 0, 0), (16, .getfield 35, 3, [], 8, 0), (19, .iload_n 1, 1, [], 0, 0), (20, .iconst 0, 1, [], 0, 0), (21, .iastore, 1, [], 0, 0), (22, .iinc 1 1, 3, [], 0, 0), (25, .goto (-23), 3, [], 0, 0), (28, .return_, 1, [], 0, 0)])
def d_8 : MD := (⟨"RoomPlanner", "clearPlan", "()V"⟩, prog_1_method_47_code, 2, none, 2, 0, 0, 0, 0, [(0, .iconst 0, 1, [], 0, 0), (1, .istore_n 1, 1, [], 0, 0), (2, .iload_n 1, 1, [], 0, 0), (3, .bipush 32, 2, [], 0, 0), (5, .if_icmp .ge 23, 3, [], 0, 0), (8, .aload_n 0, 1, [], 0, 0), (9, .getfield 38, 3, [], 9, 0), (12, .iload_n 1, 1, [], 0, 0), (13, .iconst (-1), 1, [], 0, 0), (14, .iastore, 1, [], 0, 0), (15, .aload_n 0, 1, [], 0, 0), (16, .getfield 44, 3, [], 11, 0), (19, .iload_n 1, 1, [], 0, 0), (20, .iconst 0, 1, [], 0, 0), (21, .iastore, 1, [], 0, 0), (22, .iinc 1 1, 3, [], 0, 0), (25, .goto (-23), 3, [], 0, 0), (28, .iconst 0, 1, [], 0, 0), (29, .istore_n 1, 1, [], 0, 0), (30, .iload_n 1, 1, [], 0, 0), (31, .sipush 768, 3, [], 0, 0), (34, .if_icmp .ge 16, 3, [], 0, 0), (37, .aload_n 0, 1, [], 0, 0), (38, .getfield 41, 3, [], 10, 0), (41, .iload_n 1, 1, [], 0, 0), (42, .iconst (-1), 1, [], 0, 0), (43, .iastore, 1, [], 0, 0), (44, .iinc 1 1, 3, [], 0, 0), (47, .goto (-17), 3, [], 0, 0), (50, .aload_n 0, 1, [], 0, 0), (51, .iconst 0, 1, [], 0, 0), (52, .putfield 127, 3, [], 14, 0), (55, .return_, 1, [], 0, 0)])
def d_9 : MD := (⟨"RoomPlannerOwnLaw", "valid", "(III)Z"⟩, method_5_code, 3, some .boolean, 0, 3, 999, 0, 0, [(0, .iload_n 0, 1, [], 0, 0), (1, .ifCond .lt 35, 3, [], 0, 0), (4, .iload_n 0, 1, [], 0, 0), (5, .iconst 2, 1, [], 0, 0), (6, .if_icmp .gt 30, 3, [], 0, 0), (9, .iload_n 1, 1, [], 0, 0), (10, .ifCond .lt 26, 3, [], 0, 0), (13, .iload_n 1, 1, [], 0, 0), (14, .bipush 31, 2, [], 0, 0), (16, .if_icmp .gt 20, 3, [], 0, 0), (19, .iload_n 2, 1, [], 0, 0), (20, .iconst 1, 1, [], 0, 0), (21, .if_icmp .lt 15, 3, [], 0, 0), (24, .iload_n 2, 1, [], 0, 0), (25, .bipush 32, 2, [], 0, 0), (27, .iload_n 1, 1, [], 0, 0), (28, .isub, 1, [], 0, 0), (29, .if_icmp .gt 7, 3, [], 0, 0), (32, .iconst 1, 1, [], 0, 0), (33, .goto 4, 3, [], 0, 0), (36, .iconst 0, 1, [], 0, 0), (37, .ireturn, 1, [], 0, 0)])
def d_10 : MD := (⟨"RoomPlanner", "stayType", "(I)I"⟩, prog_1_method_9_code, 2, some .int, 3, 1, 0, 1, 13, [(0, .aload_n 0, 1, [], 0, 0), (1, .iload_n 1, 1, [], 0, 0), (2, .invokevirtual 93, 3, [], 11, 0), (5, .ifCond .ne 5, 3, [], 0, 0), (8, .iconst (-1), 1, [], 0, 0), (9, .ireturn, 1, [], 0, 0), (10, .aload_n 0, 1, [], 0, 0), (11, .getfield 23, 3, [], 4, 0), (14, .iload_n 1, 1, [], 0, 0), (15, .iaload, 1, [], 0, 0), (16, .ireturn, 1, [], 0, 0)])
def d_11 : MD := (⟨"RoomPlanner", "isActiveStay", "(I)Z"⟩, prog_1_method_26_code, 2, some .boolean, 2, 1, 0, 0, 0, [(0, .iload_n 1, 1, [], 0, 0), (1, .ifCond .lt 9, 3, [], 0, 0), (4, .iload_n 1, 1, [], 0, 0), (5, .bipush 32, 2, [], 0, 0), (7, .if_icmp .lt 5, 3, [], 0, 0), (10, .iconst 0, 1, [], 0, 0), (11, .ireturn, 1, [], 0, 0), (12, .aload_n 0, 1, [], 0, 0), (13, .getfield 19, 3, [], 3, 0), (16, .iload_n 1, 1, [], 0, 0), (17, .baload, 1, [], 0, 0), (18, .ireturn, 1, [], 0, 0)])
def d_12 : MD := (⟨"RoomPlannerOwnLaw", "covers", "(III)Z"⟩, method_4_code, 3, some .boolean, 0, 3, 999, 0, 0, [(0, .iload_n 2, 1, [], 0, 0), (1, .iload_n 0, 1, [], 0, 0), (2, .if_icmp .lt 14, 3, [], 0, 0), (5, .iload_n 2, 1, [], 0, 0), (6, .iload_n 0, 1, [], 0, 0), (7, .iload_n 1, 1, [], 0, 0), (8, .iadd, 1, [], 0, 0), (9, .if_icmp .ge 7, 3, [], 0, 0), (12, .iconst 1, 1, [], 0, 0), (13, .goto 4, 3, [], 0, 0), (16, .iconst 0, 1, [], 0, 0), (17, .ireturn, 1, [], 0, 0)])
def d_13 : MD := (⟨"RoomPlanner", "book", "(III)I"⟩, prog_1_method_2_code, 6, some .int, 3, 3, 0, 5, 80, [(0, .aload_n 0, 1, [], 0, 0), (1, .iload_n 1, 1, [], 0, 0), (2, .iload_n 2, 1, [], 0, 0), (3, .iload_n 3, 1, [], 0, 0), (4, .invokevirtual 71, 3, [], 14, 0), (7, .istore 4, 2, [], 0, 0), (9, .iload 4, 2, [], 0, 0), (11, .ifCond .eq 6, 3, [], 0, 0), (14, .iload 4, 2, [], 0, 0), (16, .ireturn, 1, [], 0, 0), (17, .aload_n 0, 1, [], 0, 0), (18, .getfield 75, 3, [], 13, 0), (21, .bipush 32, 2, [], 0, 0), (23, .if_icmp .lt 6, 3, [], 0, 0), (26, .bipush (-3), 2, [], 0, 0), (28, .ireturn, 1, [], 0, 0), (29, .aload_n 0, 1, [], 0, 0), (30, .iconst (-1), 1, [], 0, 0), (31, .iload_n 1, 1, [], 0, 0), (32, .iload_n 2, 1, [], 0, 0), (33, .iload_n 3, 1, [], 0, 0), (34, .invokevirtual 78, 3, [], 18, 0), (37, .ifCond .ne 6, 3, [], 0, 0), (40, .bipush (-4), 2, [], 0, 0), (42, .ireturn, 1, [], 0, 0), (43, .aload_n 0, 1, [], 0, 0), (44, .invokevirtual 82, 3, [], 24, 0), (47, .istore 5, 2, [], 0, 0), (49, .iload 5, 2, [], 0, 0), (51, .ifCond .ge 6, 3, [], 0, 0), (54, .bipush (-3), 2, [], 0, 0), (56, .ireturn, 1, [], 0, 0), (57, .aload_n 0, 1, [], 0, 0), (58, .iload 5, 2, [], 0, 0), (60, .iload_n 1, 1, [], 0, 0), (61, .iload_n 2, 1, [], 0, 0), (62, .iload_n 3, 1, [], 0, 0), (63, .invokevirtual 86, 3, [], 25, 0), (66, .aload_n 0, 1, [], 0, 0), (67, .invokevirtual 90, 3, [], 28, 0), (70, .iload 5, 2, [], 0, 0), (72, .ireturn, 1, [], 0, 0)])
def d_14 : MD := (⟨"RoomPlanner", "requestError", "(III)I"⟩, prog_1_method_27_code, 4, some .int, 2, 3, 0, 1, 14, [(0, .aload_n 0, 1, [], 0, 0), (1, .iload_n 1, 1, [], 0, 0), (2, .invokevirtual 108, 3, [], 15, 0), (5, .ifCond .ne 5, 3, [], 0, 0), (8, .iconst (-1), 1, [], 0, 0), (9, .ireturn, 1, [], 0, 0), (10, .aload_n 0, 1, [], 0, 0), (11, .iload_n 2, 1, [], 0, 0), (12, .invokevirtual 111, 3, [], 16, 0), (15, .ifCond .ne 6, 3, [], 0, 0), (18, .bipush (-2), 2, [], 0, 0), (20, .ireturn, 1, [], 0, 0), (21, .aload_n 0, 1, [], 0, 0), (22, .iload_n 2, 1, [], 0, 0), (23, .iload_n 3, 1, [], 0, 0), (24, .invokevirtual 145, 3, [], 17, 0), (27, .ifCond .ne 6, 3, [], 0, 0), (30, .bipush (-2), 2, [], 0, 0), (32, .ireturn, 1, [], 0, 0), (33, .iconst 0, 1, [], 0, 0), (34, .ireturn, 1, [], 0, 0)])
def d_15 : MD := (⟨"RoomPlanner", "isValidType", "(I)Z"⟩, prog_1_method_23_code, 2, some .boolean, 2, 1, 0, 0, 0, [(0, .iload_n 1, 1, [], 0, 0), (1, .ifCond .lt 12, 3, [], 0, 0), (4, .iload_n 1, 1, [], 0, 0), (5, .iconst 3, 1, [], 0, 0), (6, .if_icmp .ge 7, 3, [], 0, 0), (9, .iconst 1, 1, [], 0, 0), (10, .goto 4, 3, [], 0, 0), (13, .iconst 0, 1, [], 0, 0), (14, .ireturn, 1, [], 0, 0)])
def d_16 : MD := (⟨"RoomPlanner", "isValidNight", "(I)Z"⟩, prog_1_method_24_code, 2, some .boolean, 2, 1, 0, 0, 0, [(0, .iload_n 1, 1, [], 0, 0), (1, .ifCond .lt 13, 3, [], 0, 0), (4, .iload_n 1, 1, [], 0, 0), (5, .bipush 32, 2, [], 0, 0), (7, .if_icmp .ge 7, 3, [], 0, 0), (10, .iconst 1, 1, [], 0, 0), (11, .goto 4, 3, [], 0, 0), (14, .iconst 0, 1, [], 0, 0), (15, .ireturn, 1, [], 0, 0)])
def d_17 : MD := (⟨"RoomPlanner", "isValidLength", "(II)Z"⟩, prog_1_method_25_code, 3, some .boolean, 2, 2, 0, 0, 0, [(0, .iload_n 2, 1, [], 0, 0), (1, .iconst 1, 1, [], 0, 0), (2, .if_icmp .ge 5, 3, [], 0, 0), (5, .iconst 0, 1, [], 0, 0), (6, .ireturn, 1, [], 0, 0), (7, .iload_n 2, 1, [], 0, 0), (8, .bipush 32, 2, [], 0, 0), (10, .iload_n 1, 1, [], 0, 0), (11, .isub, 1, [], 0, 0), (12, .if_icmp .gt 7, 3, [], 0, 0), (15, .iconst 1, 1, [], 0, 0), (16, .goto 4, 3, [], 0, 0), (19, .iconst 0, 1, [], 0, 0), (20, .ireturn, 1, [], 0, 0)])
def d_18 : MD := (⟨"RoomPlanner", "fitsWith", "(IIII)Z"⟩, prog_1_method_44_code, 7, some .boolean, 2, 4, 0, 4, 62, [(0, .aload_n 0, 1, [], 0, 0), (1, .iload_n 3, 1, [], 0, 0), (2, .iload 4, 2, [], 0, 0), (4, .invokevirtual 152, 3, [], 19, 0), (7, .istore 5, 2, [], 0, 0), (9, .iload_n 3, 1, [], 0, 0), (10, .istore 6, 2, [], 0, 0), (12, .iload 6, 2, [false, false, false, true, true], 0, 0), (14, .ifCond .lt 29, 3, [], 0, 0), (17, .iload 6, 2, [], 0, 0), (19, .iload 5, 2, [], 0, 0), (21, .if_icmp .ge 22, 3, [], 0, 0), (24, .aload_n 0, 1, [], 0, 0), (25, .iload_n 1, 1, [], 0, 0), (26, .iload_n 2, 1, [], 0, 0), (27, .iload 6, 2, [], 0, 0), (29, .invokevirtual 170, 3, [], 20, 0), (32, .ifCond .ne 5, 3, [], 0, 0), (35, .iconst 0, 1, [], 0, 0), (36, .ireturn, 1, [], 0, 0), (37, .iinc 6 1, 3, [], 0, 0), (40, .goto (-28), 3, [], 0, 0), (43, .iconst 1, 1, [], 0, 0), (44, .ireturn, 1, [], 0, 0)])
def d_19 : MD := (⟨"RoomPlanner", "endOf", "(II)I"⟩, prog_1_method_34_code, 4, some .int, 2, 2, 0, 0, 0, [(0, .iload_n 1, 1, [], 0, 0), (1, .iload_n 2, 1, [], 0, 0), (2, .iadd, 1, [], 0, 0), (3, .istore_n 3, 1, [], 0, 0), (4, .iload_n 3, 1, [], 0, 0), (5, .bipush 32, 2, [], 0, 0), (7, .if_icmp .le 6, 3, [], 0, 0), (10, .bipush 32, 2, [], 0, 0), (12, .ireturn, 1, [], 0, 0), (13, .iload_n 3, 1, [], 0, 0), (14, .ireturn, 1, [], 0, 0)])
def d_20 : MD := (⟨"RoomPlanner", "nightFits", "(III)Z"⟩, prog_1_method_43_code, 8, some .boolean, 2, 3, 0, 3, 43, [(0, .iconst 0, 1, [], 0, 0), (1, .istore 4, 2, [], 0, 0), (3, .iload 4, 2, [false, false, false, false, false, true, true, true], 0, 0), (5, .iload_n 2, 1, [], 0, 0), (6, .if_icmp .gt 57, 3, [], 0, 0), (9, .iload 4, 2, [], 0, 0), (11, .iconst 3, 1, [], 0, 0), (12, .if_icmp .ge 51, 3, [], 0, 0), (15, .aload_n 0, 1, [], 0, 0), (16, .iload 4, 2, [], 0, 0), (18, .iload_n 3, 1, [], 0, 0), (19, .invokevirtual 158, 3, [], 21, 0), (22, .istore 5, 2, [], 0, 0), (24, .aload_n 0, 1, [], 0, 0), (25, .iload_n 1, 1, [], 0, 0), (26, .iload 4, 2, [], 0, 0), (28, .iload_n 3, 1, [], 0, 0), (29, .invokevirtual 167, 3, [], 23, 0), (32, .istore 6, 2, [], 0, 0), (34, .iload 5, 2, [], 0, 0), (36, .iload 6, 2, [], 0, 0), (38, .isub, 1, [], 0, 0), (39, .iconst 1, 1, [], 0, 0), (40, .iadd, 1, [], 0, 0), (41, .istore 7, 2, [], 0, 0), (43, .iload 7, 2, [], 0, 0), (45, .aload_n 0, 1, [], 0, 0), (46, .getfield 13, 3, [], 1, 0), (49, .iload 4, 2, [], 0, 0), (51, .iaload, 1, [], 0, 0), (52, .if_icmp .le 5, 3, [], 0, 0), (55, .iconst 0, 1, [], 0, 0), (56, .ireturn, 1, [], 0, 0), (57, .iinc 4 1, 3, [], 0, 0), (60, .goto (-57), 3, [], 0, 0), (63, .iconst 1, 1, [], 0, 0), (64, .ireturn, 1, [], 0, 0)])
def d_21 : MD := (⟨"RoomPlanner", "atLeastAt", "(II)I"⟩, prog_1_method_38_code, 3, some .int, 2, 2, 0, 1, 15, [(0, .aload_n 0, 1, [], 0, 0), (1, .iload_n 1, 1, [], 0, 0), (2, .invokevirtual 108, 3, [], 15, 0), (5, .ifCond .eq 11, 3, [], 0, 0), (8, .aload_n 0, 1, [], 0, 0), (9, .iload_n 2, 1, [], 0, 0), (10, .invokevirtual 111, 3, [], 16, 0), (13, .ifCond .ne 5, 3, [], 0, 0), (16, .iconst 0, 1, [], 0, 0), (17, .ireturn, 1, [], 0, 0), (18, .aload_n 0, 1, [], 0, 0), (19, .getfield 35, 3, [], 8, 0), (22, .aload_n 0, 1, [], 0, 0), (23, .iload_n 1, 1, [], 0, 0), (24, .iload_n 2, 1, [], 0, 0), (25, .invokevirtual 149, 3, [], 22, 0), (28, .iaload, 1, [], 0, 0), (29, .ireturn, 1, [], 0, 0)])
def d_22 : MD := (⟨"RoomPlanner", "countIndex", "(II)I"⟩, prog_1_method_36_code, 3, some .int, 2, 2, 0, 0, 0, [(0, .iload_n 1, 1, [], 0, 0), (1, .bipush 32, 2, [], 0, 0), (3, .imul, 1, [], 0, 0), (4, .iload_n 2, 1, [], 0, 0), (5, .iadd, 1, [], 0, 0), (6, .ireturn, 1, [], 0, 0)])
def d_23 : MD := (⟨"RoomPlanner", "exclusion", "(III)I"⟩, prog_1_method_42_code, 4, some .int, 2, 3, 0, 2, 28, [(0, .aload_n 0, 1, [], 0, 0), (1, .iload_n 1, 1, [], 0, 0), (2, .invokevirtual 93, 3, [], 11, 0), (5, .ifCond .ne 5, 3, [], 0, 0), (8, .iconst 0, 1, [], 0, 0), (9, .ireturn, 1, [], 0, 0), (10, .aload_n 0, 1, [], 0, 0), (11, .getfield 23, 3, [], 4, 0), (14, .iload_n 1, 1, [], 0, 0), (15, .iaload, 1, [], 0, 0), (16, .iload_n 2, 1, [], 0, 0), (17, .if_icmp .ge 5, 3, [], 0, 0), (20, .iconst 0, 1, [], 0, 0), (21, .ireturn, 1, [], 0, 0), (22, .aload_n 0, 1, [], 0, 0), (23, .iload_n 1, 1, [], 0, 0), (24, .iload_n 3, 1, [], 0, 0), (25, .invokevirtual 164, 3, [], 49, 0), (28, .ifCond .eq 5, 3, [], 0, 0), (31, .iconst 1, 1, [], 0, 0), (32, .ireturn, 1, [], 0, 0), (33, .iconst 0, 1, [], 0, 0), (34, .ireturn, 1, [], 0, 0)])
def d_24 : MD := (⟨"RoomPlanner", "lowestInactiveSlot", "()I"⟩, prog_1_method_29_code, 2, some .int, 2, 0, 0, 0, 0, [(0, .iconst 0, 1, [], 0, 0), (1, .istore_n 1, 1, [], 0, 0), (2, .iload_n 1, 1, [], 0, 0), (3, .bipush 32, 2, [], 0, 0), (5, .if_icmp .ge 20, 3, [], 0, 0), (8, .aload_n 0, 1, [], 0, 0), (9, .getfield 19, 3, [], 3, 0), (12, .iload_n 1, 1, [], 0, 0), (13, .baload, 1, [], 0, 0), (14, .ifCond .ne 5, 3, [], 0, 0), (17, .iload_n 1, 1, [], 0, 0), (18, .ireturn, 1, [], 0, 0), (19, .iinc 1 1, 3, [], 0, 0), (22, .goto (-20), 3, [], 0, 0), (25, .iconst (-1), 1, [], 0, 0), (26, .ireturn, 1, [], 0, 0)])
def d_25 : MD := (⟨"RoomPlanner", "activateStay", "(IIII)V"⟩, prog_1_method_31_code, 5, none, 2, 4, 0, 2, 34, [(0, .aload_n 0, 1, [], 0, 0), (1, .iload_n 1, 1, [], 0, 0), (2, .iload_n 2, 1, [], 0, 0), (3, .iload_n 3, 1, [], 0, 0), (4, .iload 4, 2, [], 0, 0), (6, .invokevirtual 101, 3, [], 26, 0), (9, .aload_n 0, 1, [], 0, 0), (10, .getfield 19, 3, [], 3, 0), (13, .iload_n 1, 1, [], 0, 0), (14, .iconst 1, 1, [], 0, 0), (15, .bastore, 1, [], 0, 0), (16, .aload_n 0, 1, [], 0, 0), (17, .dup, 1, [], 0, 0), (18, .getfield 75, 3, [], 13, 0), (21, .iconst 1, 1, [], 0, 0), (22, .iadd, 1, [], 0, 0), (23, .putfield 75, 3, [], 13, 0), (26, .aload_n 0, 1, [], 0, 0), (27, .iload_n 1, 1, [], 0, 0), (28, .iconst 1, 1, [], 0, 0), (29, .invokevirtual 97, 3, [], 27, 0), (32, .return_, 1, [], 0, 0)])
def d_26 : MD := (⟨"RoomPlanner", "storeStay", "(IIII)V"⟩, prog_1_method_30_code, 5, none, 2, 4, 0, 0, 0, [(0, .aload_n 0, 1, [], 0, 0), (1, .getfield 23, 3, [], 4, 0), (4, .iload_n 1, 1, [], 0, 0), (5, .iload_n 2, 1, [], 0, 0), (6, .iastore, 1, [], 0, 0), (7, .aload_n 0, 1, [], 0, 0), (8, .getfield 26, 3, [], 5, 0), (11, .iload_n 1, 1, [], 0, 0), (12, .iload_n 3, 1, [], 0, 0), (13, .iastore, 1, [], 0, 0), (14, .aload_n 0, 1, [], 0, 0), (15, .getfield 29, 3, [], 6, 0), (18, .iload_n 1, 1, [], 0, 0), (19, .iload 4, 2, [], 0, 0), (21, .iastore, 1, [], 0, 0), (22, .return_, 1, [], 0, 0)])
def d_27 : MD := (⟨"RoomPlanner", "adjustCoverage", "(II)V"⟩, prog_1_method_39_code, 8, none, 2, 2, 0, 1, 15, [(0, .iload_n 1, 1, [], 0, 0), (1, .ifCond .lt 9, 3, [], 0, 0), (4, .iload_n 1, 1, [], 0, 0), (5, .bipush 32, 2, [], 0, 0), (7, .if_icmp .lt 4, 3, [], 0, 0), (10, .return_, 1, [], 0, 0), (11, .aload_n 0, 1, [], 0, 0), (12, .getfield 23, 3, [], 4, 0), (15, .iload_n 1, 1, [], 0, 0), (16, .iaload, 1, [], 0, 0), (17, .istore_n 3, 1, [], 0, 0), (18, .aload_n 0, 1, [], 0, 0), (19, .iload_n 3, 1, [], 0, 0), (20, .invokevirtual 108, 3, [], 15, 0), (23, .ifCond .ne 4, 3, [], 0, 0), (26, .return_, 1, [], 0, 0), (27, .aload_n 0, 1, [], 0, 0), (28, .getfield 26, 3, [], 5, 0), (31, .iload_n 1, 1, [], 0, 0), (32, .iaload, 1, [], 0, 0), (33, .istore 4, 2, [], 0, 0), (35, .aload_n 0, 1, [], 0, 0), (36, .iload 4, 2, [], 0, 0), (38, .aload_n 0, 1, [], 0, 0), (39, .getfield 29, 3, [], 6, 0), (42, .iload_n 1, 1, [], 0, 0), (43, .iaload, 1, [], 0, 0), (44, .invokevirtual 152, 3, [], 19, 0), (47, .istore 5, 2, [], 0, 0), (49, .iload 4, 2, [], 0, 0), (51, .istore 6, 2, [], 0, 0), (53, .iload 6, 2, [false, true, false, false, true, false, false, true], 0, 0), (55, .ifCond .lt 64, 3, [], 0, 0), (58, .iload 6, 2, [], 0, 0), (60, .iload 5, 2, [], 0, 0), (62, .if_icmp .ge 57, 3, [], 0, 0), (65, .aload_n 0, 1, [], 0, 0), (66, .getfield 32, 3, [], 7, 0), (69, .aload_n 0, 1, [], 0, 0), (70, .iload_n 3, 1, [], 0, 0), (71, .iload 6, 2, [], 0, 0), (73, .invokevirtual 149, 3, [], 22, 0), (76, .dup2, 1, [], 0, 0), (77, .iaload, 1, [], 0, 0), (78, .iload_n 2, 1, [], 0, 0), (79, .iadd, 1, [], 0, 0), (80, .iastore, 1, [], 0, 0), (81, .iconst 0, 1, [], 0, 0), (82, .istore 7, 2, [], 0, 0), (84, .iload 7, 2, [false, true, false, false, true], 0, 0), (86, .iload_n 3, 1, [], 0, 0), (87, .if_icmp .gt 26, 3, [], 0, 0), (90, .aload_n 0, 1, [], 0, 0), (91, .getfield 35, 3, [], 8, 0), (94, .aload_n 0, 1, [], 0, 0), (95, .iload 7, 2, [], 0, 0), (97, .iload 6, 2, [], 0, 0), (99, .invokevirtual 149, 3, [], 22, 0), (102, .dup2, 1, [], 0, 0), (103, .iaload, 1, [], 0, 0), (104, .iload_n 2, 1, [], 0, 0), (105, .iadd, 1, [], 0, 0), (106, .iastore, 1, [], 0, 0), (107, .iinc 7 1, 3, [], 0, 0), (110, .goto (-26), 3, [], 0, 0), (113, .iinc 6 1, 3, [], 0, 0), (116, .goto (-63), 3, [], 0, 0), (119, .return_, 1, [], 0, 0)])
def d_28 : MD := (⟨"RoomPlanner", "discardPlan", "()V"⟩, prog_1_method_46_code, 1, none, 2, 0, 0, 0, 0, [(0, .aload_n 0, 1, [], 0, 0), (1, .iconst 0, 1, [], 0, 0), (2, .putfield 63, 3, [], 15, 0), (5, .return_, 1, [], 0, 0)])
def d_29 : MD := (⟨"RoomPlanner", "stayArrive", "(I)I"⟩, prog_1_method_10_code, 2, some .int, 3, 1, 0, 1, 13, [(0, .aload_n 0, 1, [], 0, 0), (1, .iload_n 1, 1, [], 0, 0), (2, .invokevirtual 93, 3, [], 11, 0), (5, .ifCond .ne 5, 3, [], 0, 0), (8, .iconst (-1), 1, [], 0, 0), (9, .ireturn, 1, [], 0, 0), (10, .aload_n 0, 1, [], 0, 0), (11, .getfield 26, 3, [], 5, 0), (14, .iload_n 1, 1, [], 0, 0), (15, .iaload, 1, [], 0, 0), (16, .ireturn, 1, [], 0, 0)])
def d_30 : MD := (⟨"RoomPlanner", "stayNights", "(I)I"⟩, prog_1_method_11_code, 2, some .int, 3, 1, 0, 1, 13, [(0, .aload_n 0, 1, [], 0, 0), (1, .iload_n 1, 1, [], 0, 0), (2, .invokevirtual 93, 3, [], 11, 0), (5, .ifCond .ne 5, 3, [], 0, 0), (8, .iconst (-1), 1, [], 0, 0), (9, .ireturn, 1, [], 0, 0), (10, .aload_n 0, 1, [], 0, 0), (11, .getfield 29, 3, [], 6, 0), (14, .iload_n 1, 1, [], 0, 0), (15, .iaload, 1, [], 0, 0), (16, .ireturn, 1, [], 0, 0)])
def d_31 : MD := (⟨"RoomPlanner", "isAssigned", "()Z"⟩, prog_1_method_14_code, 1, some .boolean, 3, 0, 0, 0, 0, [(0, .aload_n 0, 1, [], 0, 0), (1, .getfield 63, 3, [], 15, 0), (4, .ireturn, 1, [], 0, 0)])
def d_32 : MD := (⟨"RoomPlanner", "cancel", "(I)I"⟩, prog_1_method_4_code, 2, some .int, 3, 1, 0, 3, 47, [(0, .aload_n 0, 1, [], 0, 0), (1, .iload_n 1, 1, [], 0, 0), (2, .invokevirtual 93, 3, [], 11, 0), (5, .ifCond .ne 6, 3, [], 0, 0), (8, .bipush (-5), 2, [], 0, 0), (10, .ireturn, 1, [], 0, 0), (11, .aload_n 0, 1, [], 0, 0), (12, .iload_n 1, 1, [], 0, 0), (13, .invokevirtual 104, 3, [], 33, 0), (16, .aload_n 0, 1, [], 0, 0), (17, .invokevirtual 90, 3, [], 28, 0), (20, .iconst 0, 1, [], 0, 0), (21, .ireturn, 1, [], 0, 0)])
def d_33 : MD := (⟨"RoomPlanner", "deactivateStay", "(I)V"⟩, prog_1_method_32_code, 2, none, 2, 1, 0, 2, 34, [(0, .aload_n 0, 1, [], 0, 0), (1, .iload_n 1, 1, [], 0, 0), (2, .iconst (-1), 1, [], 0, 0), (3, .invokevirtual 97, 3, [], 27, 0), (6, .aload_n 0, 1, [], 0, 0), (7, .getfield 19, 3, [], 3, 0), (10, .iload_n 1, 1, [], 0, 0), (11, .iconst 0, 1, [], 0, 0), (12, .bastore, 1, [], 0, 0), (13, .aload_n 0, 1, [], 0, 0), (14, .iload_n 1, 1, [], 0, 0), (15, .iconst 0, 1, [], 0, 0), (16, .iconst 0, 1, [], 0, 0), (17, .iconst 0, 1, [], 0, 0), (18, .invokevirtual 101, 3, [], 26, 0), (21, .aload_n 0, 1, [], 0, 0), (22, .dup, 1, [], 0, 0), (23, .getfield 75, 3, [], 13, 0), (26, .iconst 1, 1, [], 0, 0), (27, .isub, 1, [], 0, 0), (28, .putfield 75, 3, [], 13, 0), (31, .return_, 1, [], 0, 0)])
def d_34 : MD := (⟨"RoomPlanner", "assign", "()I"⟩, prog_1_method_13_code, 5, some .int, 3, 0, 0, 4, 63, [(0, .aload_n 0, 1, [], 0, 0), (1, .invokevirtual 90, 3, [], 28, 0), (4, .aload_n 0, 1, [], 0, 0), (5, .invokevirtual 60, 3, [], 8, 0), (8, .aload_n 0, 1, [], 0, 0), (9, .invokevirtual 124, 3, [], 35, 0), (12, .iconst 0, 1, [], 0, 0), (13, .istore_n 1, 1, [], 0, 0), (14, .iconst 0, 1, [], 0, 0), (15, .istore_n 2, 1, [], 0, 0), (16, .iload_n 2, 1, [false, false, false, true, true], 0, 0), (17, .aload_n 0, 1, [], 0, 0), (18, .getfield 127, 3, [], 14, 0), (21, .if_icmp .ge 37, 3, [], 0, 0), (24, .iload_n 2, 1, [], 0, 0), (25, .bipush 32, 2, [], 0, 0), (27, .if_icmp .ge 31, 3, [], 0, 0), (30, .aload_n 0, 1, [], 0, 0), (31, .getfield 44, 3, [], 11, 0), (34, .iload_n 2, 1, [], 0, 0), (35, .iaload, 1, [], 0, 0), (36, .istore_n 3, 1, [], 0, 0), (37, .aload_n 0, 1, [], 0, 0), (38, .iload_n 3, 1, [], 0, 0), (39, .invokevirtual 130, 3, [], 42, 0), (42, .istore 4, 2, [], 0, 0), (44, .iload 4, 2, [], 0, 0), (46, .ifCond .ne 6, 3, [], 0, 0), (49, .iinc 1 1, 3, [], 0, 0), (52, .iinc 2 1, 3, [], 0, 0), (55, .goto (-39), 3, [], 0, 0), (58, .aload_n 0, 1, [false, false, true, true, true], 0, 0), (59, .iload_n 1, 1, [], 0, 0), (60, .putfield 67, 3, [], 16, 0), (63, .aload_n 0, 1, [], 0, 0), (64, .iconst 1, 1, [], 0, 0), (65, .putfield 63, 3, [], 15, 0), (68, .iload_n 1, 1, [], 0, 0), (69, .ireturn, 1, [], 0, 0)])
def d_35 : MD := (⟨"RoomPlanner", "buildOrder", "()V"⟩, prog_1_method_50_code, 3, none, 2, 0, 0, 1, 13, [(0, .aload_n 0, 1, [], 0, 0), (1, .iconst 0, 1, [], 0, 0), (2, .putfield 127, 3, [], 14, 0), (5, .iconst 0, 1, [], 0, 0), (6, .istore_n 1, 1, [], 0, 0), (7, .iload_n 1, 1, [false, false, true], 0, 0), (8, .bipush 32, 2, [], 0, 0), (10, .if_icmp .ge 47, 3, [], 0, 0), (13, .iconst 0, 1, [], 0, 0), (14, .istore_n 2, 1, [], 0, 0), (15, .iload_n 2, 1, [], 0, 0), (16, .bipush 32, 2, [], 0, 0), (18, .if_icmp .ge 33, 3, [], 0, 0), (21, .aload_n 0, 1, [], 0, 0), (22, .getfield 19, 3, [], 3, 0), (25, .iload_n 2, 1, [], 0, 0), (26, .baload, 1, [], 0, 0), (27, .ifCond .eq 18, 3, [], 0, 0), (30, .aload_n 0, 1, [], 0, 0), (31, .getfield 26, 3, [], 5, 0), (34, .iload_n 2, 1, [], 0, 0), (35, .iaload, 1, [], 0, 0), (36, .iload_n 1, 1, [], 0, 0), (37, .if_icmp .ne 8, 3, [], 0, 0), (40, .aload_n 0, 1, [], 0, 0), (41, .iload_n 2, 1, [], 0, 0), (42, .invokevirtual 177, 3, [], 41, 0), (45, .iinc 2 1, 3, [], 0, 0), (48, .goto (-33), 3, [], 0, 0), (51, .iinc 1 1, 3, [], 0, 0), (54, .goto (-47), 3, [], 0, 0), (57, .return_, 1, [], 0, 0)])
def d_36 : MD := (⟨"RoomPlanner", "occupant", "(II)I"⟩, prog_1_method_16_code, 3, some .int, 3, 2, 0, 2, 29, [(0, .aload_n 0, 1, [], 0, 0), (1, .iload_n 1, 1, [], 0, 0), (2, .invokevirtual 133, 3, [], 37, 0), (5, .ifCond .ne 5, 3, [], 0, 0), (8, .iconst (-1), 1, [], 0, 0), (9, .ireturn, 1, [], 0, 0), (10, .aload_n 0, 1, [], 0, 0), (11, .iload_n 2, 1, [], 0, 0), (12, .invokevirtual 111, 3, [], 16, 0), (15, .ifCond .ne 5, 3, [], 0, 0), (18, .iconst (-1), 1, [], 0, 0), (19, .ireturn, 1, [], 0, 0), (20, .aload_n 0, 1, [], 0, 0), (21, .getfield 63, 3, [], 15, 0), (24, .ifCond .ne 5, 3, [], 0, 0), (27, .iconst (-1), 1, [], 0, 0), (28, .ireturn, 1, [], 0, 0), (29, .aload_n 0, 1, [], 0, 0), (30, .iload_n 1, 1, [], 0, 0), (31, .iload_n 2, 1, [], 0, 0), (32, .invokevirtual 136, 3, [], 38, 0), (35, .ireturn, 1, [], 0, 0)])
def d_37 : MD := (⟨"RoomPlanner", "isValidRoom", "(I)Z"⟩, prog_1_method_20_code, 2, some .boolean, 2, 1, 0, 0, 0, [(0, .iload_n 1, 1, [], 0, 0), (1, .ifCond .lt 21, 3, [], 0, 0), (4, .iload_n 1, 1, [], 0, 0), (5, .aload_n 0, 1, [], 0, 0), (6, .getfield 142, 3, [], 12, 0), (9, .if_icmp .ge 13, 3, [], 0, 0), (12, .iload_n 1, 1, [], 0, 0), (13, .bipush 24, 2, [], 0, 0), (15, .if_icmp .ge 7, 3, [], 0, 0), (18, .iconst 1, 1, [], 0, 0), (19, .goto 4, 3, [], 0, 0), (22, .iconst 0, 1, [], 0, 0), (23, .ireturn, 1, [], 0, 0)])
def d_38 : MD := (⟨"RoomPlanner", "gridAt", "(II)I"⟩, prog_1_method_49_code, 3, some .int, 2, 2, 0, 1, 15, [(0, .iload_n 1, 1, [], 0, 0), (1, .ifCond .lt 17, 3, [], 0, 0), (4, .iload_n 1, 1, [], 0, 0), (5, .bipush 24, 2, [], 0, 0), (7, .if_icmp .ge 11, 3, [], 0, 0), (10, .aload_n 0, 1, [], 0, 0), (11, .iload_n 2, 1, [], 0, 0), (12, .invokevirtual 111, 3, [], 16, 0), (15, .ifCond .ne 5, 3, [], 0, 0), (18, .iconst (-1), 1, [], 0, 0), (19, .ireturn, 1, [], 0, 0), (20, .aload_n 0, 1, [], 0, 0), (21, .getfield 41, 3, [], 10, 0), (24, .aload_n 0, 1, [], 0, 0), (25, .iload_n 1, 1, [], 0, 0), (26, .iload_n 2, 1, [], 0, 0), (27, .invokevirtual 174, 3, [], 39, 0), (30, .iaload, 1, [], 0, 0), (31, .ireturn, 1, [], 0, 0)])
def d_39 : MD := (⟨"RoomPlanner", "gridIndex", "(II)I"⟩, prog_1_method_48_code, 3, some .int, 2, 2, 0, 0, 0, [(0, .iload_n 1, 1, [], 0, 0), (1, .bipush 32, 2, [], 0, 0), (3, .imul, 1, [], 0, 0), (4, .iload_n 2, 1, [], 0, 0), (5, .iadd, 1, [], 0, 0), (6, .ireturn, 1, [], 0, 0)])
def d_40 : MD := (⟨"RoomPlanner", "amend", "(IIII)I"⟩, prog_1_method_3_code, 6, some .int, 3, 4, 0, 5, 80, [(0, .aload_n 0, 1, [], 0, 0), (1, .iload_n 1, 1, [], 0, 0), (2, .invokevirtual 93, 3, [], 11, 0), (5, .ifCond .ne 6, 3, [], 0, 0), (8, .bipush (-5), 2, [], 0, 0), (10, .ireturn, 1, [], 0, 0), (11, .aload_n 0, 1, [], 0, 0), (12, .iload_n 2, 1, [], 0, 0), (13, .iload_n 3, 1, [], 0, 0), (14, .iload 4, 2, [], 0, 0), (16, .invokevirtual 71, 3, [], 14, 0), (19, .istore 5, 2, [], 0, 0), (21, .iload 5, 2, [], 0, 0), (23, .ifCond .eq 6, 3, [], 0, 0), (26, .iload 5, 2, [], 0, 0), (28, .ireturn, 1, [], 0, 0), (29, .aload_n 0, 1, [], 0, 0), (30, .iload_n 1, 1, [], 0, 0), (31, .iload_n 2, 1, [], 0, 0), (32, .iload_n 3, 1, [], 0, 0), (33, .iload 4, 2, [], 0, 0), (35, .invokevirtual 78, 3, [], 18, 0), (38, .ifCond .ne 6, 3, [], 0, 0), (41, .bipush (-4), 2, [], 0, 0), (43, .ireturn, 1, [], 0, 0), (44, .aload_n 0, 1, [], 0, 0), (45, .iload_n 1, 1, [], 0, 0), (46, .iconst (-1), 1, [], 0, 0), (47, .invokevirtual 97, 3, [], 27, 0), (50, .aload_n 0, 1, [], 0, 0), (51, .iload_n 1, 1, [], 0, 0), (52, .iload_n 2, 1, [], 0, 0), (53, .iload_n 3, 1, [], 0, 0), (54, .iload 4, 2, [], 0, 0), (56, .invokevirtual 101, 3, [], 26, 0), (59, .aload_n 0, 1, [], 0, 0), (60, .iload_n 1, 1, [], 0, 0), (61, .iconst 1, 1, [], 0, 0), (62, .invokevirtual 97, 3, [], 27, 0), (65, .aload_n 0, 1, [], 0, 0), (66, .invokevirtual 90, 3, [], 28, 0), (69, .iconst 0, 1, [], 0, 0), (70, .ireturn, 1, [], 0, 0)])
def d_41 : MD := (⟨"RoomPlanner", "appendToOrder", "(I)V"⟩, prog_1_method_51_code, 2, none, 2, 1, 0, 0, 0, [(0, .aload_n 0, 1, [], 0, 0), (1, .getfield 127, 3, [], 14, 0), (4, .ifCond .lt 12, 3, [], 0, 0), (7, .aload_n 0, 1, [], 0, 0), (8, .getfield 127, 3, [], 14, 0), (11, .bipush 32, 2, [], 0, 0), (13, .if_icmp .lt 4, 3, [], 0, 0), (16, .return_, 1, [], 0, 0), (17, .aload_n 0, 1, [], 0, 0), (18, .getfield 44, 3, [], 11, 0), (21, .aload_n 0, 1, [], 0, 0), (22, .getfield 127, 3, [], 14, 0), (25, .iload_n 1, 1, [], 0, 0), (26, .iastore, 1, [], 0, 0), (27, .aload_n 0, 1, [], 0, 0), (28, .dup, 1, [], 0, 0), (29, .getfield 127, 3, [], 14, 0), (32, .iconst 1, 1, [], 0, 0), (33, .iadd, 1, [], 0, 0), (34, .putfield 127, 3, [], 14, 0), (37, .return_, 1, [], 0, 0)])
def d_42 : MD := (⟨"RoomPlanner", "placeStay", "(I)Z"⟩, prog_1_method_52_code, 6, some .boolean, 2, 1, 0, 3, 46, [(0, .aload_n 0, 1, [], 0, 0), (1, .iload_n 1, 1, [], 0, 0), (2, .invokevirtual 93, 3, [], 11, 0), (5, .ifCond .ne 5, 3, [], 0, 0), (8, .iconst 0, 1, [], 0, 0), (9, .ireturn, 1, [], 0, 0), (10, .aload_n 0, 1, [], 0, 0), (11, .getfield 23, 3, [], 4, 0), (14, .iload_n 1, 1, [], 0, 0), (15, .iaload, 1, [], 0, 0), (16, .istore_n 2, 1, [], 0, 0), (17, .aload_n 0, 1, [], 0, 0), (18, .iload_n 2, 1, [], 0, 0), (19, .invokevirtual 108, 3, [], 15, 0), (22, .ifCond .ne 5, 3, [], 0, 0), (25, .iconst 0, 1, [], 0, 0), (26, .ireturn, 1, [], 0, 0), (27, .aload_n 0, 1, [], 0, 0), (28, .getfield 26, 3, [], 5, 0), (31, .iload_n 1, 1, [], 0, 0), (32, .iaload, 1, [], 0, 0), (33, .istore_n 3, 1, [], 0, 0), (34, .aload_n 0, 1, [], 0, 0), (35, .getfield 29, 3, [], 6, 0), (38, .iload_n 1, 1, [], 0, 0), (39, .iaload, 1, [], 0, 0), (40, .istore 4, 2, [], 0, 0), (42, .aload_n 0, 1, [], 0, 0), (43, .getfield 16, 3, [], 2, 0), (46, .iload_n 2, 1, [], 0, 0), (47, .iaload, 1, [], 0, 0), (48, .istore 5, 2, [], 0, 0), (50, .iload 5, 2, [false, false, true], 0, 0), (52, .aload_n 0, 1, [], 0, 0), (53, .getfield 142, 3, [], 12, 0), (56, .if_icmp .ge 48, 3, [], 0, 0), (59, .iload 5, 2, [], 0, 0), (61, .bipush 24, 2, [], 0, 0), (63, .if_icmp .ge 41, 3, [], 0, 0), (66, .aload_n 0, 1, [], 0, 0), (67, .iload 5, 2, [], 0, 0), (69, .iload_n 3, 1, [], 0, 0), (70, .iload 4, 2, [], 0, 0), (72, .invokevirtual 180, 3, [], 43, 0), (75, .ifCond .eq 23, 3, [], 0, 0), (78, .aload_n 0, 1, [false, false, true], 0, 0), (79, .iload 5, 2, [], 0, 0), (81, .iload_n 1, 1, [], 0, 0), (82, .iload_n 3, 1, [], 0, 0), (83, .iload 4, 2, [], 0, 0), (85, .invokevirtual 183, 3, [], 44, 0), (88, .aload_n 0, 1, [], 0, 0), (89, .getfield 38, 3, [], 9, 0), (92, .iload_n 1, 1, [], 0, 0), (93, .iload 5, 2, [], 0, 0), (95, .iastore, 1, [], 0, 0), (96, .iconst 1, 1, [], 0, 0), (97, .ireturn, 1, [], 0, 0), (98, .iinc 5 1, 3, [], 0, 0), (101, .goto (-51), 3, [], 0, 0), (104, .iconst 0, 1, [], 0, 0), (105, .ireturn, 1, [], 0, 0)])
def d_43 : MD := (⟨"RoomPlanner", "roomIsFree", "(III)Z"⟩, prog_1_method_53_code, 6, some .boolean, 2, 3, 0, 2, 29, [(0, .aload_n 0, 1, [], 0, 0), (1, .iload_n 2, 1, [], 0, 0), (2, .iload_n 3, 1, [], 0, 0), (3, .invokevirtual 152, 3, [], 19, 0), (6, .istore 4, 2, [], 0, 0), (8, .iload_n 2, 1, [], 0, 0), (9, .istore 5, 2, [], 0, 0), (11, .iload 5, 2, [false, false, true, true], 0, 0), (13, .ifCond .lt 29, 3, [], 0, 0), (16, .iload 5, 2, [], 0, 0), (18, .iload 4, 2, [], 0, 0), (20, .if_icmp .ge 22, 3, [], 0, 0), (23, .aload_n 0, 1, [], 0, 0), (24, .iload_n 1, 1, [], 0, 0), (25, .iload 5, 2, [], 0, 0), (27, .invokevirtual 136, 3, [], 38, 0), (30, .iconst (-1), 1, [], 0, 0), (31, .if_icmp .eq 5, 3, [], 0, 0), (34, .iconst 0, 1, [], 0, 0), (35, .ireturn, 1, [], 0, 0), (36, .iinc 5 1, 3, [], 0, 0), (39, .goto (-28), 3, [], 0, 0), (42, .iconst 1, 1, [], 0, 0), (43, .ireturn, 1, [], 0, 0)])
def d_44 : MD := (⟨"RoomPlanner", "markRoom", "(IIII)V"⟩, prog_1_method_54_code, 7, none, 2, 4, 0, 1, 15, [(0, .iload_n 1, 1, [], 0, 0), (1, .ifCond .lt 9, 3, [], 0, 0), (4, .iload_n 1, 1, [], 0, 0), (5, .bipush 24, 2, [], 0, 0), (7, .if_icmp .lt 4, 3, [], 0, 0), (10, .return_, 1, [], 0, 0), (11, .aload_n 0, 1, [], 0, 0), (12, .iload_n 3, 1, [], 0, 0), (13, .iload 4, 2, [], 0, 0), (15, .invokevirtual 152, 3, [], 19, 0), (18, .istore 5, 2, [], 0, 0), (20, .iload_n 3, 1, [], 0, 0), (21, .istore 6, 2, [], 0, 0), (23, .iload 6, 2, [false, false, false, true, true], 0, 0), (25, .ifCond .lt 29, 3, [], 0, 0), (28, .iload 6, 2, [], 0, 0), (30, .iload 5, 2, [], 0, 0), (32, .if_icmp .ge 22, 3, [], 0, 0), (35, .aload_n 0, 1, [], 0, 0), (36, .getfield 41, 3, [], 10, 0), (39, .aload_n 0, 1, [], 0, 0), (40, .iload_n 1, 1, [], 0, 0), (41, .iload 6, 2, [], 0, 0), (43, .invokevirtual 174, 3, [], 39, 0), (46, .iload_n 2, 1, [], 0, 0), (47, .iastore, 1, [], 0, 0), (48, .iinc 6 1, 3, [], 0, 0), (51, .goto (-28), 3, [], 0, 0), (54, .return_, 1, [], 0, 0)])
def d_45 : MD := (⟨"RoomPlanner", "roomOf", "(I)I"⟩, prog_1_method_15_code, 2, some .int, 3, 1, 0, 1, 13, [(0, .aload_n 0, 1, [], 0, 0), (1, .iload_n 1, 1, [], 0, 0), (2, .invokevirtual 93, 3, [], 11, 0), (5, .ifCond .ne 5, 3, [], 0, 0), (8, .iconst (-1), 1, [], 0, 0), (9, .ireturn, 1, [], 0, 0), (10, .aload_n 0, 1, [], 0, 0), (11, .getfield 63, 3, [], 15, 0), (14, .ifCond .ne 5, 3, [], 0, 0), (17, .iconst (-1), 1, [], 0, 0), (18, .ireturn, 1, [], 0, 0), (19, .aload_n 0, 1, [], 0, 0), (20, .getfield 38, 3, [], 9, 0), (23, .iload_n 1, 1, [], 0, 0), (24, .iaload, 1, [], 0, 0), (25, .ireturn, 1, [], 0, 0)])
def d_46 : MD := (⟨"RoomPlanner", "roomType", "(I)I"⟩, prog_1_method_17_code, 2, some .int, 3, 1, 0, 1, 13, [(0, .aload_n 0, 1, [], 0, 0), (1, .iload_n 1, 1, [], 0, 0), (2, .invokevirtual 133, 3, [], 37, 0), (5, .ifCond .ne 5, 3, [], 0, 0), (8, .iconst (-1), 1, [], 0, 0), (9, .ireturn, 1, [], 0, 0), (10, .aload_n 0, 1, [], 0, 0), (11, .iload_n 1, 1, [], 0, 0), (12, .invokevirtual 139, 3, [], 47, 0), (15, .ireturn, 1, [], 0, 0)])
def d_47 : MD := (⟨"RoomPlanner", "roomTypeOf", "(I)I"⟩, prog_1_method_21_code, 2, some .int, 2, 1, 0, 0, 0, [(0, .iload_n 1, 1, [], 0, 0), (1, .aload_n 0, 1, [], 0, 0), (2, .getfield 16, 3, [], 2, 0), (5, .iconst 1, 1, [], 0, 0), (6, .iaload, 1, [], 0, 0), (7, .if_icmp .ge 5, 3, [], 0, 0), (10, .iconst 0, 1, [], 0, 0), (11, .ireturn, 1, [], 0, 0), (12, .iload_n 1, 1, [], 0, 0), (13, .aload_n 0, 1, [], 0, 0), (14, .getfield 16, 3, [], 2, 0), (17, .iconst 2, 1, [], 0, 0), (18, .iaload, 1, [], 0, 0), (19, .if_icmp .ge 5, 3, [], 0, 0), (22, .iconst 1, 1, [], 0, 0), (23, .ireturn, 1, [], 0, 0), (24, .iconst 2, 1, [], 0, 0), (25, .ireturn, 1, [], 0, 0)])
def d_48 : MD := (⟨"RoomPlannerOwnLaw", "overlap", "(IIII)Z"⟩, method_6_code, 4, some .boolean, 0, 4, 999, 0, 0, [(0, .iload_n 0, 1, [], 0, 0), (1, .iload_n 2, 1, [], 0, 0), (2, .iload_n 3, 1, [], 0, 0), (3, .iadd, 1, [], 0, 0), (4, .if_icmp .ge 14, 3, [], 0, 0), (7, .iload_n 2, 1, [], 0, 0), (8, .iload_n 0, 1, [], 0, 0), (9, .iload_n 1, 1, [], 0, 0), (10, .iadd, 1, [], 0, 0), (11, .if_icmp .ge 7, 3, [], 0, 0), (14, .iconst 1, 1, [], 0, 0), (15, .goto 4, 3, [], 0, 0), (18, .iconst 0, 1, [], 0, 0), (19, .ireturn, 1, [], 0, 0)])
def d_49 : MD := (⟨"RoomPlanner", "coversNight", "(II)Z"⟩, prog_1_method_33_code, 4, some .boolean, 2, 2, 0, 1, 13, [(0, .aload_n 0, 1, [], 0, 0), (1, .iload_n 1, 1, [], 0, 0), (2, .invokevirtual 93, 3, [], 11, 0), (5, .ifCond .ne 5, 3, [], 0, 0), (8, .iconst 0, 1, [], 0, 0), (9, .ireturn, 1, [], 0, 0), (10, .aload_n 0, 1, [], 0, 0), (11, .getfield 26, 3, [], 5, 0), (14, .iload_n 1, 1, [], 0, 0), (15, .iaload, 1, [], 0, 0), (16, .istore_n 3, 1, [], 0, 0), (17, .iload_n 2, 1, [], 0, 0), (18, .iload_n 3, 1, [], 0, 0), (19, .if_icmp .lt 19, 3, [], 0, 0), (22, .iload_n 2, 1, [], 0, 0), (23, .iload_n 3, 1, [], 0, 0), (24, .isub, 1, [], 0, 0), (25, .aload_n 0, 1, [], 0, 0), (26, .getfield 29, 3, [], 6, 0), (29, .iload_n 1, 1, [], 0, 0), (30, .iaload, 1, [], 0, 0), (31, .if_icmp .ge 7, 3, [], 0, 0), (34, .iconst 1, 1, [], 0, 0), (35, .goto 4, 3, [], 0, 0), (38, .iconst 0, 1, [], 0, 0), (39, .ireturn, 1, [], 0, 0)])
def own_P : PD := ([("RoomPlanner", 17, [("roomsOfType", "[I", (.array .int), true), ("roomsAtLeast", "[I", (.array .int), true), ("firstRoomOfType", "[I", (.array .int), true), ("slotActive", "[Z", (.array .boolean), true), ("slotType", "[I", (.array .int), true), ("slotArrive", "[I", (.array .int), true), ("slotNights", "[I", (.array .int), true), ("exactCount", "[I", (.array .int), true), ("atLeastCount", "[I", (.array .int), true), ("planRoom", "[I", (.array .int), true), ("planGrid", "[I", (.array .int), true), ("planOrder", "[I", (.array .int), true), ("totalRooms", "I", .int, false), ("activeStays", "I", .int, false), ("planOrderLength", "I", .int, false), ("planCurrent", "Z", .boolean, false), ("planUnplaced", "I", .int, false)])], [d_0, d_1, d_2, d_3, d_4, d_5, d_6, d_7, d_8, d_9, d_10, d_11, d_12, d_13, d_14, d_15, d_16, d_17, d_18, d_19, d_20, d_21, d_22, d_23, d_24, d_25, d_26, d_27, d_28, d_29, d_30, d_31, d_32, d_33, d_34, d_35, d_36, d_37, d_38, d_39, d_40, d_41, d_42, d_43, d_44, d_45, d_46, d_47, d_48, d_49], 1)
theorem hm_0 : own_P.mth[0]? = some d_0 := rfl
theorem hm_1 : own_P.mth[1]? = some d_1 := rfl
theorem hm_2 : own_P.mth[2]? = some d_2 := rfl
theorem hm_3 : own_P.mth[3]? = some d_3 := rfl
theorem hm_4 : own_P.mth[4]? = some d_4 := rfl
theorem hm_5 : own_P.mth[5]? = some d_5 := rfl
theorem hm_6 : own_P.mth[6]? = some d_6 := rfl
theorem hm_7 : own_P.mth[7]? = some d_7 := rfl
theorem hm_8 : own_P.mth[8]? = some d_8 := rfl
theorem hm_9 : own_P.mth[9]? = some d_9 := rfl
theorem hm_10 : own_P.mth[10]? = some d_10 := rfl
theorem hm_11 : own_P.mth[11]? = some d_11 := rfl
theorem hm_12 : own_P.mth[12]? = some d_12 := rfl
theorem hm_13 : own_P.mth[13]? = some d_13 := rfl
theorem hm_14 : own_P.mth[14]? = some d_14 := rfl
theorem hm_15 : own_P.mth[15]? = some d_15 := rfl
theorem hm_16 : own_P.mth[16]? = some d_16 := rfl
theorem hm_17 : own_P.mth[17]? = some d_17 := rfl
theorem hm_18 : own_P.mth[18]? = some d_18 := rfl
theorem hm_19 : own_P.mth[19]? = some d_19 := rfl
theorem hm_20 : own_P.mth[20]? = some d_20 := rfl
theorem hm_21 : own_P.mth[21]? = some d_21 := rfl
theorem hm_22 : own_P.mth[22]? = some d_22 := rfl
theorem hm_23 : own_P.mth[23]? = some d_23 := rfl
theorem hm_24 : own_P.mth[24]? = some d_24 := rfl
theorem hm_25 : own_P.mth[25]? = some d_25 := rfl
theorem hm_26 : own_P.mth[26]? = some d_26 := rfl
theorem hm_27 : own_P.mth[27]? = some d_27 := rfl
theorem hm_28 : own_P.mth[28]? = some d_28 := rfl
theorem hm_29 : own_P.mth[29]? = some d_29 := rfl
theorem hm_30 : own_P.mth[30]? = some d_30 := rfl
theorem hm_31 : own_P.mth[31]? = some d_31 := rfl
theorem hm_32 : own_P.mth[32]? = some d_32 := rfl
theorem hm_33 : own_P.mth[33]? = some d_33 := rfl
theorem hm_34 : own_P.mth[34]? = some d_34 := rfl
theorem hm_35 : own_P.mth[35]? = some d_35 := rfl
theorem hm_36 : own_P.mth[36]? = some d_36 := rfl
theorem hm_37 : own_P.mth[37]? = some d_37 := rfl
theorem hm_38 : own_P.mth[38]? = some d_38 := rfl
theorem hm_39 : own_P.mth[39]? = some d_39 := rfl
theorem hm_40 : own_P.mth[40]? = some d_40 := rfl
theorem hm_41 : own_P.mth[41]? = some d_41 := rfl
theorem hm_42 : own_P.mth[42]? = some d_42 := rfl
theorem hm_43 : own_P.mth[43]? = some d_43 := rfl
theorem hm_44 : own_P.mth[44]? = some d_44 := rfl
theorem hm_45 : own_P.mth[45]? = some d_45 := rfl
theorem hm_46 : own_P.mth[46]? = some d_46 := rfl
theorem hm_47 : own_P.mth[47]? = some d_47 := rfl
theorem hm_48 : own_P.mth[48]? = some d_48 := rfl
theorem hm_49 : own_P.mth[49]? = some d_49 := rfl
set_option maxRecDepth 100000 in
theorem own_chk : chk own_P = true := by decide +kernel
def own_ix : List Nat := [9, 10, 19, 21, 23, 26, 28, 30, 32, 34, 36, 38, 40, 42, 52, 58, 68, 70, 72, 3, 2, 1, 6, 2, 5, 13, 10, 12, 46, 10, 44, 45, 50, 10, 48, 49, 56, 10, 54, 55, 62, 10, 60, 61, 66, 10, 64, 65, 75, 2, 74, 80, 10, 77, 79, 78, 84, 10, 82, 83, 87, 2, 86, 92, 10, 89, 91, 90, 96, 10, 94, 95, 100, 10, 98, 99, 104, 10, 102, 103, 108, 10, 106, 107, 112, 10, 110, 111, 116, 10, 114, 115, 120, 10, 118, 119, 124, 10, 122, 123, 128, 10, 126, 127, 132, 10, 130, 131, 136, 10, 134, 135, 140, 10, 138, 139, 144, 10, 142, 143, 148, 10, 146, 147, 152, 10, 150, 151, 157, 10, 154, 156, 155, 162, 10, 159, 161, 160, 167, 10, 164, 166, 165, 172, 10, 169, 171, 170, 176, 10, 174, 175, 181, 10, 178, 180, 179, 185, 10, 183, 184, 190, 10, 187, 189, 188, 194, 10, 192, 193, 198, 10, 196, 197, 202, 10, 200, 201, 207, 10, 204, 206, 205, 211, 10, 209, 210, 215, 10, 213, 214, 219, 10, 217, 218, 223, 10, 221, 222, 228, 10, 225, 227, 226, 233, 10, 230, 232, 231, 237, 10, 235, 236, 240, 2, 239, 244, 10, 242, 243, 0, 4, 0, 4, 0, 4, 8, 11, 0, 4, 0, 4, 0, 4, 0, 4, 73, 76, 153, 158, 85, 85, 76, 88, 203, 168, 177, 76, 153, 158, 85, 163, 76, 224, 229, 76, 224, 153, 158, 153, 158, 238, 186, 76, 76, 224, 153, 158, 85, 7, 14, 15, 16, 17, 18, 17, 20, 17, 22, 24, 25, 17, 27, 17, 29, 17, 31, 17, 33, 17, 35, 17, 37, 17, 39, 17, 41, 18, 43, 18, 43, 18, 43, 47, 53, 59, 63, 69, 71, 18, 18, 18, 20, 20, 20, 22, 22, 22, 51, 25, 27, 29, 31, 57, 33, 35, 37, 41, 39, 67, 81, 27, 25, 93, 57, 109, 133, 137, 149, 97, 101, 105, 113, 117, 121, 129, 20, 97, 101, 35, 125, 81, 27, 241, 25, 141, 25, 57, 57, 145, 27, 29, 31, 27, 97, 29, 31, 113, 33, 125, 35, 125, 69, 81, 29, 81, 31, 69, 81, 173, 149, 145, 25, 141, 57, 57, 149, 63, 182, 67, 41, 212, 71, 69, 67, 25, 29, 208, 191, 101, 69, 195, 51, 101, 39, 199, 81, 93, 109, 145, 141, 145, 149, 67, 67, 41, 67, 67, 67, 81, 27, 97, 29, 31, 22, 51, 216, 220, 37, 113, 195, 113, 39, 199, 81, 69, 37, 191, 234, 22, 22, 81, 29, 31]
set_option maxRecDepth 100000 in
theorem own_words : (wordsOf own_P).map some = own_ix.map fun k => tables_1[k]? := rfl
theorem own_in : ∀ d ∈ wordsOf own_P, d ∈ tables_1 := fun d hd => by
  have h1 : some d ∈ (wordsOf own_P).map some := List.mem_map.mpr ⟨d, hd, rfl⟩
  rw [own_words] at h1
  obtain ⟨k, -, hk⟩ := List.mem_map.mp h1
  exact List.mem_of_getElem? hk
abbrev bk0 (s_roomsOfType : List Int32) (s_roomsAtLeast : List Int32) (s_firstRoomOfType : List Int32) (s_slotActive : List Int32) (s_slotType : List Int32) (s_slotArrive : List Int32) (s_slotNights : List Int32) (s_exactCount : List Int32) (s_atLeastCount : List Int32) (s_planRoom : List Int32) (s_planGrid : List Int32) (s_planOrder : List Int32) (s_totalRooms : Int32) (s_activeStays : Int32) (s_planOrderLength : Int32) (s_planCurrent : Int32) (s_planUnplaced : Int32) (po : List ACell) : List ACell := .inl (0, [.ref 2, .ref 3, .ref 4, .ref 5, .ref 6, .ref 7, .ref 8, .ref 9, .ref 10, .ref 11, .ref 12, .ref 13, .int s_totalRooms, .int s_activeStays, .int s_planOrderLength, .int s_planCurrent, .int s_planUnplaced]) :: .inr (.inl (false, s_roomsOfType)) :: .inr (.inl (false, s_roomsAtLeast)) :: .inr (.inl (false, s_firstRoomOfType)) :: .inr (.inl (true, s_slotActive)) :: .inr (.inl (false, s_slotType)) :: .inr (.inl (false, s_slotArrive)) :: .inr (.inl (false, s_slotNights)) :: .inr (.inl (false, s_exactCount)) :: .inr (.inl (false, s_atLeastCount)) :: .inr (.inl (false, s_planRoom)) :: .inr (.inl (false, s_planGrid)) :: .inr (.inl (false, s_planOrder)) :: po
def f_L_cell (scr : List Int32) (v1 : Int32) : Option (Int32) :=
  if v1 < scr.length.toInt32 then
    (rdA scr v1).bind fun x1 =>
    some x1
  else
    some (0 : Int32)
def f_L_m (v0 : Int32) : Option (Int32) :=
  some (v0 &&& (2147483647 : Int32))
def f_clampRooms (v1 : Int32) : Option (Int32) :=
  some (if v1 < (0 : Int32) then (0 : Int32) else (if (8 : Int32) < v1 then (8 : Int32) else v1))
def f_computeRoomTables (zq zo zl : List Int32) (zi : Int32) : Option (List Int32 × List Int32 × Int32) :=
  (rdA zq (0 : Int32)).bind fun x2 =>
  (rdA zq (1 : Int32)).bind fun x3 =>
  (rdA zq (2 : Int32)).bind fun x4 =>
  (wrA zo (2 : Int32) x4).bind fun A5 =>
  (wrA A5 (1 : Int32) (x3 + x4)).bind fun A6 =>
  (wrA A6 (0 : Int32) ((x2 + x3) + x4)).bind fun A7 =>
  (wrA zl (0 : Int32) (0 : Int32)).bind fun A8 =>
  (wrA A8 (1 : Int32) x2).bind fun A9 =>
  (wrA A9 (2 : Int32) (x2 + x3)).bind fun A10 =>
  some (A7, A10, ((x2 + x3) + x4))
def f_resetStays_2 : Nat → List Int32 → List Int32 → List Int32 → List Int32 → Int32 → Int32 → Option (List Int32 × List Int32 × List Int32 × List Int32 × Int32)
  | 0, _, _, _, _, _, _ => none
  | n + 1, za, zd, zb, zc, zn, v1 =>
    if v1 < (32 : Int32) then
      (wrA za v1 (0 : Int32)).bind fun A11 =>
      (wrA zd v1 (0 : Int32)).bind fun A12 =>
      (wrA zb v1 (0 : Int32)).bind fun A13 =>
      (wrA zc v1 (0 : Int32)).bind fun A14 =>
      f_resetStays_2 n A11 A12 A13 A14 zn (v1 + (1 : Int32))
    else
      some (za, zd, zb, zc, (0 : Int32))
def f_resetStays (za zd zb zc : List Int32) (zn : Int32) : Option (List Int32 × List Int32 × List Int32 × List Int32 × Int32) :=
  f_resetStays_2 100000 za zd zb zc zn (0 : Int32)
def f_resetCounts_2 : Nat → List Int32 → List Int32 → Int32 → Option (List Int32 × List Int32)
  | 0, _, _, _ => none
  | n + 1, zm, zf, v1 =>
    if v1 < (96 : Int32) then
      (wrA zm v1 (0 : Int32)).bind fun A15 =>
      (wrA zf v1 (0 : Int32)).bind fun A16 =>
      f_resetCounts_2 n A15 A16 (v1 + (1 : Int32))
    else
      some (zm, zf)
def f_resetCounts (zm zf : List Int32) : Option (List Int32 × List Int32) :=
  f_resetCounts_2 100000 zm zf (0 : Int32)
def f_clearPlan_30 : Nat → List Int32 → List Int32 → List Int32 → Int32 → Int32 → Option (List Int32 × List Int32 × List Int32 × Int32)
  | 0, _, _, _, _, _ => none
  | n + 1, zj, ze, zh, zg, v1 =>
    if v1 < (768 : Int32) then
      (wrA ze v1 (-1 : Int32)).bind fun A19 =>
      f_clearPlan_30 n zj A19 zh zg (v1 + (1 : Int32))
    else
      some (zj, ze, zh, (0 : Int32))
def f_clearPlan_2 (k30 : List Int32 → List Int32 → List Int32 → Int32 → Int32 → Option (List Int32 × List Int32 × List Int32 × Int32)) : Nat → List Int32 → List Int32 → List Int32 → Int32 → Int32 → Option (List Int32 × List Int32 × List Int32 × Int32)
  | 0, _, _, _, _, _ => none
  | n + 1, zj, ze, zh, zg, v1 =>
    if v1 < (32 : Int32) then
      (wrA zj v1 (-1 : Int32)).bind fun A17 =>
      (wrA zh v1 (0 : Int32)).bind fun A18 =>
      f_clearPlan_2 k30 n A17 ze A18 zg (v1 + (1 : Int32))
    else
      k30 zj ze zh zg (0 : Int32)
def f_clearPlan (zj ze zh : List Int32) (zg : Int32) : Option (List Int32 × List Int32 × List Int32 × Int32) :=
  f_clearPlan_2 (f_clearPlan_30 100000) 100000 zj ze zh zg (0 : Int32)
def f_init (v1 v2 v3 : Int32) : Option (List Int32 × List Int32 × List Int32 × List Int32 × List Int32 × List Int32 × List Int32 × List Int32 × List Int32 × List Int32 × List Int32 × List Int32 × Int32 × Int32 × Int32 × Int32 × Int32) :=
  (f_clampRooms v1).bind fun r20 =>
  (wrA (List.replicate 3 0) (0 : Int32) r20).bind fun A21 =>
  (f_clampRooms v2).bind fun r22 =>
  (wrA A21 (1 : Int32) r22).bind fun A23 =>
  (f_clampRooms v3).bind fun r24 =>
  (wrA A23 (2 : Int32) r24).bind fun A25 =>
  (f_computeRoomTables A25 (List.replicate 3 0) (List.replicate 3 0) (0 : Int32)).bind fun (s26, s27, s28) =>
  (f_resetStays (List.replicate 32 0) (List.replicate 32 0) (List.replicate 32 0) (List.replicate 32 0) (0 : Int32)).bind fun (s29, s30, s31, s32, s33) =>
  (f_resetCounts (List.replicate 96 0) (List.replicate 96 0)).bind fun (s34, s35) =>
  (f_clearPlan (List.replicate 32 0) (List.replicate 768 0) (List.replicate 32 0) (0 : Int32)).bind fun (s36, s37, s38, s39) =>
  some (A25, s26, s27, s29, s30, s31, s32, s34, s35, s36, s37, s38, s28, s33, s39, (0 : Int32), (0 : Int32))
def f_L_valid (v0 v1 v2 : Int32) : Option (Int32) :=
  some (if v0 < (0 : Int32) then (0 : Int32) else (if (2 : Int32) < v0 then (0 : Int32) else (if v1 < (0 : Int32) then (0 : Int32) else (if (31 : Int32) < v1 then (0 : Int32) else (if v2 < (1 : Int32) then (0 : Int32) else (if ((32 : Int32) - v1) < v2 then (0 : Int32) else (1 : Int32)))))))
def f_isActiveStay (za : List Int32) (v1 : Int32) : Option (Int32) :=
  if v1 < (0 : Int32) then
    some (0 : Int32)
  else
    if v1 < (32 : Int32) then
      (rdA za v1).bind fun x40 =>
      some (x40 &&& 1)
    else
      some (0 : Int32)
def f_stayType (za zd : List Int32) (v1 : Int32) : Option (Int32) :=
  (f_isActiveStay za v1).bind fun r41 =>
  if r41 = (0 : Int32) then
    some (-1 : Int32)
  else
    (rdA zd v1).bind fun x42 =>
    some x42
def f_stayArrive (za zb : List Int32) (v1 : Int32) : Option (Int32) :=
  (f_isActiveStay za v1).bind fun r43 =>
  if r43 = (0 : Int32) then
    some (-1 : Int32)
  else
    (rdA zb v1).bind fun x44 =>
    some x44
def f_stayNights (za zc : List Int32) (v1 : Int32) : Option (Int32) :=
  (f_isActiveStay za v1).bind fun r45 =>
  if r45 = (0 : Int32) then
    some (-1 : Int32)
  else
    (rdA zc v1).bind fun x46 =>
    some x46
def f_L_covers (v0 v1 v2 : Int32) : Option (Int32) :=
  some (if v2 < v0 then (0 : Int32) else (if v2 < (v0 + v1) then (1 : Int32) else (0 : Int32)))
def f_isValidType (v1 : Int32) : Option (Int32) :=
  some (if v1 < (0 : Int32) then (0 : Int32) else (if v1 < (3 : Int32) then (1 : Int32) else (0 : Int32)))
def f_isValidNight (v1 : Int32) : Option (Int32) :=
  some (if v1 < (0 : Int32) then (0 : Int32) else (if v1 < (32 : Int32) then (1 : Int32) else (0 : Int32)))
def f_isValidLength (v1 v2 : Int32) : Option (Int32) :=
  some (if v2 < (1 : Int32) then (0 : Int32) else (if ((32 : Int32) - v1) < v2 then (0 : Int32) else (1 : Int32)))
def f_requestError (v1 v2 v3 : Int32) : Option (Int32) :=
  (f_isValidType v1).bind fun r47 =>
  if r47 = (0 : Int32) then
    some (-1 : Int32)
  else
    (f_isValidNight v2).bind fun r48 =>
    if r48 = (0 : Int32) then
      some (-2 : Int32)
    else
      (f_isValidLength v2 v3).bind fun r49 =>
      some (if r49 = (0 : Int32) then (-2 : Int32) else (0 : Int32))
def f_endOf (v1 v2 : Int32) : Option (Int32) :=
  some (if (32 : Int32) < (v1 + v2) then (32 : Int32) else (v1 + v2))
def f_countIndex (v1 v2 : Int32) : Option (Int32) :=
  some ((v1 * (32 : Int32)) + v2)
def f_atLeastAt (zf : List Int32) (v1 v2 : Int32) : Option (Int32) :=
  (f_isValidType v1).bind fun r50 =>
  if r50 = (0 : Int32) then
    some (0 : Int32)
  else
    (f_isValidNight v2).bind fun r51 =>
    if r51 = (0 : Int32) then
      some (0 : Int32)
    else
      (f_countIndex v1 v2).bind fun r52 =>
      (rdA zf r52).bind fun x53 =>
      some x53
def f_coversNight (za zb zc : List Int32) (v1 v2 : Int32) : Option (Int32) :=
  (f_isActiveStay za v1).bind fun r54 =>
  if r54 = (0 : Int32) then
    some (0 : Int32)
  else
    (rdA zb v1).bind fun x55 =>
    if v2 < x55 then
      some (0 : Int32)
    else
      (rdA zc v1).bind fun x56 =>
      some (if (v2 - x55) < x56 then (1 : Int32) else (0 : Int32))
def f_exclusion (za zd zb zc : List Int32) (v1 v2 v3 : Int32) : Option (Int32) :=
  (f_isActiveStay za v1).bind fun r57 =>
  if r57 = (0 : Int32) then
    some (0 : Int32)
  else
    (rdA zd v1).bind fun x58 =>
    if x58 < v2 then
      some (0 : Int32)
    else
      (f_coversNight za zb zc v1 v3).bind fun r59 =>
      some (if r59 = (0 : Int32) then (0 : Int32) else (1 : Int32))
def f_nightFits_3 (zo za zd zb zc zf : List Int32) : Nat → Int32 → Int32 → Int32 → Int32 → Option (Int32)
  | 0, _, _, _, _ => none
  | n + 1, v1, v2, v3, v4 =>
    if v2 < v4 then
      some (1 : Int32)
    else
      if v4 < (3 : Int32) then
        (f_atLeastAt zf v4 v3).bind fun r60 =>
        (f_exclusion za zd zb zc v1 v4 v3).bind fun r61 =>
        (rdA zo v4).bind fun x62 =>
        if x62 < ((r60 - r61) + (1 : Int32)) then
          some (0 : Int32)
        else
          f_nightFits_3 zo za zd zb zc zf n v1 v2 v3 (v4 + (1 : Int32))
      else
        some (1 : Int32)
def f_nightFits (zo za zd zb zc zf : List Int32) (v1 v2 v3 : Int32) : Option (Int32) :=
  f_nightFits_3 zo za zd zb zc zf 100000 v1 v2 v3 (0 : Int32)
def f_fitsWith_12 (zo za zd zb zc zf : List Int32) : Nat → Int32 → Int32 → Int32 → Int32 → Option (Int32)
  | 0, _, _, _, _ => none
  | n + 1, v1, v2, v5, v6 =>
    if v6 < (0 : Int32) then
      some (1 : Int32)
    else
      if v6 < v5 then
        (f_nightFits zo za zd zb zc zf v1 v2 v6).bind fun r64 =>
        if r64 = (0 : Int32) then
          some (0 : Int32)
        else
          f_fitsWith_12 zo za zd zb zc zf n v1 v2 v5 (v6 + (1 : Int32))
      else
        some (1 : Int32)
def f_fitsWith (zo za zd zb zc zf : List Int32) (v1 v2 v3 v4 : Int32) : Option (Int32) :=
  (f_endOf v3 v4).bind fun r63 =>
  f_fitsWith_12 zo za zd zb zc zf 100000 v1 v2 r63 v3
def f_lowestInactiveSlot_2 (za : List Int32) : Nat → Int32 → Option (Int32)
  | 0, _ => none
  | n + 1, v1 =>
    if v1 < (32 : Int32) then
      (rdA za v1).bind fun x65 =>
      if x65 = (0 : Int32) then
        some v1
      else
        f_lowestInactiveSlot_2 za n (v1 + (1 : Int32))
    else
      some (-1 : Int32)
def f_lowestInactiveSlot (za : List Int32) : Option (Int32) :=
  f_lowestInactiveSlot_2 za 100000 (0 : Int32)
def f_storeStay (zd zb zc : List Int32) (v1 v2 v3 v4 : Int32) : Option (List Int32 × List Int32 × List Int32) :=
  (wrA zd v1 v2).bind fun A66 =>
  (wrA zb v1 v3).bind fun A67 =>
  (wrA zc v1 v4).bind fun A68 =>
  some (A66, A67, A68)
def f_adjustCoverage_84 (k53 : List Int32 → List Int32 → Int32 → Int32 → Int32 → Int32 → Option (List Int32 × List Int32)) (zd zb zc : List Int32) : Nat → List Int32 → List Int32 → Int32 → Int32 → Int32 → Int32 → Int32 → Option (List Int32 × List Int32)
  | 0, _, _, _, _, _, _, _ => none
  | n + 1, zm, zf, v2, v3, v5, v6, v7 =>
    if v3 < v7 then
      k53 zm zf v2 v3 v5 (v6 + (1 : Int32))
    else
      (f_countIndex v7 v6).bind fun r77 =>
      (rdA zf r77).bind fun x78 =>
      (wrA zf r77 (x78 + v2)).bind fun A79 =>
      f_adjustCoverage_84 k53 zd zb zc n zm A79 v2 v3 v5 v6 (v7 + (1 : Int32))
def f_adjustCoverage_53 (zd zb zc : List Int32) : Nat → List Int32 → List Int32 → Int32 → Int32 → Int32 → Int32 → Option (List Int32 × List Int32)
  | 0, _, _, _, _, _, _ => none
  | n + 1, zm, zf, v2, v3, v5, v6 =>
    if v6 < (0 : Int32) then
      some (zm, zf)
    else
      if v6 < v5 then
        (f_countIndex v3 v6).bind fun r74 =>
        (rdA zm r74).bind fun x75 =>
        (wrA zm r74 (x75 + v2)).bind fun A76 =>
        f_adjustCoverage_84 (f_adjustCoverage_53 zd zb zc n) zd zb zc 100000 A76 zf v2 v3 v5 v6 (0 : Int32)
      else
        some (zm, zf)
def f_adjustCoverage (zd zb zc zm zf : List Int32) (v1 v2 : Int32) : Option (List Int32 × List Int32) :=
  if v1 < (0 : Int32) then
    some (zm, zf)
  else
    if v1 < (32 : Int32) then
      (rdA zd v1).bind fun x69 =>
      (f_isValidType x69).bind fun r70 =>
      if r70 = (0 : Int32) then
        some (zm, zf)
      else
        (rdA zb v1).bind fun x71 =>
        (rdA zc v1).bind fun x72 =>
        (f_endOf x71 x72).bind fun r73 =>
        f_adjustCoverage_53 zd zb zc 100000 zm zf v2 x69 r73 x71
    else
      some (zm, zf)
def f_activateStay (za zd zb zc zm zf : List Int32) (zn v1 v2 v3 v4 : Int32) : Option (List Int32 × List Int32 × List Int32 × List Int32 × List Int32 × List Int32 × Int32) :=
  (f_storeStay zd zb zc v1 v2 v3 v4).bind fun (s80, s81, s82) =>
  (wrA za v1 (1 : Int32)).bind fun A83 =>
  (f_adjustCoverage s80 s81 s82 zm zf v1 (1 : Int32)).bind fun (s84, s85) =>
  some (A83, s80, s81, s82, s84, s85, (zn + (1 : Int32)))
def f_discardPlan (zk : Int32) : Option (Int32) :=
  some (0 : Int32)
def f_book (zo za zd zb zc zm zf : List Int32) (zn zk v1 v2 v3 : Int32) : Option (Int32 × List Int32 × List Int32 × List Int32 × List Int32 × List Int32 × List Int32 × Int32 × Int32) :=
  (f_requestError v1 v2 v3).bind fun r86 =>
  if r86 = (0 : Int32) then
    if zn < (32 : Int32) then
      (f_fitsWith zo za zd zb zc zf (-1 : Int32) v1 v2 v3).bind fun r87 =>
      if r87 = (0 : Int32) then
        some ((-4 : Int32), za, zd, zb, zc, zm, zf, zn, zk)
      else
        (f_lowestInactiveSlot za).bind fun r88 =>
        if r88 < (0 : Int32) then
          some ((-3 : Int32), za, zd, zb, zc, zm, zf, zn, zk)
        else
          (f_activateStay za zd zb zc zm zf zn r88 v1 v2 v3).bind fun (s89, s90, s91, s92, s93, s94, s95) =>
          (f_discardPlan zk).bind fun s96 =>
          some (r88, s89, s90, s91, s92, s93, s94, s95, s96)
    else
      some ((-3 : Int32), za, zd, zb, zc, zm, zf, zn, zk)
  else
    some (r86, za, zd, zb, zc, zm, zf, zn, zk)
def f_amend (zo za zd zb zc zm zf : List Int32) (zk v1 v2 v3 v4 : Int32) : Option (Int32 × List Int32 × List Int32 × List Int32 × List Int32 × List Int32 × Int32) :=
  (f_isActiveStay za v1).bind fun r97 =>
  if r97 = (0 : Int32) then
    some ((-5 : Int32), zd, zb, zc, zm, zf, zk)
  else
    (f_requestError v2 v3 v4).bind fun r98 =>
    if r98 = (0 : Int32) then
      (f_fitsWith zo za zd zb zc zf v1 v2 v3 v4).bind fun r99 =>
      if r99 = (0 : Int32) then
        some ((-4 : Int32), zd, zb, zc, zm, zf, zk)
      else
        (f_adjustCoverage zd zb zc zm zf v1 (-1 : Int32)).bind fun (s100, s101) =>
        (f_storeStay zd zb zc v1 v2 v3 v4).bind fun (s102, s103, s104) =>
        (f_adjustCoverage s102 s103 s104 s100 s101 v1 (1 : Int32)).bind fun (s105, s106) =>
        (f_discardPlan zk).bind fun s107 =>
        some ((0 : Int32), s102, s103, s104, s105, s106, s107)
    else
      some (r98, zd, zb, zc, zm, zf, zk)
def f_deactivateStay (za zd zb zc zm zf : List Int32) (zn v1 : Int32) : Option (List Int32 × List Int32 × List Int32 × List Int32 × List Int32 × List Int32 × Int32) :=
  (f_adjustCoverage zd zb zc zm zf v1 (-1 : Int32)).bind fun (s108, s109) =>
  (wrA za v1 (0 : Int32)).bind fun A110 =>
  (f_storeStay zd zb zc v1 (0 : Int32) (0 : Int32) (0 : Int32)).bind fun (s111, s112, s113) =>
  some (A110, s111, s112, s113, s108, s109, (zn - (1 : Int32)))
def f_cancel (za zd zb zc zm zf : List Int32) (zn zk v1 : Int32) : Option (Int32 × List Int32 × List Int32 × List Int32 × List Int32 × List Int32 × List Int32 × Int32 × Int32) :=
  (f_isActiveStay za v1).bind fun r114 =>
  if r114 = (0 : Int32) then
    some ((-5 : Int32), za, zd, zb, zc, zm, zf, zn, zk)
  else
    (f_deactivateStay za zd zb zc zm zf zn v1).bind fun (s115, s116, s117, s118, s119, s120, s121) =>
    (f_discardPlan zk).bind fun s122 =>
    some ((0 : Int32), s115, s116, s117, s118, s119, s120, s121, s122)
def f_appendToOrder (zh : List Int32) (zg v1 : Int32) : Option (List Int32 × Int32) :=
  if zg < (0 : Int32) then
    some (zh, zg)
  else
    if zg < (32 : Int32) then
      (wrA zh zg v1).bind fun A123 =>
      some (A123, (zg + (1 : Int32)))
    else
      some (zh, zg)
def f_buildOrder_15 (k7 : List Int32 → Int32 → Int32 → Option (List Int32 × Int32)) (za zb : List Int32) : Nat → List Int32 → Int32 → Int32 → Int32 → Option (List Int32 × Int32)
  | 0, _, _, _, _ => none
  | n + 1, zh, zg, v1, v2 =>
    if v2 < (32 : Int32) then
      (rdA za v2).bind fun x124 =>
      if x124 = (0 : Int32) then
        f_buildOrder_15 k7 za zb n zh zg v1 (v2 + (1 : Int32))
      else
        (rdA zb v2).bind fun x125 =>
        if x125 = v1 then
          (f_appendToOrder zh zg v2).bind fun (s126, s127) =>
          f_buildOrder_15 k7 za zb n s126 s127 v1 (v2 + (1 : Int32))
        else
          f_buildOrder_15 k7 za zb n zh zg v1 (v2 + (1 : Int32))
    else
      k7 zh zg (v1 + (1 : Int32))
def f_buildOrder_7 (za zb : List Int32) : Nat → List Int32 → Int32 → Int32 → Option (List Int32 × Int32)
  | 0, _, _, _ => none
  | n + 1, zh, zg, v1 =>
    if v1 < (32 : Int32) then
      f_buildOrder_15 (f_buildOrder_7 za zb n) za zb 100000 zh zg v1 (0 : Int32)
    else
      some (zh, zg)
def f_buildOrder (za zb zh : List Int32) (zg : Int32) : Option (List Int32 × Int32) :=
  f_buildOrder_7 za zb 100000 zh (0 : Int32) (0 : Int32)
def f_gridIndex (v1 v2 : Int32) : Option (Int32) :=
  some ((v1 * (32 : Int32)) + v2)
def f_gridAt (ze : List Int32) (v1 v2 : Int32) : Option (Int32) :=
  if v1 < (0 : Int32) then
    some (-1 : Int32)
  else
    if v1 < (24 : Int32) then
      (f_isValidNight v2).bind fun r128 =>
      if r128 = (0 : Int32) then
        some (-1 : Int32)
      else
        (f_gridIndex v1 v2).bind fun r129 =>
        (rdA ze r129).bind fun x130 =>
        some x130
    else
      some (-1 : Int32)
def f_roomIsFree_11 (ze : List Int32) : Nat → Int32 → Int32 → Int32 → Option (Int32)
  | 0, _, _, _ => none
  | n + 1, v1, v4, v5 =>
    if v5 < (0 : Int32) then
      some (1 : Int32)
    else
      if v5 < v4 then
        (f_gridAt ze v1 v5).bind fun r132 =>
        if r132 = (-1 : Int32) then
          f_roomIsFree_11 ze n v1 v4 (v5 + (1 : Int32))
        else
          some (0 : Int32)
      else
        some (1 : Int32)
def f_roomIsFree (ze : List Int32) (v1 v2 v3 : Int32) : Option (Int32) :=
  (f_endOf v2 v3).bind fun r131 =>
  f_roomIsFree_11 ze 100000 v1 r131 v2
def f_markRoom_23 : Nat → List Int32 → Int32 → Int32 → Int32 → Int32 → Option (List Int32)
  | 0, _, _, _, _, _ => none
  | n + 1, ze, v1, v2, v5, v6 =>
    if v6 < (0 : Int32) then
      some ze
    else
      if v6 < v5 then
        (f_gridIndex v1 v6).bind fun r134 =>
        (wrA ze r134 v2).bind fun A135 =>
        f_markRoom_23 n A135 v1 v2 v5 (v6 + (1 : Int32))
      else
        some ze
def f_markRoom (ze : List Int32) (v1 v2 v3 v4 : Int32) : Option (List Int32) :=
  if v1 < (0 : Int32) then
    some ze
  else
    if v1 < (24 : Int32) then
      (f_endOf v3 v4).bind fun r133 =>
      f_markRoom_23 100000 ze v1 v2 r133 v3
    else
      some ze
def f_placeStay_78 (zl za zd zb zc : List Int32) (zi : Int32) (zj ze : List Int32) (v1 v3 v4 v5 : Int32) : Option (Int32 × List Int32 × List Int32) :=
  (f_markRoom ze v5 v1 v3 v4).bind fun s143 =>
  (wrA zj v1 v5).bind fun A144 =>
  some ((1 : Int32), A144, s143)
def f_placeStay_50 (k78 : List Int32 → List Int32 → Int32 → Int32 → Int32 → Int32 → Option (Int32 × List Int32 × List Int32)) (zl za zd zb zc : List Int32) (zi : Int32) : Nat → List Int32 → List Int32 → Int32 → Int32 → Int32 → Int32 → Option (Int32 × List Int32 × List Int32)
  | 0, _, _, _, _, _, _ => none
  | n + 1, zj, ze, v1, v3, v4, v5 =>
    if v5 < zi then
      if v5 < (24 : Int32) then
        (f_roomIsFree ze v5 v3 v4).bind fun r142 =>
        if r142 = (0 : Int32) then
          f_placeStay_50 k78 zl za zd zb zc zi n zj ze v1 v3 v4 (v5 + (1 : Int32))
        else
          k78 zj ze v1 v3 v4 v5
      else
        some ((0 : Int32), zj, ze)
    else
      some ((0 : Int32), zj, ze)
def f_placeStay (zl za zd zb zc : List Int32) (zi : Int32) (zj ze : List Int32) (v1 : Int32) : Option (Int32 × List Int32 × List Int32) :=
  (f_isActiveStay za v1).bind fun r136 =>
  if r136 = (0 : Int32) then
    some ((0 : Int32), zj, ze)
  else
    (rdA zd v1).bind fun x137 =>
    (f_isValidType x137).bind fun r138 =>
    if r138 = (0 : Int32) then
      some ((0 : Int32), zj, ze)
    else
      (rdA zb v1).bind fun x139 =>
      (rdA zc v1).bind fun x140 =>
      (rdA zl x137).bind fun x141 =>
      f_placeStay_50 (f_placeStay_78 zl za zd zb zc zi) zl za zd zb zc zi 100000 zj ze v1 x139 x140 x141
def f_assign_58 (zl za zd zb zc : List Int32) (zi : Int32) (zj ze zh : List Int32) (zg zk zp v1 : Int32) : Option (Int32 × List Int32 × List Int32 × List Int32 × Int32 × Int32 × Int32) :=
  some (v1, zj, ze, zh, zg, (1 : Int32), v1)
def f_assign_16 (k58 : List Int32 → List Int32 → List Int32 → Int32 → Int32 → Int32 → Int32 → Option (Int32 × List Int32 × List Int32 × List Int32 × Int32 × Int32 × Int32)) (zl za zd zb zc : List Int32) (zi : Int32) : Nat → List Int32 → List Int32 → List Int32 → Int32 → Int32 → Int32 → Int32 → Int32 → Option (Int32 × List Int32 × List Int32 × List Int32 × Int32 × Int32 × Int32)
  | 0, _, _, _, _, _, _, _, _ => none
  | n + 1, zj, ze, zh, zg, zk, zp, v1, v2 =>
    if v2 < zg then
      if v2 < (32 : Int32) then
        (rdA zh v2).bind fun x152 =>
        (f_placeStay zl za zd zb zc zi zj ze x152).bind fun (r153, s154, s155) =>
        f_assign_16 k58 zl za zd zb zc zi n s154 s155 zh zg zk zp (if r153 = (0 : Int32) then (v1 + (1 : Int32)) else v1) (v2 + (1 : Int32))
      else
        k58 zj ze zh zg zk zp v1
    else
      k58 zj ze zh zg zk zp v1
def f_assign (zl za zd zb zc : List Int32) (zi : Int32) (zj ze zh : List Int32) (zg zk zp : Int32) : Option (Int32 × List Int32 × List Int32 × List Int32 × Int32 × Int32 × Int32) :=
  (f_discardPlan zk).bind fun s145 =>
  (f_clearPlan zj ze zh zg).bind fun (s146, s147, s148, s149) =>
  (f_buildOrder za zb s148 s149).bind fun (s150, s151) =>
  f_assign_16 (f_assign_58 zl za zd zb zc zi) zl za zd zb zc zi 100000 s146 s147 s150 s151 s145 zp (0 : Int32) (0 : Int32)
def f_isAssigned (zk : Int32) : Option (Int32) :=
  some (zk &&& 1)
def f_roomOf (za zj : List Int32) (zk v1 : Int32) : Option (Int32) :=
  (f_isActiveStay za v1).bind fun r156 =>
  if r156 = (0 : Int32) then
    some (-1 : Int32)
  else
    if zk = (0 : Int32) then
      some (-1 : Int32)
    else
      (rdA zj v1).bind fun x157 =>
      some x157
def f_isValidRoom (zi v1 : Int32) : Option (Int32) :=
  some (if v1 < (0 : Int32) then (0 : Int32) else (if v1 < zi then (if v1 < (24 : Int32) then (1 : Int32) else (0 : Int32)) else (0 : Int32)))
def f_roomTypeOf (zl : List Int32) (v1 : Int32) : Option (Int32) :=
  (rdA zl (1 : Int32)).bind fun x158 =>
  if v1 < x158 then
    some (0 : Int32)
  else
    (rdA zl (2 : Int32)).bind fun x159 =>
    some (if v1 < x159 then (1 : Int32) else (2 : Int32))
def f_roomType (zl : List Int32) (zi v1 : Int32) : Option (Int32) :=
  (f_isValidRoom zi v1).bind fun r160 =>
  if r160 = (0 : Int32) then
    some (-1 : Int32)
  else
    (f_roomTypeOf zl v1).bind fun r161 =>
    some r161
def f_L_overlap (v0 v1 v2 v3 : Int32) : Option (Int32) :=
  some (if v0 < (v2 + v3) then (if v2 < (v0 + v1) then (1 : Int32) else (0 : Int32)) else (0 : Int32))
def f_occupant (ze : List Int32) (zi zk v1 v2 : Int32) : Option (Int32) :=
  (f_isValidRoom zi v1).bind fun r162 =>
  if r162 = (0 : Int32) then
    some (-1 : Int32)
  else
    (f_isValidNight v2).bind fun r163 =>
    if r163 = (0 : Int32) then
      some (-1 : Int32)
    else
      if zk = (0 : Int32) then
        some (-1 : Int32)
      else
        (f_gridAt ze v1 v2).bind fun r164 =>
        some r164
def f_L_law_997 (kb : List Int32 → List Int32 → List Int32 → List Int32 → List Int32 → List Int32 → List Int32 → List Int32 → List Int32 → List Int32 → List Int32 → Int32 → Int32 → Int32 → Int32 → Int32 → Int32 → Int32 → Int32 → Int32 → Int32 → Int32 → Int32 → Int32 → Int32 → Option (Int32)) (k873 : List Int32 → List Int32 → List Int32 → List Int32 → List Int32 → List Int32 → List Int32 → List Int32 → List Int32 → List Int32 → List Int32 → Int32 → Int32 → Int32 → Int32 → Int32 → Int32 → Int32 → Int32 → Int32 → Int32 → Int32 → Int32 → Option (Int32)) (scr zt zu zr zw zy zz zaf zag zv zx zaa : List Int32) (zs zae zab zad zac v4 v5 v6 v8 v9 v21 v22 v23 v24 v25 t0 : Int32) : Option (Int32) :=
  if t0 = v25 then
    kb zt zu zr zw zy zz zaf zag zv zx zaa zs zae zab zad zac v4 v5 v6 v8 v9 v21 v22 v23 (v24 + (1 : Int32))
  else
    some (0 : Int32)
def f_L_law_983 (kb : List Int32 → List Int32 → List Int32 → List Int32 → List Int32 → List Int32 → List Int32 → List Int32 → List Int32 → List Int32 → List Int32 → Int32 → Int32 → Int32 → Int32 → Int32 → Int32 → Int32 → Int32 → Int32 → Int32 → Int32 → Int32 → Int32 → Int32 → Option (Int32)) (k873 : List Int32 → List Int32 → List Int32 → List Int32 → List Int32 → List Int32 → List Int32 → List Int32 → List Int32 → List Int32 → List Int32 → Int32 → Int32 → Int32 → Int32 → Int32 → Int32 → Int32 → Int32 → Int32 → Int32 → Int32 → Int32 → Option (Int32)) (scr zt zu zr zw zy zz zaf zag zv zx zaa : List Int32) (zs zae zab zad zac v4 v5 v6 v8 v9 v21 v22 v23 v24 t0 : Int32) : Option (Int32) :=
  f_L_law_997 kb k873 scr zt zu zr zw zy zz zaf zag zv zx zaa zs zae zab zad zac v4 v5 v6 v8 v9 v21 v22 v23 v24 t0 (if v23 = v24 then (1 : Int32) else (0 : Int32))
def f_L_law_924 (k873 : List Int32 → List Int32 → List Int32 → List Int32 → List Int32 → List Int32 → List Int32 → List Int32 → List Int32 → List Int32 → List Int32 → Int32 → Int32 → Int32 → Int32 → Int32 → Int32 → Int32 → Int32 → Int32 → Int32 → Int32 → Int32 → Option (Int32)) (scr : List Int32) : Nat → List Int32 → List Int32 → List Int32 → List Int32 → List Int32 → List Int32 → List Int32 → List Int32 → List Int32 → List Int32 → List Int32 → Int32 → Int32 → Int32 → Int32 → Int32 → Int32 → Int32 → Int32 → Int32 → Int32 → Int32 → Int32 → Int32 → Int32 → Option (Int32)
  | 0, _, _, _, _, _, _, _, _, _, _, _, _, _, _, _, _, _, _, _, _, _, _, _, _, _ => none
  | n + 1, zt, zu, zr, zw, zy, zz, zaf, zag, zv, zx, zaa, zs, zae, zab, zad, zac, v4, v5, v6, v8, v9, v21, v22, v23, v24 =>
    if v24 < (32 : Int32) then
      (f_stayType zr zw v24).bind fun r252 =>
      if r252 < (0 : Int32) then
        f_L_law_924 k873 scr n zt zu zr zw zy zz zaf zag zv zx zaa zs zae zab zad zac v4 v5 v6 v8 v9 v21 v22 v23 (v24 + (1 : Int32))
      else
        (f_roomOf zr zv zad v24).bind fun r253 =>
        if r253 = v21 then
          (f_stayArrive zr zy v24).bind fun r254 =>
          (f_stayNights zr zz v24).bind fun r255 =>
          (f_L_covers r254 r255 v22).bind fun r256 =>
          f_L_law_983 (f_L_law_924 k873 scr n) k873 scr zt zu zr zw zy zz zaf zag zv zx zaa zs zae zab zad zac v4 v5 v6 v8 v9 v21 v22 v23 v24 (if r256 = (0 : Int32) then (0 : Int32) else (1 : Int32))
        else
          f_L_law_983 (f_L_law_924 k873 scr n) k873 scr zt zu zr zw zy zz zaf zag zv zx zaa zs zae zab zad zac v4 v5 v6 v8 v9 v21 v22 v23 v24 (0 : Int32)
    else
      k873 zt zu zr zw zy zz zaf zag zv zx zaa zs zae zab zad zac v4 v5 v6 v8 v9 v21 (v22 + (1 : Int32))
def f_L_law_873 (k863 : List Int32 → List Int32 → List Int32 → List Int32 → List Int32 → List Int32 → List Int32 → List Int32 → List Int32 → List Int32 → List Int32 → Int32 → Int32 → Int32 → Int32 → Int32 → Int32 → Int32 → Int32 → Int32 → Int32 → Int32 → Option (Int32)) (scr : List Int32) : Nat → List Int32 → List Int32 → List Int32 → List Int32 → List Int32 → List Int32 → List Int32 → List Int32 → List Int32 → List Int32 → List Int32 → Int32 → Int32 → Int32 → Int32 → Int32 → Int32 → Int32 → Int32 → Int32 → Int32 → Int32 → Int32 → Option (Int32)
  | 0, _, _, _, _, _, _, _, _, _, _, _, _, _, _, _, _, _, _, _, _, _, _, _ => none
  | n + 1, zt, zu, zr, zw, zy, zz, zaf, zag, zv, zx, zaa, zs, zae, zab, zad, zac, v4, v5, v6, v8, v9, v21, v22 =>
    if v22 < (32 : Int32) then
      (f_occupant zx zs zad v21 v22).bind fun r250 =>
      if r250 = (-1 : Int32) then
        f_L_law_924 (f_L_law_873 k863 scr n) scr 100000 zt zu zr zw zy zz zaf zag zv zx zaa zs zae zab zad zac v4 v5 v6 v8 v9 v21 v22 r250 (0 : Int32)
      else
        if r250 < (0 : Int32) then
          some (0 : Int32)
        else
          if (31 : Int32) < r250 then
            some (0 : Int32)
          else
            (f_stayType zr zw r250).bind fun r251 =>
            if r251 < (0 : Int32) then
              some (0 : Int32)
            else
              f_L_law_924 (f_L_law_873 k863 scr n) scr 100000 zt zu zr zw zy zz zaf zag zv zx zaa zs zae zab zad zac v4 v5 v6 v8 v9 v21 v22 r250 (0 : Int32)
    else
      k863 zt zu zr zw zy zz zaf zag zv zx zaa zs zae zab zad zac v4 v5 v6 v8 v9 (v21 + (1 : Int32))
def f_L_law_863 (k84 : List Int32 → List Int32 → List Int32 → List Int32 → List Int32 → List Int32 → List Int32 → List Int32 → List Int32 → List Int32 → List Int32 → Int32 → Int32 → Int32 → Int32 → Int32 → Int32 → Int32 → Int32 → Int32 → Int32 → Option (Int32)) (scr : List Int32) : Nat → List Int32 → List Int32 → List Int32 → List Int32 → List Int32 → List Int32 → List Int32 → List Int32 → List Int32 → List Int32 → List Int32 → Int32 → Int32 → Int32 → Int32 → Int32 → Int32 → Int32 → Int32 → Int32 → Int32 → Int32 → Option (Int32)
  | 0, _, _, _, _, _, _, _, _, _, _, _, _, _, _, _, _, _, _, _, _, _, _ => none
  | n + 1, zt, zu, zr, zw, zy, zz, zaf, zag, zv, zx, zaa, zs, zae, zab, zad, zac, v4, v5, v6, v8, v9, v21 =>
    if v21 < v4 then
      f_L_law_873 (f_L_law_863 k84 scr n) scr 100000 zt zu zr zw zy zz zaf zag zv zx zaa zs zae zab zad zac v4 v5 v6 v8 v9 v21 (0 : Int32)
    else
      k84 zt zu zr zw zy zz zaf zag zv zx zaa zs zae zab zad zac v4 v5 v6 v8 (v9 + (1 : Int32))
def f_L_law_780 (k719 : List Int32 → List Int32 → List Int32 → List Int32 → List Int32 → List Int32 → List Int32 → List Int32 → List Int32 → List Int32 → List Int32 → Int32 → Int32 → Int32 → Int32 → Int32 → Int32 → Int32 → Int32 → Int32 → Int32 → Int32 → Option (Int32)) (scr : List Int32) : Nat → List Int32 → List Int32 → List Int32 → List Int32 → List Int32 → List Int32 → List Int32 → List Int32 → List Int32 → List Int32 → List Int32 → Int32 → Int32 → Int32 → Int32 → Int32 → Int32 → Int32 → Int32 → Int32 → Int32 → Int32 → Int32 → Int32 → Option (Int32)
  | 0, _, _, _, _, _, _, _, _, _, _, _, _, _, _, _, _, _, _, _, _, _, _, _, _ => none
  | n + 1, zt, zu, zr, zw, zy, zz, zaf, zag, zv, zx, zaa, zs, zae, zab, zad, zac, v4, v5, v6, v8, v9, v21, v23, v24 =>
    if v24 < (32 : Int32) then
      (f_stayType zr zw v24).bind fun r243 =>
      if r243 < (0 : Int32) then
        f_L_law_780 k719 scr n zt zu zr zw zy zz zaf zag zv zx zaa zs zae zab zad zac v4 v5 v6 v8 v9 v21 v23 (v24 + (1 : Int32))
      else
        (f_roomOf zr zv zad v24).bind fun r244 =>
        if r244 = v23 then
          (f_stayArrive zr zy v21).bind fun r245 =>
          (f_stayNights zr zz v21).bind fun r246 =>
          (f_stayArrive zr zy v24).bind fun r247 =>
          (f_stayNights zr zz v24).bind fun r248 =>
          (f_L_overlap r245 r246 r247 r248).bind fun r249 =>
          if r249 = (0 : Int32) then
            f_L_law_780 k719 scr n zt zu zr zw zy zz zaf zag zv zx zaa zs zae zab zad zac v4 v5 v6 v8 v9 v21 v23 (v24 + (1 : Int32))
          else
            some (0 : Int32)
        else
          f_L_law_780 k719 scr n zt zu zr zw zy zz zaf zag zv zx zaa zs zae zab zad zac v4 v5 v6 v8 v9 v21 v23 (v24 + (1 : Int32))
    else
      k719 zt zu zr zw zy zz zaf zag zv zx zaa zs zae zab zad zac v4 v5 v6 v8 v9 (v21 + (1 : Int32))
def f_L_law_719 (k863 : List Int32 → List Int32 → List Int32 → List Int32 → List Int32 → List Int32 → List Int32 → List Int32 → List Int32 → List Int32 → List Int32 → Int32 → Int32 → Int32 → Int32 → Int32 → Int32 → Int32 → Int32 → Int32 → Int32 → Int32 → Option (Int32)) (scr : List Int32) : Nat → List Int32 → List Int32 → List Int32 → List Int32 → List Int32 → List Int32 → List Int32 → List Int32 → List Int32 → List Int32 → List Int32 → Int32 → Int32 → Int32 → Int32 → Int32 → Int32 → Int32 → Int32 → Int32 → Int32 → Int32 → Option (Int32)
  | 0, _, _, _, _, _, _, _, _, _, _, _, _, _, _, _, _, _, _, _, _, _, _ => none
  | n + 1, zt, zu, zr, zw, zy, zz, zaf, zag, zv, zx, zaa, zs, zae, zab, zad, zac, v4, v5, v6, v8, v9, v21 =>
    if v21 < (32 : Int32) then
      (f_stayType zr zw v21).bind fun r240 =>
      if r240 < (0 : Int32) then
        f_L_law_719 k863 scr n zt zu zr zw zy zz zaf zag zv zx zaa zs zae zab zad zac v4 v5 v6 v8 v9 (v21 + (1 : Int32))
      else
        (f_roomOf zr zv zad v21).bind fun r241 =>
        if r241 < (0 : Int32) then
          f_L_law_719 k863 scr n zt zu zr zw zy zz zaf zag zv zx zaa zs zae zab zad zac v4 v5 v6 v8 v9 (v21 + (1 : Int32))
        else
          (f_roomType zu zs r241).bind fun r242 =>
          if r242 < r240 then
            some (0 : Int32)
          else
            f_L_law_780 (f_L_law_719 k863 scr n) scr 100000 zt zu zr zw zy zz zaf zag zv zx zaa zs zae zab zad zac v4 v5 v6 v8 v9 v21 r241 (v21 + (1 : Int32))
    else
      k863 zt zu zr zw zy zz zaf zag zv zx zaa zs zae zab zad zac v4 v5 v6 v8 v9 (0 : Int32)
def f_L_law_708 (kb : List Int32 → List Int32 → List Int32 → List Int32 → List Int32 → List Int32 → List Int32 → List Int32 → List Int32 → List Int32 → List Int32 → Int32 → Int32 → Int32 → Int32 → Int32 → Int32 → Int32 → Int32 → Int32 → Int32 → Option (Int32)) (scr zt zu zr zw zy zz zaf zag zv zx zaa : List Int32) (zs zae zab zad zac v4 v5 v6 v8 v9 : Int32) : Option (Int32) :=
  (f_isAssigned zad).bind fun r239 =>
  if r239 = (0 : Int32) then
    kb zt zu zr zw zy zz zaf zag zv zx zaa zs zae zab zad zac v4 v5 v6 v8 (v9 + (1 : Int32))
  else
    f_L_law_719 (f_L_law_863 kb scr 100000) scr 100000 zt zu zr zw zy zz zaf zag zv zx zaa zs zae zab zad zac v4 v5 v6 v8 v9 (0 : Int32)
def f_L_law_679 (kb : List Int32 → List Int32 → List Int32 → List Int32 → List Int32 → List Int32 → List Int32 → List Int32 → List Int32 → List Int32 → List Int32 → Int32 → Int32 → Int32 → Int32 → Int32 → Int32 → Int32 → Int32 → Int32 → Int32 → Int32 → Option (Int32)) (k708 : List Int32 → List Int32 → List Int32 → List Int32 → List Int32 → List Int32 → List Int32 → List Int32 → List Int32 → List Int32 → List Int32 → Int32 → Int32 → Int32 → Int32 → Int32 → Int32 → Int32 → Int32 → Int32 → Int32 → Option (Int32)) (scr zt zu zr zw zy zz zaf zag zv zx zaa : List Int32) (zs zae zab zad zac v4 v5 v6 v8 v9 v21 v22 v23 v24 : Int32) : Option (Int32) :=
  if v4 < v22 then
    some (0 : Int32)
  else
    if v5 < v23 then
      some (0 : Int32)
    else
      if v6 < v24 then
        some (0 : Int32)
      else
        kb zt zu zr zw zy zz zaf zag zv zx zaa zs zae zab zad zac v4 v5 v6 v8 v9 (v21 + (1 : Int32))
def f_L_law_664 (kb : List Int32 → List Int32 → List Int32 → List Int32 → List Int32 → List Int32 → List Int32 → List Int32 → List Int32 → List Int32 → List Int32 → Int32 → Int32 → Int32 → Int32 → Int32 → Int32 → Int32 → Int32 → Int32 → Int32 → Int32 → Int32 → Int32 → Int32 → Int32 → Option (Int32)) (k679 : List Int32 → List Int32 → List Int32 → List Int32 → List Int32 → List Int32 → List Int32 → List Int32 → List Int32 → List Int32 → List Int32 → Int32 → Int32 → Int32 → Int32 → Int32 → Int32 → Int32 → Int32 → Int32 → Int32 → Int32 → Int32 → Int32 → Int32 → Option (Int32)) (scr zt zu zr zw zy zz zaf zag zv zx zaa : List Int32) (zs zae zab zad zac v4 v5 v6 v8 v9 v21 v22 v23 v24 v25 v26 : Int32) : Option (Int32) :=
  kb zt zu zr zw zy zz zaf zag zv zx zaa zs zae zab zad zac v4 v5 v6 v8 v9 v21 v22 v23 (if v26 < (2 : Int32) then v24 else (v24 + (1 : Int32))) (v25 + (1 : Int32))
def f_L_law_606 (k679 : List Int32 → List Int32 → List Int32 → List Int32 → List Int32 → List Int32 → List Int32 → List Int32 → List Int32 → List Int32 → List Int32 → Int32 → Int32 → Int32 → Int32 → Int32 → Int32 → Int32 → Int32 → Int32 → Int32 → Int32 → Int32 → Int32 → Int32 → Option (Int32)) (scr : List Int32) : Nat → List Int32 → List Int32 → List Int32 → List Int32 → List Int32 → List Int32 → List Int32 → List Int32 → List Int32 → List Int32 → List Int32 → Int32 → Int32 → Int32 → Int32 → Int32 → Int32 → Int32 → Int32 → Int32 → Int32 → Int32 → Int32 → Int32 → Int32 → Int32 → Option (Int32)
  | 0, _, _, _, _, _, _, _, _, _, _, _, _, _, _, _, _, _, _, _, _, _, _, _, _, _, _ => none
  | n + 1, zt, zu, zr, zw, zy, zz, zaf, zag, zv, zx, zaa, zs, zae, zab, zad, zac, v4, v5, v6, v8, v9, v21, v22, v23, v24, v25 =>
    if v25 < (32 : Int32) then
      (f_stayType zr zw v25).bind fun r235 =>
      if r235 < (0 : Int32) then
        f_L_law_606 k679 scr n zt zu zr zw zy zz zaf zag zv zx zaa zs zae zab zad zac v4 v5 v6 v8 v9 v21 v22 v23 v24 (v25 + (1 : Int32))
      else
        (f_stayArrive zr zy v25).bind fun r236 =>
        (f_stayNights zr zz v25).bind fun r237 =>
        (f_L_covers r236 r237 v21).bind fun r238 =>
        if r238 = (0 : Int32) then
          f_L_law_606 k679 scr n zt zu zr zw zy zz zaf zag zv zx zaa zs zae zab zad zac v4 v5 v6 v8 v9 v21 v22 v23 v24 (v25 + (1 : Int32))
        else
          f_L_law_664 (f_L_law_606 k679 scr n) k679 scr zt zu zr zw zy zz zaf zag zv zx zaa zs zae zab zad zac v4 v5 v6 v8 v9 v21 (v22 + (1 : Int32)) (if r235 < (1 : Int32) then v23 else (v23 + (1 : Int32))) v24 v25 r235
    else
      k679 zt zu zr zw zy zz zaf zag zv zx zaa zs zae zab zad zac v4 v5 v6 v8 v9 v21 v22 v23 v24
def f_L_law_587 (k708 : List Int32 → List Int32 → List Int32 → List Int32 → List Int32 → List Int32 → List Int32 → List Int32 → List Int32 → List Int32 → List Int32 → Int32 → Int32 → Int32 → Int32 → Int32 → Int32 → Int32 → Int32 → Int32 → Int32 → Option (Int32)) (scr : List Int32) : Nat → List Int32 → List Int32 → List Int32 → List Int32 → List Int32 → List Int32 → List Int32 → List Int32 → List Int32 → List Int32 → List Int32 → Int32 → Int32 → Int32 → Int32 → Int32 → Int32 → Int32 → Int32 → Int32 → Int32 → Int32 → Option (Int32)
  | 0, _, _, _, _, _, _, _, _, _, _, _, _, _, _, _, _, _, _, _, _, _, _ => none
  | n + 1, zt, zu, zr, zw, zy, zz, zaf, zag, zv, zx, zaa, zs, zae, zab, zad, zac, v4, v5, v6, v8, v9, v21 =>
    if v21 < (32 : Int32) then
      f_L_law_606 (f_L_law_679 (f_L_law_587 k708 scr n) k708 scr) scr 100000 zt zu zr zw zy zz zaf zag zv zx zaa zs zae zab zad zac v4 v5 v6 v8 v9 v21 (0 : Int32) (0 : Int32) (0 : Int32) (0 : Int32)
    else
      k708 zt zu zr zw zy zz zaf zag zv zx zaa zs zae zab zad zac v4 v5 v6 v8 v9
def f_L_law_554 (kb : List Int32 → List Int32 → List Int32 → List Int32 → List Int32 → List Int32 → List Int32 → List Int32 → List Int32 → List Int32 → List Int32 → Int32 → Int32 → Int32 → Int32 → Int32 → Int32 → Int32 → Int32 → Int32 → Int32 → Option (Int32)) (scr zt zu zr zw zy zz zaf zag zv zx zaa : List Int32) (zs zae zab zad zac v4 v5 v6 v8 v9 v20 t0 : Int32) : Option (Int32) :=
  if t0 = v20 then
    f_L_law_587 (f_L_law_708 kb scr) scr 100000 zt zu zr zw zy zz zaf zag zv zx zaa zs zae zab zad zac v4 v5 v6 v8 v9 (0 : Int32)
  else
    some (0 : Int32)
def f_L_law_520 (kb : List Int32 → List Int32 → List Int32 → List Int32 → List Int32 → List Int32 → List Int32 → List Int32 → List Int32 → List Int32 → List Int32 → Int32 → Int32 → Int32 → Int32 → Int32 → Int32 → Int32 → Int32 → Int32 → Int32 → Option (Int32)) (scr zt zu zr zw zy zz zaf zag zv zx zaa : List Int32) (zs zae zab zad zac v4 v5 v6 v8 v9 v20 t0 : Int32) : Option (Int32) :=
  if t0 = v20 then
    f_L_law_587 (f_L_law_708 kb scr) scr 100000 zt zu zr zw zy zz zaf zag zv zx zaa zs zae zab zad zac v4 v5 v6 v8 v9 (0 : Int32)
  else
    some (0 : Int32)
def f_L_law_495 (kb : List Int32 → List Int32 → List Int32 → List Int32 → List Int32 → List Int32 → List Int32 → List Int32 → List Int32 → List Int32 → List Int32 → Int32 → Int32 → Int32 → Int32 → Int32 → Int32 → Int32 → Int32 → Int32 → Int32 → Option (Int32)) (scr zt zu zr zw zy zz zaf zag zv zx zaa : List Int32) (zs zae zab zad zac v4 v5 v6 v8 v9 v11 v15 v16 v17 v18 v20 : Int32) : Option (Int32) :=
  if (3 : Int32) < v11 then
    if v11 = (4 : Int32) then
      (f_amend zt zr zw zy zz zaf zag zad v18 v15 v16 v17).bind fun (r219, s220, s221, s222, s223, s224, s225) =>
      f_L_law_554 kb scr zt zu zr s220 s221 s222 s223 s224 zv zx zaa zs zae zab s225 zac v4 v5 v6 v8 v9 v20 (if r219 = (0 : Int32) then (1 : Int32) else (0 : Int32))
    else
      if v11 = (5 : Int32) then
        (f_cancel zr zw zy zz zaf zag zae zad v18).bind fun (r210, s211, s212, s213, s214, s215, s216, s217, s218) =>
        f_L_law_587 (f_L_law_708 kb scr) scr 100000 zt zu s211 s212 s213 s214 s215 s216 zv zx zaa zs s217 zab s218 zac v4 v5 v6 v8 v9 (0 : Int32)
      else
        (f_assign zu zr zw zy zz zs zv zx zaa zab zad zac).bind fun (r203, s204, s205, s206, s207, s208, s209) =>
        f_L_law_587 (f_L_law_708 kb scr) scr 100000 zt zu zr zw zy zz zaf zag s204 s205 s206 zs zae s207 s208 s209 v4 v5 v6 v8 v9 (0 : Int32)
  else
    (f_book zt zr zw zy zz zaf zag zae zad v15 v16 v17).bind fun (r226, s227, s228, s229, s230, s231, s232, s233, s234) =>
    f_L_law_520 kb scr zt zu s227 s228 s229 s230 s231 s232 zv zx zaa zs s233 zab s234 zac v4 v5 v6 v8 v9 v20 (if r226 < (0 : Int32) then (0 : Int32) else (1 : Int32))
def f_L_law_423 (kb : List Int32 → List Int32 → List Int32 → List Int32 → List Int32 → List Int32 → List Int32 → List Int32 → List Int32 → List Int32 → List Int32 → Int32 → Int32 → Int32 → Int32 → Int32 → Int32 → Int32 → Int32 → Int32 → Int32 → Option (Int32)) (scr zt zu zr zw zy zz zaf zag zv zx zaa : List Int32) (zs zae zab zad zac v4 v5 v6 v8 v9 v11 v15 v16 v17 v18 v19 v22 v23 : Int32) : Option (Int32) :=
  if (3 : Int32) < v11 then
    if v18 < (0 : Int32) then
      f_L_law_495 kb scr zt zu zr zw zy zz zaf zag zv zx zaa zs zae zab zad zac v4 v5 v6 v8 v9 v11 v15 v16 v17 v18 (0 : Int32)
    else
      if (31 : Int32) < v18 then
        f_L_law_495 kb scr zt zu zr zw zy zz zaf zag zv zx zaa zs zae zab zad zac v4 v5 v6 v8 v9 v11 v15 v16 v17 v18 (0 : Int32)
      else
        (f_stayType zr zw v18).bind fun r202 =>
        f_L_law_495 kb scr zt zu zr zw zy zz zaf zag zv zx zaa zs zae zab zad zac v4 v5 v6 v8 v9 v11 v15 v16 v17 v18 (if r202 < (0 : Int32) then (0 : Int32) else (if v19 = (0 : Int32) then (0 : Int32) else (if v23 = (0 : Int32) then (0 : Int32) else (1 : Int32))))
  else
    f_L_law_495 kb scr zt zu zr zw zy zz zaf zag zv zx zaa zs zae zab zad zac v4 v5 v6 v8 v9 v11 v15 v16 v17 v18 (if v19 = (0 : Int32) then (0 : Int32) else (if v22 < (32 : Int32) then (if v23 = (0 : Int32) then (0 : Int32) else (1 : Int32)) else (0 : Int32)))
def f_L_law_393 (kb : List Int32 → List Int32 → List Int32 → List Int32 → List Int32 → List Int32 → List Int32 → List Int32 → List Int32 → List Int32 → List Int32 → Int32 → Int32 → Int32 → Int32 → Int32 → Int32 → Int32 → Int32 → Int32 → Int32 → Int32 → Int32 → Int32 → Int32 → Int32 → Int32 → Int32 → Int32 → Int32 → Int32 → Option (Int32)) (k423 : List Int32 → List Int32 → List Int32 → List Int32 → List Int32 → List Int32 → List Int32 → List Int32 → List Int32 → List Int32 → List Int32 → Int32 → Int32 → Int32 → Int32 → Int32 → Int32 → Int32 → Int32 → Int32 → Int32 → Int32 → Int32 → Int32 → Int32 → Int32 → Int32 → Int32 → Int32 → Option (Int32)) (scr zt zu zr zw zy zz zaf zag zv zx zaa : List Int32) (zs zae zab zad zac v4 v5 v6 v8 v9 v11 v15 v16 v17 v18 v19 v21 v22 v23 v24 v25 v26 v27 : Int32) : Option (Int32) :=
  kb zt zu zr zw zy zz zaf zag zv zx zaa zs zae zab zad zac v4 v5 v6 v8 v9 v11 v15 v16 v17 v18 v19 v21 v22 (if v4 < v25 then (0 : Int32) else (if v5 < v26 then (0 : Int32) else (if v6 < v27 then (0 : Int32) else v23))) (v24 + (1 : Int32))
def f_L_law_384 (kb : List Int32 → List Int32 → List Int32 → List Int32 → List Int32 → List Int32 → List Int32 → List Int32 → List Int32 → List Int32 → List Int32 → Int32 → Int32 → Int32 → Int32 → Int32 → Int32 → Int32 → Int32 → Int32 → Int32 → Int32 → Int32 → Int32 → Int32 → Int32 → Int32 → Int32 → Int32 → Int32 → Int32 → Option (Int32)) (k423 : List Int32 → List Int32 → List Int32 → List Int32 → List Int32 → List Int32 → List Int32 → List Int32 → List Int32 → List Int32 → List Int32 → Int32 → Int32 → Int32 → Int32 → Int32 → Int32 → Int32 → Int32 → Int32 → Int32 → Int32 → Int32 → Int32 → Int32 → Int32 → Int32 → Int32 → Int32 → Option (Int32)) (scr zt zu zr zw zy zz zaf zag zv zx zaa : List Int32) (zs zae zab zad zac v4 v5 v6 v8 v9 v11 v15 v16 v17 v18 v19 v21 v22 v23 v24 v25 v26 v27 : Int32) : Option (Int32) :=
  f_L_law_393 kb k423 scr zt zu zr zw zy zz zaf zag zv zx zaa zs zae zab zad zac v4 v5 v6 v8 v9 v11 v15 v16 v17 v18 v19 v21 v22 v23 v24 v25 v26 (if v15 < (2 : Int32) then v27 else (v27 + (1 : Int32)))
def f_L_law_355 (kb : List Int32 → List Int32 → List Int32 → List Int32 → List Int32 → List Int32 → List Int32 → List Int32 → List Int32 → List Int32 → List Int32 → Int32 → Int32 → Int32 → Int32 → Int32 → Int32 → Int32 → Int32 → Int32 → Int32 → Int32 → Int32 → Int32 → Int32 → Int32 → Int32 → Int32 → Int32 → Int32 → Int32 → Option (Int32)) (k423 : List Int32 → List Int32 → List Int32 → List Int32 → List Int32 → List Int32 → List Int32 → List Int32 → List Int32 → List Int32 → List Int32 → Int32 → Int32 → Int32 → Int32 → Int32 → Int32 → Int32 → Int32 → Int32 → Int32 → Int32 → Int32 → Int32 → Int32 → Int32 → Int32 → Int32 → Int32 → Option (Int32)) (scr zt zu zr zw zy zz zaf zag zv zx zaa : List Int32) (zs zae zab zad zac v4 v5 v6 v8 v9 v11 v15 v16 v17 v18 v19 v21 v22 v23 v24 v25 v26 v27 : Int32) : Option (Int32) :=
  if v19 = (0 : Int32) then
    f_L_law_393 kb k423 scr zt zu zr zw zy zz zaf zag zv zx zaa zs zae zab zad zac v4 v5 v6 v8 v9 v11 v15 v16 v17 v18 v19 v21 v22 v23 v24 v25 v26 v27
  else
    (f_L_covers v16 v17 v24).bind fun r201 =>
    if r201 = (0 : Int32) then
      f_L_law_393 kb k423 scr zt zu zr zw zy zz zaf zag zv zx zaa zs zae zab zad zac v4 v5 v6 v8 v9 v11 v15 v16 v17 v18 v19 v21 v22 v23 v24 v25 v26 v27
    else
      f_L_law_384 kb k423 scr zt zu zr zw zy zz zaf zag zv zx zaa zs zae zab zad zac v4 v5 v6 v8 v9 v11 v15 v16 v17 v18 v19 v21 v22 v23 v24 (v25 + (1 : Int32)) (if v15 < (1 : Int32) then v26 else (v26 + (1 : Int32))) v27
def f_L_law_340 (kb : List Int32 → List Int32 → List Int32 → List Int32 → List Int32 → List Int32 → List Int32 → List Int32 → List Int32 → List Int32 → List Int32 → Int32 → Int32 → Int32 → Int32 → Int32 → Int32 → Int32 → Int32 → Int32 → Int32 → Int32 → Int32 → Int32 → Int32 → Int32 → Int32 → Int32 → Int32 → Int32 → Int32 → Int32 → Int32 → Int32 → Int32 → Option (Int32)) (k355 : List Int32 → List Int32 → List Int32 → List Int32 → List Int32 → List Int32 → List Int32 → List Int32 → List Int32 → List Int32 → List Int32 → Int32 → Int32 → Int32 → Int32 → Int32 → Int32 → Int32 → Int32 → Int32 → Int32 → Int32 → Int32 → Int32 → Int32 → Int32 → Int32 → Int32 → Int32 → Int32 → Int32 → Int32 → Int32 → Int32 → Option (Int32)) (scr zt zu zr zw zy zz zaf zag zv zx zaa : List Int32) (zs zae zab zad zac v4 v5 v6 v8 v9 v11 v15 v16 v17 v18 v19 v21 v22 v23 v24 v25 v26 v27 v28 v29 : Int32) : Option (Int32) :=
  kb zt zu zr zw zy zz zaf zag zv zx zaa zs zae zab zad zac v4 v5 v6 v8 v9 v11 v15 v16 v17 v18 v19 v21 v22 v23 v24 v25 v26 (if v29 < (2 : Int32) then v27 else (v27 + (1 : Int32))) (v28 + (1 : Int32))
def f_L_law_296 (kb : List Int32 → List Int32 → List Int32 → List Int32 → List Int32 → List Int32 → List Int32 → List Int32 → List Int32 → List Int32 → List Int32 → Int32 → Int32 → Int32 → Int32 → Int32 → Int32 → Int32 → Int32 → Int32 → Int32 → Int32 → Int32 → Int32 → Int32 → Int32 → Int32 → Int32 → Int32 → Int32 → Int32 → Int32 → Int32 → Int32 → Int32 → Option (Int32)) (k355 : List Int32 → List Int32 → List Int32 → List Int32 → List Int32 → List Int32 → List Int32 → List Int32 → List Int32 → List Int32 → List Int32 → Int32 → Int32 → Int32 → Int32 → Int32 → Int32 → Int32 → Int32 → Int32 → Int32 → Int32 → Int32 → Int32 → Int32 → Int32 → Int32 → Int32 → Int32 → Int32 → Int32 → Int32 → Int32 → Int32 → Option (Int32)) (scr zt zu zr zw zy zz zaf zag zv zx zaa : List Int32) (zs zae zab zad zac v4 v5 v6 v8 v9 v11 v15 v16 v17 v18 v19 v21 v22 v23 v24 v25 v26 v27 v28 v29 : Int32) : Option (Int32) :=
  if v28 = v21 then
    kb zt zu zr zw zy zz zaf zag zv zx zaa zs zae zab zad zac v4 v5 v6 v8 v9 v11 v15 v16 v17 v18 v19 v21 v22 v23 v24 v25 v26 v27 (v28 + (1 : Int32))
  else
    (f_stayArrive zr zy v28).bind fun r198 =>
    (f_stayNights zr zz v28).bind fun r199 =>
    (f_L_covers r198 r199 v24).bind fun r200 =>
    if r200 = (0 : Int32) then
      kb zt zu zr zw zy zz zaf zag zv zx zaa zs zae zab zad zac v4 v5 v6 v8 v9 v11 v15 v16 v17 v18 v19 v21 v22 v23 v24 v25 v26 v27 (v28 + (1 : Int32))
    else
      f_L_law_340 kb k355 scr zt zu zr zw zy zz zaf zag zv zx zaa zs zae zab zad zac v4 v5 v6 v8 v9 v11 v15 v16 v17 v18 v19 v21 v22 v23 v24 (v25 + (1 : Int32)) (if v29 < (1 : Int32) then v26 else (v26 + (1 : Int32))) v27 v28 v29
def f_L_law_264 (k355 : List Int32 → List Int32 → List Int32 → List Int32 → List Int32 → List Int32 → List Int32 → List Int32 → List Int32 → List Int32 → List Int32 → Int32 → Int32 → Int32 → Int32 → Int32 → Int32 → Int32 → Int32 → Int32 → Int32 → Int32 → Int32 → Int32 → Int32 → Int32 → Int32 → Int32 → Int32 → Int32 → Int32 → Int32 → Int32 → Int32 → Option (Int32)) (scr : List Int32) : Nat → List Int32 → List Int32 → List Int32 → List Int32 → List Int32 → List Int32 → List Int32 → List Int32 → List Int32 → List Int32 → List Int32 → Int32 → Int32 → Int32 → Int32 → Int32 → Int32 → Int32 → Int32 → Int32 → Int32 → Int32 → Int32 → Int32 → Int32 → Int32 → Int32 → Int32 → Int32 → Int32 → Int32 → Int32 → Int32 → Int32 → Int32 → Option (Int32)
  | 0, _, _, _, _, _, _, _, _, _, _, _, _, _, _, _, _, _, _, _, _, _, _, _, _, _, _, _, _, _, _, _, _, _, _, _ => none
  | n + 1, zt, zu, zr, zw, zy, zz, zaf, zag, zv, zx, zaa, zs, zae, zab, zad, zac, v4, v5, v6, v8, v9, v11, v15, v16, v17, v18, v19, v21, v22, v23, v24, v25, v26, v27, v28 =>
    if v28 < (32 : Int32) then
      (f_stayType zr zw v28).bind fun r197 =>
      if r197 < (0 : Int32) then
        f_L_law_264 k355 scr n zt zu zr zw zy zz zaf zag zv zx zaa zs zae zab zad zac v4 v5 v6 v8 v9 v11 v15 v16 v17 v18 v19 v21 v22 v23 v24 v25 v26 v27 (v28 + (1 : Int32))
      else
        f_L_law_296 (f_L_law_264 k355 scr n) k355 scr zt zu zr zw zy zz zaf zag zv zx zaa zs zae zab zad zac v4 v5 v6 v8 v9 v11 v15 v16 v17 v18 v19 v21 (if v24 = (0 : Int32) then (v22 + (1 : Int32)) else v22) v23 v24 v25 v26 v27 v28 r197
    else
      k355 zt zu zr zw zy zz zaf zag zv zx zaa zs zae zab zad zac v4 v5 v6 v8 v9 v11 v15 v16 v17 v18 v19 v21 v22 v23 v24 v25 v26 v27
def f_L_law_245 (k423 : List Int32 → List Int32 → List Int32 → List Int32 → List Int32 → List Int32 → List Int32 → List Int32 → List Int32 → List Int32 → List Int32 → Int32 → Int32 → Int32 → Int32 → Int32 → Int32 → Int32 → Int32 → Int32 → Int32 → Int32 → Int32 → Int32 → Int32 → Int32 → Int32 → Int32 → Int32 → Option (Int32)) (scr : List Int32) : Nat → List Int32 → List Int32 → List Int32 → List Int32 → List Int32 → List Int32 → List Int32 → List Int32 → List Int32 → List Int32 → List Int32 → Int32 → Int32 → Int32 → Int32 → Int32 → Int32 → Int32 → Int32 → Int32 → Int32 → Int32 → Int32 → Int32 → Int32 → Int32 → Int32 → Int32 → Int32 → Int32 → Int32 → Option (Int32)
  | 0, _, _, _, _, _, _, _, _, _, _, _, _, _, _, _, _, _, _, _, _, _, _, _, _, _, _, _, _, _, _, _ => none
  | n + 1, zt, zu, zr, zw, zy, zz, zaf, zag, zv, zx, zaa, zs, zae, zab, zad, zac, v4, v5, v6, v8, v9, v11, v15, v16, v17, v18, v19, v21, v22, v23, v24 =>
    if v24 < (32 : Int32) then
      f_L_law_264 (f_L_law_355 (f_L_law_245 k423 scr n) k423 scr) scr 100000 zt zu zr zw zy zz zaf zag zv zx zaa zs zae zab zad zac v4 v5 v6 v8 v9 v11 v15 v16 v17 v18 v19 v21 v22 v23 v24 (0 : Int32) (0 : Int32) (0 : Int32) (0 : Int32)
    else
      k423 zt zu zr zw zy zz zaf zag zv zx zaa zs zae zab zad zac v4 v5 v6 v8 v9 v11 v15 v16 v17 v18 v19 v22 v23
def f_L_law_234 (kb : List Int32 → List Int32 → List Int32 → List Int32 → List Int32 → List Int32 → List Int32 → List Int32 → List Int32 → List Int32 → List Int32 → Int32 → Int32 → Int32 → Int32 → Int32 → Int32 → Int32 → Int32 → Int32 → Int32 → Option (Int32)) (scr zt zu zr zw zy zz zaf zag zv zx zaa : List Int32) (zs zae zab zad zac v4 v5 v6 v8 v9 v11 v15 v16 v17 v18 v19 t0 : Int32) : Option (Int32) :=
  f_L_law_245 (f_L_law_423 kb scr) scr 100000 zt zu zr zw zy zz zaf zag zv zx zaa zs zae zab zad zac v4 v5 v6 v8 v9 v11 v15 v16 v17 v18 v19 t0 (0 : Int32) (1 : Int32) (0 : Int32)
def f_L_law_174 (kb : List Int32 → List Int32 → List Int32 → List Int32 → List Int32 → List Int32 → List Int32 → List Int32 → List Int32 → List Int32 → List Int32 → Int32 → Int32 → Int32 → Int32 → Int32 → Int32 → Int32 → Int32 → Int32 → Int32 → Option (Int32)) (scr zt zu zr zw zy zz zaf zag zv zx zaa : List Int32) (zs zae zab zad zac v4 v5 v6 v8 v9 v11 v12 v13 v14 t0 : Int32) : Option (Int32) :=
  (f_L_valid t0 (v13 % (33 : Int32)) (v14 % (9 : Int32))).bind fun r196 =>
  if (4 : Int32) < v11 then
    f_L_law_495 kb scr zt zu zr zw zy zz zaf zag zv zx zaa zs zae zab zad zac v4 v5 v6 v8 v9 v11 t0 (v13 % (33 : Int32)) (v14 % (9 : Int32)) (((v12 / (7 : Int32)) % (34 : Int32)) - (1 : Int32)) (0 : Int32)
  else
    f_L_law_234 kb scr zt zu zr zw zy zz zaf zag zv zx zaa zs zae zab zad zac v4 v5 v6 v8 v9 v11 t0 (v13 % (33 : Int32)) (v14 % (9 : Int32)) (((v12 / (7 : Int32)) % (34 : Int32)) - (1 : Int32)) r196 (if v11 = (4 : Int32) then (((v12 / (7 : Int32)) % (34 : Int32)) - (1 : Int32)) else (-1 : Int32))
def f_L_law_84 (scr : List Int32) : Nat → List Int32 → List Int32 → List Int32 → List Int32 → List Int32 → List Int32 → List Int32 → List Int32 → List Int32 → List Int32 → List Int32 → Int32 → Int32 → Int32 → Int32 → Int32 → Int32 → Int32 → Int32 → Int32 → Int32 → Option (Int32)
  | 0, _, _, _, _, _, _, _, _, _, _, _, _, _, _, _, _, _, _, _, _, _ => none
  | n + 1, zt, zu, zr, zw, zy, zz, zaf, zag, zv, zx, zaa, zs, zae, zab, zad, zac, v4, v5, v6, v8, v9 =>
    if v9 < v8 then
      (f_L_cell scr ((3 : Int32) + ((4 : Int32) * v9))).bind fun r188 =>
      (f_L_m r188).bind fun r189 =>
      (f_L_cell scr (((3 : Int32) + ((4 : Int32) * v9)) + (1 : Int32))).bind fun r190 =>
      (f_L_m r190).bind fun r191 =>
      (f_L_cell scr (((3 : Int32) + ((4 : Int32) * v9)) + (2 : Int32))).bind fun r192 =>
      (f_L_m r192).bind fun r193 =>
      (f_L_cell scr (((3 : Int32) + ((4 : Int32) * v9)) + (3 : Int32))).bind fun r194 =>
      (f_L_m r194).bind fun r195 =>
      f_L_law_174 (f_L_law_84 scr n) scr zt zu zr zw zy zz zaf zag zv zx zaa zs zae zab zad zac v4 v5 v6 v8 v9 (r189 % (8 : Int32)) r191 r193 r195 (if (r191 % (7 : Int32)) < (6 : Int32) then ((r191 % (7 : Int32)) % (3 : Int32)) else (3 : Int32))
    else
      some (1 : Int32)
def f_L_law (scr : List Int32) : Option (Int32) :=
  (f_L_cell scr (0 : Int32)).bind fun r165 =>
  (f_L_m r165).bind fun r166 =>
  (f_L_cell scr (1 : Int32)).bind fun r167 =>
  (f_L_m r167).bind fun r168 =>
  (f_L_cell scr (2 : Int32)).bind fun r169 =>
  (f_L_m r169).bind fun r170 =>
  (f_init (r166 % (4 : Int32)) (r168 % (4 : Int32)) (r170 % (4 : Int32))).bind fun (s171, s172, s173, s174, s175, s176, s177, s178, s179, s180, s181, s182, s183, s184, s185, s186, s187) =>
  f_L_law_84 scr 100000 s172 s173 s174 s175 s176 s177 s178 s179 s180 s181 s182 s183 s184 s185 s186 s187 (((r166 % (4 : Int32)) + (r168 % (4 : Int32))) + (r170 % (4 : Int32))) ((r168 % (4 : Int32)) + (r170 % (4 : Int32))) (r170 % (4 : Int32)) (if (150 : Int32) < ((scr.length.toInt32 / (4 : Int32)) + (1 : Int32)) then (150 : Int32) else ((scr.length.toInt32 / (4 : Int32)) + (1 : Int32))) (0 : Int32)
set_option maxHeartbeats 4000000
set_option maxRecDepth 10000
abbrev qi (x : Int32) : Slot := .val (.int x)
abbrev ql (x : Int64) : Slot := .val (.long x)
abbrev qr (x : Nat) : Slot := .val (.ref x)
abbrev qu : Slot := .unset
abbrev qw : Slot := .second
abbrev qa (l : List Int32) : ACell := .inr (.inl (false, l))
theorem ok_L_cell {scr : List Int32} {po : List ACell} {v1 res : Int32} (h : f_L_cell scr v1 = some res) : OEnds own_P 1 0 [qr 0, qi v1] [] (qa scr :: po) (some (.int res), (qa scr :: po), 0, 0) := by
  unfold f_L_cell at h
  refine OEnds.adv hm_1 3 (pc' := 3) (L' := [qr 0, qi v1]) (S' := [.int scr.length.toInt32, .int v1]) (H' := (qa scr :: po)) rfl ?_
  by_cases hc1 : v1 < scr.length.toInt32
  · simp only [if_pos hc1] at h
    refine OEnds.icmpF hm_1 rfl ((tlt hc1).2.1) ?_
    refine OEnds.adv hm_1 2 (pc' := 8) (L' := [qr 0, qi v1]) (S' := [.int v1, .ref 0]) (H' := (qa scr :: po)) rfl ?_
    obtain ⟨x1, hx1, h⟩ := bnd h
    refine OEnds.plain hm_1 rfl rfl (x_iaload rfl hx1) ?_
    refine OEnds.adv hm_1 1 (pc' := 13) (L' := [qr 0, qi v1]) (S' := [.int x1]) (H' := (qa scr :: po)) rfl ?_
    cases h
    exact OEnds.iret hm_1 rfl rfl
  · simp only [if_neg hc1] at h
    refine OEnds.icmpT hm_1 rfl (q := 12) rfl ((flt hc1).2.1) ?_
    refine OEnds.adv hm_1 1 (pc' := 13) (L' := [qr 0, qi v1]) (S' := [.int 0]) (H' := (qa scr :: po)) rfl ?_
    cases h
    exact OEnds.iret hm_1 rfl rfl
theorem ok_L_m {c0 : ACell} {po : List ACell} {v0 res : Int32} (h : f_L_m v0 = some res) : OEnds own_P 2 0 [qi v0] [] (c0 :: po) (some (.int res), (c0 :: po), 0, 0) := by
  unfold f_L_m at h
  refine OEnds.adv hm_2 3 (pc' := 4) (L' := [qi v0]) (S' := [.int (v0 &&& (2147483647 : Int32))]) (H' := (c0 :: po)) rfl ?_
  obtain rfl := Option.some.inj h
  exact OEnds.iret hm_2 rfl rfl
theorem ok_clampRooms {zq zo zl za zd zb zc zm zf zj ze zh : List Int32} {zi zn zg zk zp : Int32} {c0 : ACell} {po : List ACell} {v1 res : Int32} (h : f_clampRooms v1 = some res) : OEnds own_P 4 0 [qr 1, qi v1] [] (c0 :: bk0 zq zo zl za zd zb zc zm zf zj ze zh zi zn zg zk zp po) (some (.int res), (c0 :: bk0 zq zo zl za zd zb zc zm zf zj ze zh zi zn zg zk zp po), 0, 0) := by
  unfold f_clampRooms at h
  refine OEnds.adv hm_4 1 (pc' := 1) (L' := [qr 1, qi v1]) (S' := [.int v1]) (H' := (c0 :: bk0 zq zo zl za zd zb zc zm zf zj ze zh zi zn zg zk zp po)) rfl ?_
  by_cases hc2 : v1 < (0 : Int32)
  · simp only [if_pos hc2] at h
    refine OEnds.ifF hm_4 rfl ((tlt hc2).2.1) ?_
    refine OEnds.adv hm_4 1 (pc' := 5) (L' := [qr 1, qi v1]) (S' := [.int 0]) (H' := (c0 :: bk0 zq zo zl za zd zb zc zm zf zj ze zh zi zn zg zk zp po)) rfl ?_
    cases h
    exact OEnds.iret hm_4 rfl rfl
  · simp only [if_neg hc2] at h
    refine OEnds.ifT hm_4 rfl (q := 6) rfl ((flt hc2).2.1) ?_
    refine OEnds.adv hm_4 2 (pc' := 9) (L' := [qr 1, qi v1]) (S' := [.int 8, .int v1]) (H' := (c0 :: bk0 zq zo zl za zd zb zc zm zf zj ze zh zi zn zg zk zp po)) rfl ?_
    by_cases hc3 : (8 : Int32) < v1
    · simp only [if_pos hc3] at h
      refine OEnds.icmpF hm_4 rfl ((tlt hc3).2.2.2) ?_
      refine OEnds.adv hm_4 1 (pc' := 14) (L' := [qr 1, qi v1]) (S' := [.int 8]) (H' := (c0 :: bk0 zq zo zl za zd zb zc zm zf zj ze zh zi zn zg zk zp po)) rfl ?_
      cases h
      exact OEnds.iret hm_4 rfl rfl
    · simp only [if_neg hc3] at h
      refine OEnds.icmpT hm_4 rfl (q := 15) rfl ((flt hc3).2.2.2) ?_
      refine OEnds.adv hm_4 1 (pc' := 16) (L' := [qr 1, qi v1]) (S' := [.int v1]) (H' := (c0 :: bk0 zq zo zl za zd zb zc zm zf zj ze zh zi zn zg zk zp po)) rfl ?_
      cases h
      exact OEnds.iret hm_4 rfl rfl
theorem ok_computeRoomTables {zq za zd zb zc zm zf zj ze zh : List Int32} {zn zg zk zp : Int32} {c0 : ACell} {po : List ACell} {zo zl : List Int32} {zi : Int32} {w_o_roomsAtLeast w_o_firstRoomOfType : List Int32} {w_o_totalRooms : Int32} (h : f_computeRoomTables zq zo zl zi = some (w_o_roomsAtLeast, w_o_firstRoomOfType, w_o_totalRooms)) : OEnds own_P 5 0 [qr 1, qu, qu, qu] [] (c0 :: bk0 zq zo zl za zd zb zc zm zf zj ze zh zi zn zg zk zp po) (none, (c0 :: bk0 zq w_o_roomsAtLeast w_o_firstRoomOfType za zd zb zc zm zf zj ze zh w_o_totalRooms zn zg zk zp po), 0, 0) := by
  unfold f_computeRoomTables at h
  refine OEnds.adv hm_5 3 (pc' := 5) (L' := [qr 1, qu, qu, qu]) (S' := [.int 0, .ref 2]) (H' := (c0 :: bk0 zq zo zl za zd zb zc zm zf zj ze zh zi zn zg zk zp po)) rfl ?_
  obtain ⟨x2, hx2, h⟩ := bnd h
  refine OEnds.plain hm_5 rfl rfl (x_iaload rfl hx2) ?_
  refine OEnds.adv hm_5 4 (pc' := 12) (L' := [qr 1, qi x2, qu, qu]) (S' := [.int 1, .ref 2]) (H' := (c0 :: bk0 zq zo zl za zd zb zc zm zf zj ze zh zi zn zg zk zp po)) rfl ?_
  obtain ⟨x3, hx3, h⟩ := bnd h
  refine OEnds.plain hm_5 rfl rfl (x_iaload rfl hx3) ?_
  refine OEnds.adv hm_5 4 (pc' := 19) (L' := [qr 1, qi x2, qi x3, qu]) (S' := [.int 2, .ref 2]) (H' := (c0 :: bk0 zq zo zl za zd zb zc zm zf zj ze zh zi zn zg zk zp po)) rfl ?_
  obtain ⟨x4, hx4, h⟩ := bnd h
  refine OEnds.plain hm_5 rfl rfl (x_iaload rfl hx4) ?_
  refine OEnds.adv hm_5 5 (pc' := 27) (L' := [qr 1, qi x2, qi x3, qi x4]) (S' := [.int x4, .int 2, .ref 3]) (H' := (c0 :: bk0 zq zo zl za zd zb zc zm zf zj ze zh zi zn zg zk zp po)) rfl ?_
  obtain ⟨A5, hA5, h⟩ := bnd h
  refine OEnds.plain hm_5 rfl rfl (x_iastore rfl (Nat.le_of_ble_eq_true rfl) hA5) ?_
  refine OEnds.adv hm_5 6 (pc' := 36) (L' := [qr 1, qi x2, qi x3, qi x4]) (S' := [.int (x3 + x4), .int 1, .ref 3]) (H' := (c0 :: bk0 zq A5 zl za zd zb zc zm zf zj ze zh zi zn zg zk zp po)) rfl ?_
  obtain ⟨A6, hA6, h⟩ := bnd h
  refine OEnds.plain hm_5 rfl rfl (x_iastore rfl (Nat.le_of_ble_eq_true rfl) hA6) ?_
  refine OEnds.adv hm_5 8 (pc' := 47) (L' := [qr 1, qi x2, qi x3, qi x4]) (S' := [.int ((x2 + x3) + x4), .int 0, .ref 3]) (H' := (c0 :: bk0 zq A6 zl za zd zb zc zm zf zj ze zh zi zn zg zk zp po)) rfl ?_
  obtain ⟨A7, hA7, h⟩ := bnd h
  refine OEnds.plain hm_5 rfl rfl (x_iastore rfl (Nat.le_of_ble_eq_true rfl) hA7) ?_
  refine OEnds.adv hm_5 4 (pc' := 54) (L' := [qr 1, qi x2, qi x3, qi x4]) (S' := [.int 0, .int 0, .ref 4]) (H' := (c0 :: bk0 zq A7 zl za zd zb zc zm zf zj ze zh zi zn zg zk zp po)) rfl ?_
  obtain ⟨A8, hA8, h⟩ := bnd h
  refine OEnds.plain hm_5 rfl rfl (x_iastore rfl (Nat.le_of_ble_eq_true rfl) hA8) ?_
  refine OEnds.adv hm_5 4 (pc' := 61) (L' := [qr 1, qi x2, qi x3, qi x4]) (S' := [.int x2, .int 1, .ref 4]) (H' := (c0 :: bk0 zq A7 A8 za zd zb zc zm zf zj ze zh zi zn zg zk zp po)) rfl ?_
  obtain ⟨A9, hA9, h⟩ := bnd h
  refine OEnds.plain hm_5 rfl rfl (x_iastore rfl (Nat.le_of_ble_eq_true rfl) hA9) ?_
  refine OEnds.adv hm_5 6 (pc' := 70) (L' := [qr 1, qi x2, qi x3, qi x4]) (S' := [.int (x2 + x3), .int 2, .ref 4]) (H' := (c0 :: bk0 zq A7 A9 za zd zb zc zm zf zj ze zh zi zn zg zk zp po)) rfl ?_
  obtain ⟨A10, hA10, h⟩ := bnd h
  refine OEnds.plain hm_5 rfl rfl (x_iastore rfl (Nat.le_of_ble_eq_true rfl) hA10) ?_
  refine OEnds.adv hm_5 7 (pc' := 80) (L' := [qr 1, qi x2, qi x3, qi x4]) (S' := []) (H' := (c0 :: bk0 zq A7 A10 za zd zb zc zm zf zj ze zh ((x2 + x3) + x4) zn zg zk zp po)) rfl ?_
  cases h
  exact OEnds.vret hm_5 rfl rfl
theorem ok_resetStays_2 {zq zo zl zm zf zj ze zh : List Int32} {zi zg zk zp : Int32} {c0 : ACell} {po : List ACell} : ∀ (n : Nat), ∀ {za zd zb zc : List Int32} {zn v1 : Int32} {w_o_slotActive w_o_slotType w_o_slotArrive w_o_slotNights : List Int32} {w_o_activeStays : Int32}, f_resetStays_2 n za zd zb zc zn v1 = some (w_o_slotActive, w_o_slotType, w_o_slotArrive, w_o_slotNights, w_o_activeStays) → OEnds own_P 6 2 [qr 1, qi v1] [] (c0 :: bk0 zq zo zl za zd zb zc zm zf zj ze zh zi zn zg zk zp po) (none, (c0 :: bk0 zq zo zl w_o_slotActive w_o_slotType w_o_slotArrive w_o_slotNights zm zf zj ze zh zi w_o_activeStays zg zk zp po), 0, 0) := by
  intro n
  induction n with
  | zero => intro za zd zb zc zn v1 w_o_slotActive w_o_slotType w_o_slotArrive w_o_slotNights w_o_activeStays h; cases h
  | succ n ih =>
    intro za zd zb zc zn v1 w_o_slotActive w_o_slotType w_o_slotArrive w_o_slotNights w_o_activeStays h
    unfold f_resetStays_2 at h
    refine OEnds.adv hm_6 2 (pc' := 5) (L' := [qr 1, qi v1]) (S' := [.int 32, .int v1]) (H' := (c0 :: bk0 zq zo zl za zd zb zc zm zf zj ze zh zi zn zg zk zp po)) rfl ?_
    by_cases hc4 : v1 < (32 : Int32)
    · simp only [if_pos hc4] at h
      refine OEnds.icmpF hm_6 rfl ((tlt hc4).2.1) ?_
      refine OEnds.adv hm_6 4 (pc' := 14) (L' := [qr 1, qi v1]) (S' := [.int 0, .int v1, .ref 5]) (H' := (c0 :: bk0 zq zo zl za zd zb zc zm zf zj ze zh zi zn zg zk zp po)) rfl ?_
      obtain ⟨A11, hA11, h⟩ := bnd h
      refine OEnds.plain hm_6 rfl rfl (x_bastore rfl (Nat.le_of_ble_eq_true rfl) hA11) ?_
      refine OEnds.adv hm_6 4 (pc' := 21) (L' := [qr 1, qi v1]) (S' := [.int 0, .int v1, .ref 6]) (H' := (c0 :: bk0 zq zo zl A11 zd zb zc zm zf zj ze zh zi zn zg zk zp po)) rfl ?_
      obtain ⟨A12, hA12, h⟩ := bnd h
      refine OEnds.plain hm_6 rfl rfl (x_iastore rfl (Nat.le_of_ble_eq_true rfl) hA12) ?_
      refine OEnds.adv hm_6 4 (pc' := 28) (L' := [qr 1, qi v1]) (S' := [.int 0, .int v1, .ref 7]) (H' := (c0 :: bk0 zq zo zl A11 A12 zb zc zm zf zj ze zh zi zn zg zk zp po)) rfl ?_
      obtain ⟨A13, hA13, h⟩ := bnd h
      refine OEnds.plain hm_6 rfl rfl (x_iastore rfl (Nat.le_of_ble_eq_true rfl) hA13) ?_
      refine OEnds.adv hm_6 4 (pc' := 35) (L' := [qr 1, qi v1]) (S' := [.int 0, .int v1, .ref 8]) (H' := (c0 :: bk0 zq zo zl A11 A12 A13 zc zm zf zj ze zh zi zn zg zk zp po)) rfl ?_
      obtain ⟨A14, hA14, h⟩ := bnd h
      refine OEnds.plain hm_6 rfl rfl (x_iastore rfl (Nat.le_of_ble_eq_true rfl) hA14) ?_
      refine OEnds.adv hm_6 2 (pc' := 2) (L' := [qr 1, qi (v1 + (1 : Int32))]) (S' := []) (H' := (c0 :: bk0 zq zo zl A11 A12 A13 A14 zm zf zj ze zh zi zn zg zk zp po)) rfl ?_
      exact ih h
    · simp only [if_neg hc4] at h
      refine OEnds.icmpT hm_6 rfl (q := 42) rfl ((flt hc4).2.1) ?_
      refine OEnds.adv hm_6 3 (pc' := 47) (L' := [qr 1, qi v1]) (S' := []) (H' := (c0 :: bk0 zq zo zl za zd zb zc zm zf zj ze zh zi 0 zg zk zp po)) rfl ?_
      cases h
      exact OEnds.vret hm_6 rfl rfl
theorem ok_resetStays {zq zo zl zm zf zj ze zh : List Int32} {zi zg zk zp : Int32} {c0 : ACell} {po : List ACell} {za zd zb zc : List Int32} {zn : Int32} {w_o_slotActive w_o_slotType w_o_slotArrive w_o_slotNights : List Int32} {w_o_activeStays : Int32} (h : f_resetStays za zd zb zc zn = some (w_o_slotActive, w_o_slotType, w_o_slotArrive, w_o_slotNights, w_o_activeStays)) : OEnds own_P 6 0 [qr 1, qu] [] (c0 :: bk0 zq zo zl za zd zb zc zm zf zj ze zh zi zn zg zk zp po) (none, (c0 :: bk0 zq zo zl w_o_slotActive w_o_slotType w_o_slotArrive w_o_slotNights zm zf zj ze zh zi w_o_activeStays zg zk zp po), 0, 0) := by
  unfold f_resetStays at h
  refine OEnds.adv hm_6 2 (pc' := 2) (L' := [qr 1, qi 0]) (S' := []) (H' := (c0 :: bk0 zq zo zl za zd zb zc zm zf zj ze zh zi zn zg zk zp po)) rfl ?_
  exact ok_resetStays_2 100000 h
theorem ok_resetCounts_2 {zq zo zl za zd zb zc zj ze zh : List Int32} {zi zn zg zk zp : Int32} {c0 : ACell} {po : List ACell} : ∀ (n : Nat), ∀ {zm zf : List Int32} {v1 : Int32} {w_o_exactCount : List Int32} {w_o_atLeastCount : List Int32}, f_resetCounts_2 n zm zf v1 = some (w_o_exactCount, w_o_atLeastCount) → OEnds own_P 7 2 [qr 1, qi v1] [] (c0 :: bk0 zq zo zl za zd zb zc zm zf zj ze zh zi zn zg zk zp po) (none, (c0 :: bk0 zq zo zl za zd zb zc w_o_exactCount w_o_atLeastCount zj ze zh zi zn zg zk zp po), 0, 0) := by
  intro n
  induction n with
  | zero => intro zm zf v1 w_o_exactCount w_o_atLeastCount h; cases h
  | succ n ih =>
    intro zm zf v1 w_o_exactCount w_o_atLeastCount h
    unfold f_resetCounts_2 at h
    refine OEnds.adv hm_7 2 (pc' := 5) (L' := [qr 1, qi v1]) (S' := [.int 96, .int v1]) (H' := (c0 :: bk0 zq zo zl za zd zb zc zm zf zj ze zh zi zn zg zk zp po)) rfl ?_
    by_cases hc5 : v1 < (96 : Int32)
    · simp only [if_pos hc5] at h
      refine OEnds.icmpF hm_7 rfl ((tlt hc5).2.1) ?_
      refine OEnds.adv hm_7 4 (pc' := 14) (L' := [qr 1, qi v1]) (S' := [.int 0, .int v1, .ref 9]) (H' := (c0 :: bk0 zq zo zl za zd zb zc zm zf zj ze zh zi zn zg zk zp po)) rfl ?_
      obtain ⟨A15, hA15, h⟩ := bnd h
      refine OEnds.plain hm_7 rfl rfl (x_iastore rfl (Nat.le_of_ble_eq_true rfl) hA15) ?_
      refine OEnds.adv hm_7 4 (pc' := 21) (L' := [qr 1, qi v1]) (S' := [.int 0, .int v1, .ref 10]) (H' := (c0 :: bk0 zq zo zl za zd zb zc A15 zf zj ze zh zi zn zg zk zp po)) rfl ?_
      obtain ⟨A16, hA16, h⟩ := bnd h
      refine OEnds.plain hm_7 rfl rfl (x_iastore rfl (Nat.le_of_ble_eq_true rfl) hA16) ?_
      refine OEnds.adv hm_7 2 (pc' := 2) (L' := [qr 1, qi (v1 + (1 : Int32))]) (S' := []) (H' := (c0 :: bk0 zq zo zl za zd zb zc A15 A16 zj ze zh zi zn zg zk zp po)) rfl ?_
      exact ih h
    · simp only [if_neg hc5] at h
      refine OEnds.icmpT hm_7 rfl (q := 28) rfl ((flt hc5).2.1) ?_
      show OEnds own_P 7 28 [qr 1, qi v1] [] (c0 :: bk0 zq zo zl za zd zb zc zm zf zj ze zh zi zn zg zk zp po) _
      cases h
      exact OEnds.vret hm_7 rfl rfl
theorem ok_resetCounts {zq zo zl za zd zb zc zj ze zh : List Int32} {zi zn zg zk zp : Int32} {c0 : ACell} {po : List ACell} {zm zf w_o_exactCount w_o_atLeastCount : List Int32} (h : f_resetCounts zm zf = some (w_o_exactCount, w_o_atLeastCount)) : OEnds own_P 7 0 [qr 1, qu] [] (c0 :: bk0 zq zo zl za zd zb zc zm zf zj ze zh zi zn zg zk zp po) (none, (c0 :: bk0 zq zo zl za zd zb zc w_o_exactCount w_o_atLeastCount zj ze zh zi zn zg zk zp po), 0, 0) := by
  unfold f_resetCounts at h
  refine OEnds.adv hm_7 2 (pc' := 2) (L' := [qr 1, qi 0]) (S' := []) (H' := (c0 :: bk0 zq zo zl za zd zb zc zm zf zj ze zh zi zn zg zk zp po)) rfl ?_
  exact ok_resetCounts_2 100000 h
theorem ok_clearPlan_30 {zq zo zl za zd zb zc zm zf : List Int32} {zi zn zk zp : Int32} {c0 : ACell} {po : List ACell} : ∀ (n : Nat), ∀ {zj ze zh : List Int32} {zg v1 : Int32} {w_o_planRoom w_o_planGrid w_o_planOrder : List Int32} {w_o_planOrderLength : Int32}, f_clearPlan_30 n zj ze zh zg v1 = some (w_o_planRoom, w_o_planGrid, w_o_planOrder, w_o_planOrderLength) → OEnds own_P 8 30 [qr 1, qi v1] [] (c0 :: bk0 zq zo zl za zd zb zc zm zf zj ze zh zi zn zg zk zp po) (none, (c0 :: bk0 zq zo zl za zd zb zc zm zf w_o_planRoom w_o_planGrid w_o_planOrder zi zn w_o_planOrderLength zk zp po), 0, 0) := by
  intro n
  induction n with
  | zero => intro zj ze zh zg v1 w_o_planRoom w_o_planGrid w_o_planOrder w_o_planOrderLength h; cases h
  | succ n ih =>
    intro zj ze zh zg v1 w_o_planRoom w_o_planGrid w_o_planOrder w_o_planOrderLength h
    unfold f_clearPlan_30 at h
    refine OEnds.adv hm_8 2 (pc' := 34) (L' := [qr 1, qi v1]) (S' := [.int 768, .int v1]) (H' := (c0 :: bk0 zq zo zl za zd zb zc zm zf zj ze zh zi zn zg zk zp po)) rfl ?_
    by_cases hc6 : v1 < (768 : Int32)
    · simp only [if_pos hc6] at h
      refine OEnds.icmpF hm_8 rfl ((tlt hc6).2.1) ?_
      refine OEnds.adv hm_8 4 (pc' := 43) (L' := [qr 1, qi v1]) (S' := [.int (-1), .int v1, .ref 12]) (H' := (c0 :: bk0 zq zo zl za zd zb zc zm zf zj ze zh zi zn zg zk zp po)) rfl ?_
      obtain ⟨A19, hA19, h⟩ := bnd h
      refine OEnds.plain hm_8 rfl rfl (x_iastore rfl (Nat.le_of_ble_eq_true rfl) hA19) ?_
      refine OEnds.adv hm_8 2 (pc' := 30) (L' := [qr 1, qi (v1 + (1 : Int32))]) (S' := []) (H' := (c0 :: bk0 zq zo zl za zd zb zc zm zf zj A19 zh zi zn zg zk zp po)) rfl ?_
      exact ih h
    · simp only [if_neg hc6] at h
      refine OEnds.icmpT hm_8 rfl (q := 50) rfl ((flt hc6).2.1) ?_
      refine OEnds.adv hm_8 3 (pc' := 55) (L' := [qr 1, qi v1]) (S' := []) (H' := (c0 :: bk0 zq zo zl za zd zb zc zm zf zj ze zh zi zn 0 zk zp po)) rfl ?_
      cases h
      exact OEnds.vret hm_8 rfl rfl
theorem ok_clearPlan_2 {zq zo zl za zd zb zc zm zf : List Int32} {zi zn zk zp : Int32} {c0 : ACell} {po : List ACell} {k30 : List Int32 → List Int32 → List Int32 → Int32 → Int32 → Option (List Int32 × List Int32 × List Int32 × Int32)} (hk30 : ∀ {zj ze zh : List Int32} {zg v1 : Int32} {w_o_planRoom w_o_planGrid w_o_planOrder : List Int32} {w_o_planOrderLength : Int32}, k30 zj ze zh zg v1 = some (w_o_planRoom, w_o_planGrid, w_o_planOrder, w_o_planOrderLength) → OEnds own_P 8 30 [qr 1, qi v1] [] (c0 :: bk0 zq zo zl za zd zb zc zm zf zj ze zh zi zn zg zk zp po) (none, (c0 :: bk0 zq zo zl za zd zb zc zm zf w_o_planRoom w_o_planGrid w_o_planOrder zi zn w_o_planOrderLength zk zp po), 0, 0)) : ∀ (n : Nat), ∀ {zj ze zh : List Int32} {zg v1 : Int32} {w_o_planRoom w_o_planGrid w_o_planOrder : List Int32} {w_o_planOrderLength : Int32}, f_clearPlan_2 k30 n zj ze zh zg v1 = some (w_o_planRoom, w_o_planGrid, w_o_planOrder, w_o_planOrderLength) → OEnds own_P 8 2 [qr 1, qi v1] [] (c0 :: bk0 zq zo zl za zd zb zc zm zf zj ze zh zi zn zg zk zp po) (none, (c0 :: bk0 zq zo zl za zd zb zc zm zf w_o_planRoom w_o_planGrid w_o_planOrder zi zn w_o_planOrderLength zk zp po), 0, 0) := by
  intro n
  induction n with
  | zero => intro zj ze zh zg v1 w_o_planRoom w_o_planGrid w_o_planOrder w_o_planOrderLength h; cases h
  | succ n ih =>
    intro zj ze zh zg v1 w_o_planRoom w_o_planGrid w_o_planOrder w_o_planOrderLength h
    unfold f_clearPlan_2 at h
    refine OEnds.adv hm_8 2 (pc' := 5) (L' := [qr 1, qi v1]) (S' := [.int 32, .int v1]) (H' := (c0 :: bk0 zq zo zl za zd zb zc zm zf zj ze zh zi zn zg zk zp po)) rfl ?_
    by_cases hc7 : v1 < (32 : Int32)
    · simp only [if_pos hc7] at h
      refine OEnds.icmpF hm_8 rfl ((tlt hc7).2.1) ?_
      refine OEnds.adv hm_8 4 (pc' := 14) (L' := [qr 1, qi v1]) (S' := [.int (-1), .int v1, .ref 11]) (H' := (c0 :: bk0 zq zo zl za zd zb zc zm zf zj ze zh zi zn zg zk zp po)) rfl ?_
      obtain ⟨A17, hA17, h⟩ := bnd h
      refine OEnds.plain hm_8 rfl rfl (x_iastore rfl (Nat.le_of_ble_eq_true rfl) hA17) ?_
      refine OEnds.adv hm_8 4 (pc' := 21) (L' := [qr 1, qi v1]) (S' := [.int 0, .int v1, .ref 13]) (H' := (c0 :: bk0 zq zo zl za zd zb zc zm zf A17 ze zh zi zn zg zk zp po)) rfl ?_
      obtain ⟨A18, hA18, h⟩ := bnd h
      refine OEnds.plain hm_8 rfl rfl (x_iastore rfl (Nat.le_of_ble_eq_true rfl) hA18) ?_
      refine OEnds.adv hm_8 2 (pc' := 2) (L' := [qr 1, qi (v1 + (1 : Int32))]) (S' := []) (H' := (c0 :: bk0 zq zo zl za zd zb zc zm zf A17 ze A18 zi zn zg zk zp po)) rfl ?_
      exact ih h
    · simp only [if_neg hc7] at h
      refine OEnds.icmpT hm_8 rfl (q := 28) rfl ((flt hc7).2.1) ?_
      refine OEnds.adv hm_8 2 (pc' := 30) (L' := [qr 1, qi 0]) (S' := []) (H' := (c0 :: bk0 zq zo zl za zd zb zc zm zf zj ze zh zi zn zg zk zp po)) rfl ?_
      exact hk30 h
theorem ok_clearPlan {zq zo zl za zd zb zc zm zf : List Int32} {zi zn zk zp : Int32} {c0 : ACell} {po : List ACell} {zj ze zh : List Int32} {zg : Int32} {w_o_planRoom w_o_planGrid w_o_planOrder : List Int32} {w_o_planOrderLength : Int32} (h : f_clearPlan zj ze zh zg = some (w_o_planRoom, w_o_planGrid, w_o_planOrder, w_o_planOrderLength)) : OEnds own_P 8 0 [qr 1, qu] [] (c0 :: bk0 zq zo zl za zd zb zc zm zf zj ze zh zi zn zg zk zp po) (none, (c0 :: bk0 zq zo zl za zd zb zc zm zf w_o_planRoom w_o_planGrid w_o_planOrder zi zn w_o_planOrderLength zk zp po), 0, 0) := by
  unfold f_clearPlan at h
  refine OEnds.adv hm_8 2 (pc' := 2) (L' := [qr 1, qi 0]) (S' := []) (H' := (c0 :: bk0 zq zo zl za zd zb zc zm zf zj ze zh zi zn zg zk zp po)) rfl ?_
  exact ok_clearPlan_2 (k30 := f_clearPlan_30 100000) (ok_clearPlan_30 100000) 100000 h
theorem ok_init {c0 : ACell} {v1 v2 v3 : Int32} {w_o_roomsOfType w_o_roomsAtLeast w_o_firstRoomOfType w_o_slotActive w_o_slotType w_o_slotArrive w_o_slotNights w_o_exactCount w_o_atLeastCount w_o_planRoom w_o_planGrid w_o_planOrder : List Int32} {w_o_totalRooms w_o_activeStays w_o_planOrderLength w_o_planCurrent w_o_planUnplaced : Int32} (h : f_init v1 v2 v3 = some (w_o_roomsOfType, w_o_roomsAtLeast, w_o_firstRoomOfType, w_o_slotActive, w_o_slotType, w_o_slotArrive, w_o_slotNights, w_o_exactCount, w_o_atLeastCount, w_o_planRoom, w_o_planGrid, w_o_planOrder, w_o_totalRooms, w_o_activeStays, w_o_planOrderLength, w_o_planCurrent, w_o_planUnplaced)) : OEnds own_P 3 0 [qr 1, qi v1, qi v2, qi v3] [] (c0 :: (.inl (0, [.null, .null, .null, .null, .null, .null, .null, .null, .null, .null, .null, .null, .int 0, .int 0, .int 0, .int 0, .int 0]) : ACell) :: []) (none, (c0 :: bk0 w_o_roomsOfType w_o_roomsAtLeast w_o_firstRoomOfType w_o_slotActive w_o_slotType w_o_slotArrive w_o_slotNights w_o_exactCount w_o_atLeastCount w_o_planRoom w_o_planGrid w_o_planOrder w_o_totalRooms w_o_activeStays w_o_planOrderLength w_o_planCurrent w_o_planUnplaced []), 12, 1161) := by
  unfold f_init at h
  refine OEnds.adv hm_3 1 (pc' := 1) (L' := [qr 1, qi v1, qi v2, qi v3]) (S' := [.ref 1]) (H' := (c0 :: (.inl (0, [.null, .null, .null, .null, .null, .null, .null, .null, .null, .null, .null, .null, .int 0, .int 0, .int 0, .int 0, .int 0]) : ACell) :: [])) rfl ?_
  refine OEnds.oinit hm_3 rfl ⟨Nat.le_of_ble_eq_true rfl, Nat.le_of_ble_eq_true rfl⟩ ?_
  refine OEnds.adv hm_3 2 (pc' := 6) (L' := [qr 1, qi v1, qi v2, qi v3]) (S' := [.int 3, .ref 1]) (H' := (c0 :: (.inl (0, [.null, .null, .null, .null, .null, .null, .null, .null, .null, .null, .null, .null, .int 0, .int 0, .int 0, .int 0, .int 0]) : ACell) :: [])) rfl ?_
  refine OEnds.made1 hm_3 rfl rfl (ks := 3) rfl rfl ?_
  refine OEnds.adv hm_3 3 (pc' := 13) (L' := [qr 1, qi v1, qi v2, qi v3]) (S' := [.int 3, .ref 1]) (H' := (c0 :: (.inl (0, [.ref 2, .null, .null, .null, .null, .null, .null, .null, .null, .null, .null, .null, .int 0, .int 0, .int 0, .int 0, .int 0]) : ACell) :: .inr (.inl (false, (List.replicate 3 0))) :: [])) rfl ?_
  refine OEnds.made1 hm_3 rfl rfl (ks := 3) rfl rfl ?_
  refine OEnds.adv hm_3 3 (pc' := 20) (L' := [qr 1, qi v1, qi v2, qi v3]) (S' := [.int 3, .ref 1]) (H' := (c0 :: (.inl (0, [.ref 2, .ref 3, .null, .null, .null, .null, .null, .null, .null, .null, .null, .null, .int 0, .int 0, .int 0, .int 0, .int 0]) : ACell) :: .inr (.inl (false, (List.replicate 3 0))) :: .inr (.inl (false, (List.replicate 3 0))) :: [])) rfl ?_
  refine OEnds.made1 hm_3 rfl rfl (ks := 3) rfl rfl ?_
  refine OEnds.adv hm_3 3 (pc' := 28) (L' := [qr 1, qi v1, qi v2, qi v3]) (S' := [.int 32, .ref 1]) (H' := (c0 :: (.inl (0, [.ref 2, .ref 3, .ref 4, .null, .null, .null, .null, .null, .null, .null, .null, .null, .int 0, .int 0, .int 0, .int 0, .int 0]) : ACell) :: .inr (.inl (false, (List.replicate 3 0))) :: .inr (.inl (false, (List.replicate 3 0))) :: .inr (.inl (false, (List.replicate 3 0))) :: [])) rfl ?_
  refine OEnds.made1 hm_3 rfl rfl (ks := 32) rfl rfl ?_
  refine OEnds.adv hm_3 3 (pc' := 36) (L' := [qr 1, qi v1, qi v2, qi v3]) (S' := [.int 32, .ref 1]) (H' := (c0 :: (.inl (0, [.ref 2, .ref 3, .ref 4, .ref 5, .null, .null, .null, .null, .null, .null, .null, .null, .int 0, .int 0, .int 0, .int 0, .int 0]) : ACell) :: .inr (.inl (false, (List.replicate 3 0))) :: .inr (.inl (false, (List.replicate 3 0))) :: .inr (.inl (false, (List.replicate 3 0))) :: .inr (.inl (true, (List.replicate 32 0))) :: [])) rfl ?_
  refine OEnds.made1 hm_3 rfl rfl (ks := 32) rfl rfl ?_
  refine OEnds.adv hm_3 3 (pc' := 44) (L' := [qr 1, qi v1, qi v2, qi v3]) (S' := [.int 32, .ref 1]) (H' := (c0 :: (.inl (0, [.ref 2, .ref 3, .ref 4, .ref 5, .ref 6, .null, .null, .null, .null, .null, .null, .null, .int 0, .int 0, .int 0, .int 0, .int 0]) : ACell) :: .inr (.inl (false, (List.replicate 3 0))) :: .inr (.inl (false, (List.replicate 3 0))) :: .inr (.inl (false, (List.replicate 3 0))) :: .inr (.inl (true, (List.replicate 32 0))) :: .inr (.inl (false, (List.replicate 32 0))) :: [])) rfl ?_
  refine OEnds.made1 hm_3 rfl rfl (ks := 32) rfl rfl ?_
  refine OEnds.adv hm_3 3 (pc' := 52) (L' := [qr 1, qi v1, qi v2, qi v3]) (S' := [.int 32, .ref 1]) (H' := (c0 :: (.inl (0, [.ref 2, .ref 3, .ref 4, .ref 5, .ref 6, .ref 7, .null, .null, .null, .null, .null, .null, .int 0, .int 0, .int 0, .int 0, .int 0]) : ACell) :: .inr (.inl (false, (List.replicate 3 0))) :: .inr (.inl (false, (List.replicate 3 0))) :: .inr (.inl (false, (List.replicate 3 0))) :: .inr (.inl (true, (List.replicate 32 0))) :: .inr (.inl (false, (List.replicate 32 0))) :: .inr (.inl (false, (List.replicate 32 0))) :: [])) rfl ?_
  refine OEnds.made1 hm_3 rfl rfl (ks := 32) rfl rfl ?_
  refine OEnds.adv hm_3 3 (pc' := 60) (L' := [qr 1, qi v1, qi v2, qi v3]) (S' := [.int 96, .ref 1]) (H' := (c0 :: (.inl (0, [.ref 2, .ref 3, .ref 4, .ref 5, .ref 6, .ref 7, .ref 8, .null, .null, .null, .null, .null, .int 0, .int 0, .int 0, .int 0, .int 0]) : ACell) :: .inr (.inl (false, (List.replicate 3 0))) :: .inr (.inl (false, (List.replicate 3 0))) :: .inr (.inl (false, (List.replicate 3 0))) :: .inr (.inl (true, (List.replicate 32 0))) :: .inr (.inl (false, (List.replicate 32 0))) :: .inr (.inl (false, (List.replicate 32 0))) :: .inr (.inl (false, (List.replicate 32 0))) :: [])) rfl ?_
  refine OEnds.made1 hm_3 rfl rfl (ks := 96) rfl rfl ?_
  refine OEnds.adv hm_3 3 (pc' := 68) (L' := [qr 1, qi v1, qi v2, qi v3]) (S' := [.int 96, .ref 1]) (H' := (c0 :: (.inl (0, [.ref 2, .ref 3, .ref 4, .ref 5, .ref 6, .ref 7, .ref 8, .ref 9, .null, .null, .null, .null, .int 0, .int 0, .int 0, .int 0, .int 0]) : ACell) :: .inr (.inl (false, (List.replicate 3 0))) :: .inr (.inl (false, (List.replicate 3 0))) :: .inr (.inl (false, (List.replicate 3 0))) :: .inr (.inl (true, (List.replicate 32 0))) :: .inr (.inl (false, (List.replicate 32 0))) :: .inr (.inl (false, (List.replicate 32 0))) :: .inr (.inl (false, (List.replicate 32 0))) :: .inr (.inl (false, (List.replicate 96 0))) :: [])) rfl ?_
  refine OEnds.made1 hm_3 rfl rfl (ks := 96) rfl rfl ?_
  refine OEnds.adv hm_3 3 (pc' := 76) (L' := [qr 1, qi v1, qi v2, qi v3]) (S' := [.int 32, .ref 1]) (H' := (c0 :: (.inl (0, [.ref 2, .ref 3, .ref 4, .ref 5, .ref 6, .ref 7, .ref 8, .ref 9, .ref 10, .null, .null, .null, .int 0, .int 0, .int 0, .int 0, .int 0]) : ACell) :: .inr (.inl (false, (List.replicate 3 0))) :: .inr (.inl (false, (List.replicate 3 0))) :: .inr (.inl (false, (List.replicate 3 0))) :: .inr (.inl (true, (List.replicate 32 0))) :: .inr (.inl (false, (List.replicate 32 0))) :: .inr (.inl (false, (List.replicate 32 0))) :: .inr (.inl (false, (List.replicate 32 0))) :: .inr (.inl (false, (List.replicate 96 0))) :: .inr (.inl (false, (List.replicate 96 0))) :: [])) rfl ?_
  refine OEnds.made1 hm_3 rfl rfl (ks := 32) rfl rfl ?_
  refine OEnds.adv hm_3 3 (pc' := 85) (L' := [qr 1, qi v1, qi v2, qi v3]) (S' := [.int 768, .ref 1]) (H' := (c0 :: (.inl (0, [.ref 2, .ref 3, .ref 4, .ref 5, .ref 6, .ref 7, .ref 8, .ref 9, .ref 10, .ref 11, .null, .null, .int 0, .int 0, .int 0, .int 0, .int 0]) : ACell) :: .inr (.inl (false, (List.replicate 3 0))) :: .inr (.inl (false, (List.replicate 3 0))) :: .inr (.inl (false, (List.replicate 3 0))) :: .inr (.inl (true, (List.replicate 32 0))) :: .inr (.inl (false, (List.replicate 32 0))) :: .inr (.inl (false, (List.replicate 32 0))) :: .inr (.inl (false, (List.replicate 32 0))) :: .inr (.inl (false, (List.replicate 96 0))) :: .inr (.inl (false, (List.replicate 96 0))) :: .inr (.inl (false, (List.replicate 32 0))) :: [])) rfl ?_
  refine OEnds.made1 hm_3 rfl rfl (ks := 768) rfl rfl ?_
  refine OEnds.adv hm_3 3 (pc' := 93) (L' := [qr 1, qi v1, qi v2, qi v3]) (S' := [.int 32, .ref 1]) (H' := (c0 :: (.inl (0, [.ref 2, .ref 3, .ref 4, .ref 5, .ref 6, .ref 7, .ref 8, .ref 9, .ref 10, .ref 11, .ref 12, .null, .int 0, .int 0, .int 0, .int 0, .int 0]) : ACell) :: .inr (.inl (false, (List.replicate 3 0))) :: .inr (.inl (false, (List.replicate 3 0))) :: .inr (.inl (false, (List.replicate 3 0))) :: .inr (.inl (true, (List.replicate 32 0))) :: .inr (.inl (false, (List.replicate 32 0))) :: .inr (.inl (false, (List.replicate 32 0))) :: .inr (.inl (false, (List.replicate 32 0))) :: .inr (.inl (false, (List.replicate 96 0))) :: .inr (.inl (false, (List.replicate 96 0))) :: .inr (.inl (false, (List.replicate 32 0))) :: .inr (.inl (false, (List.replicate 768 0))) :: [])) rfl ?_
  refine OEnds.made1 hm_3 rfl rfl (ks := 32) rfl rfl ?_
  refine OEnds.adv hm_3 6 (pc' := 105) (L' := [qr 1, qi v1, qi v2, qi v3]) (S' := [.int v1, .ref 1, .int 0, .ref 2]) (H' := (c0 :: bk0 (List.replicate 3 0) (List.replicate 3 0) (List.replicate 3 0) (List.replicate 32 0) (List.replicate 32 0) (List.replicate 32 0) (List.replicate 32 0) (List.replicate 96 0) (List.replicate 96 0) (List.replicate 32 0) (List.replicate 768 0) (List.replicate 32 0) 0 0 0 0 0 [])) rfl ?_
  obtain ⟨r20, hq8, h⟩ := bnd h
  refine OEnds.call0 hm_3 rfl rfl (by decide) rfl (as := [.ref 1, .int v1]) (rest := [.int 0, .ref 2]) rfl rfl (ok_clampRooms hq8) ?_
  show OEnds own_P 3 108 [qr 1, qi v1, qi v2, qi v3] [.int r20, .int 0, .ref 2] (c0 :: bk0 (List.replicate 3 0) (List.replicate 3 0) (List.replicate 3 0) (List.replicate 32 0) (List.replicate 32 0) (List.replicate 32 0) (List.replicate 32 0) (List.replicate 96 0) (List.replicate 96 0) (List.replicate 32 0) (List.replicate 768 0) (List.replicate 32 0) 0 0 0 0 0 []) _
  obtain ⟨A21, hA21, h⟩ := bnd h
  refine OEnds.plain hm_3 rfl rfl (x_iastore rfl (Nat.le_of_ble_eq_true rfl) hA21) ?_
  refine OEnds.adv hm_3 5 (pc' := 116) (L' := [qr 1, qi v1, qi v2, qi v3]) (S' := [.int v2, .ref 1, .int 1, .ref 2]) (H' := (c0 :: bk0 A21 (List.replicate 3 0) (List.replicate 3 0) (List.replicate 32 0) (List.replicate 32 0) (List.replicate 32 0) (List.replicate 32 0) (List.replicate 96 0) (List.replicate 96 0) (List.replicate 32 0) (List.replicate 768 0) (List.replicate 32 0) 0 0 0 0 0 [])) rfl ?_
  obtain ⟨r22, hq9, h⟩ := bnd h
  refine OEnds.call0 hm_3 rfl rfl (by decide) rfl (as := [.ref 1, .int v2]) (rest := [.int 1, .ref 2]) rfl rfl (ok_clampRooms hq9) ?_
  show OEnds own_P 3 119 [qr 1, qi v1, qi v2, qi v3] [.int r22, .int 1, .ref 2] (c0 :: bk0 A21 (List.replicate 3 0) (List.replicate 3 0) (List.replicate 32 0) (List.replicate 32 0) (List.replicate 32 0) (List.replicate 32 0) (List.replicate 96 0) (List.replicate 96 0) (List.replicate 32 0) (List.replicate 768 0) (List.replicate 32 0) 0 0 0 0 0 []) _
  obtain ⟨A23, hA23, h⟩ := bnd h
  refine OEnds.plain hm_3 rfl rfl (x_iastore rfl (Nat.le_of_ble_eq_true rfl) hA23) ?_
  refine OEnds.adv hm_3 5 (pc' := 127) (L' := [qr 1, qi v1, qi v2, qi v3]) (S' := [.int v3, .ref 1, .int 2, .ref 2]) (H' := (c0 :: bk0 A23 (List.replicate 3 0) (List.replicate 3 0) (List.replicate 32 0) (List.replicate 32 0) (List.replicate 32 0) (List.replicate 32 0) (List.replicate 96 0) (List.replicate 96 0) (List.replicate 32 0) (List.replicate 768 0) (List.replicate 32 0) 0 0 0 0 0 [])) rfl ?_
  obtain ⟨r24, hq10, h⟩ := bnd h
  refine OEnds.call0 hm_3 rfl rfl (by decide) rfl (as := [.ref 1, .int v3]) (rest := [.int 2, .ref 2]) rfl rfl (ok_clampRooms hq10) ?_
  show OEnds own_P 3 130 [qr 1, qi v1, qi v2, qi v3] [.int r24, .int 2, .ref 2] (c0 :: bk0 A23 (List.replicate 3 0) (List.replicate 3 0) (List.replicate 32 0) (List.replicate 32 0) (List.replicate 32 0) (List.replicate 32 0) (List.replicate 96 0) (List.replicate 96 0) (List.replicate 32 0) (List.replicate 768 0) (List.replicate 32 0) 0 0 0 0 0 []) _
  obtain ⟨A25, hA25, h⟩ := bnd h
  refine OEnds.plain hm_3 rfl rfl (x_iastore rfl (Nat.le_of_ble_eq_true rfl) hA25) ?_
  refine OEnds.adv hm_3 1 (pc' := 132) (L' := [qr 1, qi v1, qi v2, qi v3]) (S' := [.ref 1]) (H' := (c0 :: bk0 A25 (List.replicate 3 0) (List.replicate 3 0) (List.replicate 32 0) (List.replicate 32 0) (List.replicate 32 0) (List.replicate 32 0) (List.replicate 96 0) (List.replicate 96 0) (List.replicate 32 0) (List.replicate 768 0) (List.replicate 32 0) 0 0 0 0 0 [])) rfl ?_
  obtain ⟨⟨s26, s27, s28⟩, hq11, h⟩ := bnd h
  refine OEnds.call0 hm_3 rfl rfl (by decide) rfl (as := [.ref 1]) (rest := []) rfl rfl (ok_computeRoomTables hq11) ?_
  refine OEnds.adv hm_3 1 (pc' := 136) (L' := [qr 1, qi v1, qi v2, qi v3]) (S' := [.ref 1]) (H' := (c0 :: bk0 A25 s26 s27 (List.replicate 32 0) (List.replicate 32 0) (List.replicate 32 0) (List.replicate 32 0) (List.replicate 96 0) (List.replicate 96 0) (List.replicate 32 0) (List.replicate 768 0) (List.replicate 32 0) s28 0 0 0 0 [])) rfl ?_
  obtain ⟨⟨s29, s30, s31, s32, s33⟩, hq12, h⟩ := bnd h
  refine OEnds.call0 hm_3 rfl rfl (by decide) rfl (as := [.ref 1]) (rest := []) rfl rfl (ok_resetStays hq12) ?_
  refine OEnds.adv hm_3 1 (pc' := 140) (L' := [qr 1, qi v1, qi v2, qi v3]) (S' := [.ref 1]) (H' := (c0 :: bk0 A25 s26 s27 s29 s30 s31 s32 (List.replicate 96 0) (List.replicate 96 0) (List.replicate 32 0) (List.replicate 768 0) (List.replicate 32 0) s28 s33 0 0 0 [])) rfl ?_
  obtain ⟨⟨s34, s35⟩, hq13, h⟩ := bnd h
  refine OEnds.call0 hm_3 rfl rfl (by decide) rfl (as := [.ref 1]) (rest := []) rfl rfl (ok_resetCounts hq13) ?_
  refine OEnds.adv hm_3 1 (pc' := 144) (L' := [qr 1, qi v1, qi v2, qi v3]) (S' := [.ref 1]) (H' := (c0 :: bk0 A25 s26 s27 s29 s30 s31 s32 s34 s35 (List.replicate 32 0) (List.replicate 768 0) (List.replicate 32 0) s28 s33 0 0 0 [])) rfl ?_
  obtain ⟨⟨s36, s37, s38, s39⟩, hq14, h⟩ := bnd h
  refine OEnds.call0 hm_3 rfl rfl (by decide) rfl (as := [.ref 1]) (rest := []) rfl rfl (ok_clearPlan hq14) ?_
  refine OEnds.adv hm_3 6 (pc' := 157) (L' := [qr 1, qi v1, qi v2, qi v3]) (S' := []) (H' := (c0 :: bk0 A25 s26 s27 s29 s30 s31 s32 s34 s35 s36 s37 s38 s28 s33 s39 0 0 [])) rfl ?_
  cases h
  exact OEnds.vret hm_3 rfl rfl
theorem ok_L_valid {c0 : ACell} {po : List ACell} {v0 v1 v2 res : Int32} (h : f_L_valid v0 v1 v2 = some res) : OEnds own_P 9 0 [qi v0, qi v1, qi v2] [] (c0 :: po) (some (.int res), (c0 :: po), 0, 0) := by
  unfold f_L_valid at h
  refine OEnds.adv hm_9 1 (pc' := 1) (L' := [qi v0, qi v1, qi v2]) (S' := [.int v0]) (H' := (c0 :: po)) rfl ?_
  by_cases hc15 : v0 < (0 : Int32)
  · simp only [if_pos hc15] at h
    refine OEnds.ifT hm_9 rfl (q := 36) rfl ((tlt hc15).1) ?_
    refine OEnds.adv hm_9 1 (pc' := 37) (L' := [qi v0, qi v1, qi v2]) (S' := [.int 0]) (H' := (c0 :: po)) rfl ?_
    cases h
    exact OEnds.iret hm_9 rfl rfl
  · simp only [if_neg hc15] at h
    refine OEnds.ifF hm_9 rfl ((flt hc15).1) ?_
    refine OEnds.adv hm_9 2 (pc' := 6) (L' := [qi v0, qi v1, qi v2]) (S' := [.int 2, .int v0]) (H' := (c0 :: po)) rfl ?_
    by_cases hc16 : (2 : Int32) < v0
    · simp only [if_pos hc16] at h
      refine OEnds.icmpT hm_9 rfl (q := 36) rfl ((tlt hc16).2.2.1) ?_
      refine OEnds.adv hm_9 1 (pc' := 37) (L' := [qi v0, qi v1, qi v2]) (S' := [.int 0]) (H' := (c0 :: po)) rfl ?_
      cases h
      exact OEnds.iret hm_9 rfl rfl
    · simp only [if_neg hc16] at h
      refine OEnds.icmpF hm_9 rfl ((flt hc16).2.2.1) ?_
      refine OEnds.adv hm_9 1 (pc' := 10) (L' := [qi v0, qi v1, qi v2]) (S' := [.int v1]) (H' := (c0 :: po)) rfl ?_
      by_cases hc17 : v1 < (0 : Int32)
      · simp only [if_pos hc17] at h
        refine OEnds.ifT hm_9 rfl (q := 36) rfl ((tlt hc17).1) ?_
        refine OEnds.adv hm_9 1 (pc' := 37) (L' := [qi v0, qi v1, qi v2]) (S' := [.int 0]) (H' := (c0 :: po)) rfl ?_
        cases h
        exact OEnds.iret hm_9 rfl rfl
      · simp only [if_neg hc17] at h
        refine OEnds.ifF hm_9 rfl ((flt hc17).1) ?_
        refine OEnds.adv hm_9 2 (pc' := 16) (L' := [qi v0, qi v1, qi v2]) (S' := [.int 31, .int v1]) (H' := (c0 :: po)) rfl ?_
        by_cases hc18 : (31 : Int32) < v1
        · simp only [if_pos hc18] at h
          refine OEnds.icmpT hm_9 rfl (q := 36) rfl ((tlt hc18).2.2.1) ?_
          refine OEnds.adv hm_9 1 (pc' := 37) (L' := [qi v0, qi v1, qi v2]) (S' := [.int 0]) (H' := (c0 :: po)) rfl ?_
          cases h
          exact OEnds.iret hm_9 rfl rfl
        · simp only [if_neg hc18] at h
          refine OEnds.icmpF hm_9 rfl ((flt hc18).2.2.1) ?_
          refine OEnds.adv hm_9 2 (pc' := 21) (L' := [qi v0, qi v1, qi v2]) (S' := [.int 1, .int v2]) (H' := (c0 :: po)) rfl ?_
          by_cases hc19 : v2 < (1 : Int32)
          · simp only [if_pos hc19] at h
            refine OEnds.icmpT hm_9 rfl (q := 36) rfl ((tlt hc19).1) ?_
            refine OEnds.adv hm_9 1 (pc' := 37) (L' := [qi v0, qi v1, qi v2]) (S' := [.int 0]) (H' := (c0 :: po)) rfl ?_
            cases h
            exact OEnds.iret hm_9 rfl rfl
          · simp only [if_neg hc19] at h
            refine OEnds.icmpF hm_9 rfl ((flt hc19).1) ?_
            refine OEnds.adv hm_9 4 (pc' := 29) (L' := [qi v0, qi v1, qi v2]) (S' := [.int ((32 : Int32) - v1), .int v2]) (H' := (c0 :: po)) rfl ?_
            by_cases hc20 : ((32 : Int32) - v1) < v2
            · simp only [if_pos hc20] at h
              refine OEnds.icmpT hm_9 rfl (q := 36) rfl ((tlt hc20).2.2.1) ?_
              refine OEnds.adv hm_9 1 (pc' := 37) (L' := [qi v0, qi v1, qi v2]) (S' := [.int 0]) (H' := (c0 :: po)) rfl ?_
              cases h
              exact OEnds.iret hm_9 rfl rfl
            · simp only [if_neg hc20] at h
              refine OEnds.icmpF hm_9 rfl ((flt hc20).2.2.1) ?_
              refine OEnds.adv hm_9 2 (pc' := 37) (L' := [qi v0, qi v1, qi v2]) (S' := [.int 1]) (H' := (c0 :: po)) rfl ?_
              cases h
              exact OEnds.iret hm_9 rfl rfl
theorem ok_isActiveStay {zq zo zl za zd zb zc zm zf zj ze zh : List Int32} {zi zn zg zk zp : Int32} {c0 : ACell} {po : List ACell} {v1 res : Int32} (h : f_isActiveStay za v1 = some res) : OEnds own_P 11 0 [qr 1, qi v1] [] (c0 :: bk0 zq zo zl za zd zb zc zm zf zj ze zh zi zn zg zk zp po) (some (.int res), (c0 :: bk0 zq zo zl za zd zb zc zm zf zj ze zh zi zn zg zk zp po), 0, 0) := by
  unfold f_isActiveStay at h
  refine OEnds.adv hm_11 1 (pc' := 1) (L' := [qr 1, qi v1]) (S' := [.int v1]) (H' := (c0 :: bk0 zq zo zl za zd zb zc zm zf zj ze zh zi zn zg zk zp po)) rfl ?_
  by_cases hc21 : v1 < (0 : Int32)
  · simp only [if_pos hc21] at h
    refine OEnds.ifT hm_11 rfl (q := 10) rfl ((tlt hc21).1) ?_
    refine OEnds.adv hm_11 1 (pc' := 11) (L' := [qr 1, qi v1]) (S' := [.int 0]) (H' := (c0 :: bk0 zq zo zl za zd zb zc zm zf zj ze zh zi zn zg zk zp po)) rfl ?_
    cases h
    exact OEnds.iret hm_11 rfl rfl
  · simp only [if_neg hc21] at h
    refine OEnds.ifF hm_11 rfl ((flt hc21).1) ?_
    refine OEnds.adv hm_11 2 (pc' := 7) (L' := [qr 1, qi v1]) (S' := [.int 32, .int v1]) (H' := (c0 :: bk0 zq zo zl za zd zb zc zm zf zj ze zh zi zn zg zk zp po)) rfl ?_
    by_cases hc22 : v1 < (32 : Int32)
    · simp only [if_pos hc22] at h
      refine OEnds.icmpT hm_11 rfl (q := 12) rfl ((tlt hc22).1) ?_
      refine OEnds.adv hm_11 3 (pc' := 17) (L' := [qr 1, qi v1]) (S' := [.int v1, .ref 5]) (H' := (c0 :: bk0 zq zo zl za zd zb zc zm zf zj ze zh zi zn zg zk zp po)) rfl ?_
      obtain ⟨x40, hx40, h⟩ := bnd h
      refine OEnds.plain hm_11 rfl rfl (x_baload rfl hx40) ?_
      show OEnds own_P 11 18 [qr 1, qi v1] [.int x40] (c0 :: bk0 zq zo zl za zd zb zc zm zf zj ze zh zi zn zg zk zp po) _
      cases h
      exact OEnds.iret hm_11 rfl rfl
    · simp only [if_neg hc22] at h
      refine OEnds.icmpF hm_11 rfl ((flt hc22).1) ?_
      refine OEnds.adv hm_11 1 (pc' := 11) (L' := [qr 1, qi v1]) (S' := [.int 0]) (H' := (c0 :: bk0 zq zo zl za zd zb zc zm zf zj ze zh zi zn zg zk zp po)) rfl ?_
      cases h
      exact OEnds.iret hm_11 rfl rfl
theorem ok_stayType {zq zo zl za zd zb zc zm zf zj ze zh : List Int32} {zi zn zg zk zp : Int32} {c0 : ACell} {po : List ACell} {v1 res : Int32} (h : f_stayType za zd v1 = some res) : OEnds own_P 10 0 [qr 1, qi v1] [] (c0 :: bk0 zq zo zl za zd zb zc zm zf zj ze zh zi zn zg zk zp po) (some (.int res), (c0 :: bk0 zq zo zl za zd zb zc zm zf zj ze zh zi zn zg zk zp po), 0, 0) := by
  unfold f_stayType at h
  refine OEnds.adv hm_10 2 (pc' := 2) (L' := [qr 1, qi v1]) (S' := [.int v1, .ref 1]) (H' := (c0 :: bk0 zq zo zl za zd zb zc zm zf zj ze zh zi zn zg zk zp po)) rfl ?_
  obtain ⟨r41, hq23, h⟩ := bnd h
  refine OEnds.call0 hm_10 rfl rfl (by decide) rfl (as := [.ref 1, .int v1]) (rest := []) rfl rfl (ok_isActiveStay hq23) ?_
  show OEnds own_P 10 5 [qr 1, qi v1] [.int r41] (c0 :: bk0 zq zo zl za zd zb zc zm zf zj ze zh zi zn zg zk zp po) _
  by_cases hc24 : r41 = (0 : Int32)
  · simp only [if_pos hc24] at h
    refine OEnds.ifF hm_10 rfl ((teq hc24).2) ?_
    refine OEnds.adv hm_10 1 (pc' := 9) (L' := [qr 1, qi v1]) (S' := [.int (-1)]) (H' := (c0 :: bk0 zq zo zl za zd zb zc zm zf zj ze zh zi zn zg zk zp po)) rfl ?_
    cases h
    exact OEnds.iret hm_10 rfl rfl
  · simp only [if_neg hc24] at h
    refine OEnds.ifT hm_10 rfl (q := 10) rfl ((feq hc24).2) ?_
    refine OEnds.adv hm_10 3 (pc' := 15) (L' := [qr 1, qi v1]) (S' := [.int v1, .ref 6]) (H' := (c0 :: bk0 zq zo zl za zd zb zc zm zf zj ze zh zi zn zg zk zp po)) rfl ?_
    obtain ⟨x42, hx42, h⟩ := bnd h
    refine OEnds.plain hm_10 rfl rfl (x_iaload rfl hx42) ?_
    show OEnds own_P 10 16 [qr 1, qi v1] [.int x42] (c0 :: bk0 zq zo zl za zd zb zc zm zf zj ze zh zi zn zg zk zp po) _
    cases h
    exact OEnds.iret hm_10 rfl rfl
theorem ok_stayArrive {zq zo zl za zd zb zc zm zf zj ze zh : List Int32} {zi zn zg zk zp : Int32} {c0 : ACell} {po : List ACell} {v1 res : Int32} (h : f_stayArrive za zb v1 = some res) : OEnds own_P 29 0 [qr 1, qi v1] [] (c0 :: bk0 zq zo zl za zd zb zc zm zf zj ze zh zi zn zg zk zp po) (some (.int res), (c0 :: bk0 zq zo zl za zd zb zc zm zf zj ze zh zi zn zg zk zp po), 0, 0) := by
  unfold f_stayArrive at h
  refine OEnds.adv hm_29 2 (pc' := 2) (L' := [qr 1, qi v1]) (S' := [.int v1, .ref 1]) (H' := (c0 :: bk0 zq zo zl za zd zb zc zm zf zj ze zh zi zn zg zk zp po)) rfl ?_
  obtain ⟨r43, hq25, h⟩ := bnd h
  refine OEnds.call0 hm_29 rfl rfl (by decide) rfl (as := [.ref 1, .int v1]) (rest := []) rfl rfl (ok_isActiveStay hq25) ?_
  show OEnds own_P 29 5 [qr 1, qi v1] [.int r43] (c0 :: bk0 zq zo zl za zd zb zc zm zf zj ze zh zi zn zg zk zp po) _
  by_cases hc26 : r43 = (0 : Int32)
  · simp only [if_pos hc26] at h
    refine OEnds.ifF hm_29 rfl ((teq hc26).2) ?_
    refine OEnds.adv hm_29 1 (pc' := 9) (L' := [qr 1, qi v1]) (S' := [.int (-1)]) (H' := (c0 :: bk0 zq zo zl za zd zb zc zm zf zj ze zh zi zn zg zk zp po)) rfl ?_
    cases h
    exact OEnds.iret hm_29 rfl rfl
  · simp only [if_neg hc26] at h
    refine OEnds.ifT hm_29 rfl (q := 10) rfl ((feq hc26).2) ?_
    refine OEnds.adv hm_29 3 (pc' := 15) (L' := [qr 1, qi v1]) (S' := [.int v1, .ref 7]) (H' := (c0 :: bk0 zq zo zl za zd zb zc zm zf zj ze zh zi zn zg zk zp po)) rfl ?_
    obtain ⟨x44, hx44, h⟩ := bnd h
    refine OEnds.plain hm_29 rfl rfl (x_iaload rfl hx44) ?_
    show OEnds own_P 29 16 [qr 1, qi v1] [.int x44] (c0 :: bk0 zq zo zl za zd zb zc zm zf zj ze zh zi zn zg zk zp po) _
    cases h
    exact OEnds.iret hm_29 rfl rfl
theorem ok_stayNights {zq zo zl za zd zb zc zm zf zj ze zh : List Int32} {zi zn zg zk zp : Int32} {c0 : ACell} {po : List ACell} {v1 res : Int32} (h : f_stayNights za zc v1 = some res) : OEnds own_P 30 0 [qr 1, qi v1] [] (c0 :: bk0 zq zo zl za zd zb zc zm zf zj ze zh zi zn zg zk zp po) (some (.int res), (c0 :: bk0 zq zo zl za zd zb zc zm zf zj ze zh zi zn zg zk zp po), 0, 0) := by
  unfold f_stayNights at h
  refine OEnds.adv hm_30 2 (pc' := 2) (L' := [qr 1, qi v1]) (S' := [.int v1, .ref 1]) (H' := (c0 :: bk0 zq zo zl za zd zb zc zm zf zj ze zh zi zn zg zk zp po)) rfl ?_
  obtain ⟨r45, hq27, h⟩ := bnd h
  refine OEnds.call0 hm_30 rfl rfl (by decide) rfl (as := [.ref 1, .int v1]) (rest := []) rfl rfl (ok_isActiveStay hq27) ?_
  show OEnds own_P 30 5 [qr 1, qi v1] [.int r45] (c0 :: bk0 zq zo zl za zd zb zc zm zf zj ze zh zi zn zg zk zp po) _
  by_cases hc28 : r45 = (0 : Int32)
  · simp only [if_pos hc28] at h
    refine OEnds.ifF hm_30 rfl ((teq hc28).2) ?_
    refine OEnds.adv hm_30 1 (pc' := 9) (L' := [qr 1, qi v1]) (S' := [.int (-1)]) (H' := (c0 :: bk0 zq zo zl za zd zb zc zm zf zj ze zh zi zn zg zk zp po)) rfl ?_
    cases h
    exact OEnds.iret hm_30 rfl rfl
  · simp only [if_neg hc28] at h
    refine OEnds.ifT hm_30 rfl (q := 10) rfl ((feq hc28).2) ?_
    refine OEnds.adv hm_30 3 (pc' := 15) (L' := [qr 1, qi v1]) (S' := [.int v1, .ref 8]) (H' := (c0 :: bk0 zq zo zl za zd zb zc zm zf zj ze zh zi zn zg zk zp po)) rfl ?_
    obtain ⟨x46, hx46, h⟩ := bnd h
    refine OEnds.plain hm_30 rfl rfl (x_iaload rfl hx46) ?_
    show OEnds own_P 30 16 [qr 1, qi v1] [.int x46] (c0 :: bk0 zq zo zl za zd zb zc zm zf zj ze zh zi zn zg zk zp po) _
    cases h
    exact OEnds.iret hm_30 rfl rfl
theorem ok_L_covers {c0 : ACell} {po : List ACell} {v0 v1 v2 res : Int32} (h : f_L_covers v0 v1 v2 = some res) : OEnds own_P 12 0 [qi v0, qi v1, qi v2] [] (c0 :: po) (some (.int res), (c0 :: po), 0, 0) := by
  unfold f_L_covers at h
  refine OEnds.adv hm_12 2 (pc' := 2) (L' := [qi v0, qi v1, qi v2]) (S' := [.int v0, .int v2]) (H' := (c0 :: po)) rfl ?_
  by_cases hc29 : v2 < v0
  · simp only [if_pos hc29] at h
    refine OEnds.icmpT hm_12 rfl (q := 16) rfl ((tlt hc29).1) ?_
    refine OEnds.adv hm_12 1 (pc' := 17) (L' := [qi v0, qi v1, qi v2]) (S' := [.int 0]) (H' := (c0 :: po)) rfl ?_
    cases h
    exact OEnds.iret hm_12 rfl rfl
  · simp only [if_neg hc29] at h
    refine OEnds.icmpF hm_12 rfl ((flt hc29).1) ?_
    refine OEnds.adv hm_12 4 (pc' := 9) (L' := [qi v0, qi v1, qi v2]) (S' := [.int (v0 + v1), .int v2]) (H' := (c0 :: po)) rfl ?_
    by_cases hc30 : v2 < (v0 + v1)
    · simp only [if_pos hc30] at h
      refine OEnds.icmpF hm_12 rfl ((tlt hc30).2.1) ?_
      refine OEnds.adv hm_12 2 (pc' := 17) (L' := [qi v0, qi v1, qi v2]) (S' := [.int 1]) (H' := (c0 :: po)) rfl ?_
      cases h
      exact OEnds.iret hm_12 rfl rfl
    · simp only [if_neg hc30] at h
      refine OEnds.icmpT hm_12 rfl (q := 16) rfl ((flt hc30).2.1) ?_
      refine OEnds.adv hm_12 1 (pc' := 17) (L' := [qi v0, qi v1, qi v2]) (S' := [.int 0]) (H' := (c0 :: po)) rfl ?_
      cases h
      exact OEnds.iret hm_12 rfl rfl
theorem ok_isValidType {zq zo zl za zd zb zc zm zf zj ze zh : List Int32} {zi zn zg zk zp : Int32} {c0 : ACell} {po : List ACell} {v1 res : Int32} (h : f_isValidType v1 = some res) : OEnds own_P 15 0 [qr 1, qi v1] [] (c0 :: bk0 zq zo zl za zd zb zc zm zf zj ze zh zi zn zg zk zp po) (some (.int res), (c0 :: bk0 zq zo zl za zd zb zc zm zf zj ze zh zi zn zg zk zp po), 0, 0) := by
  unfold f_isValidType at h
  refine OEnds.adv hm_15 1 (pc' := 1) (L' := [qr 1, qi v1]) (S' := [.int v1]) (H' := (c0 :: bk0 zq zo zl za zd zb zc zm zf zj ze zh zi zn zg zk zp po)) rfl ?_
  by_cases hc31 : v1 < (0 : Int32)
  · simp only [if_pos hc31] at h
    refine OEnds.ifT hm_15 rfl (q := 13) rfl ((tlt hc31).1) ?_
    refine OEnds.adv hm_15 1 (pc' := 14) (L' := [qr 1, qi v1]) (S' := [.int 0]) (H' := (c0 :: bk0 zq zo zl za zd zb zc zm zf zj ze zh zi zn zg zk zp po)) rfl ?_
    cases h
    exact OEnds.iret hm_15 rfl rfl
  · simp only [if_neg hc31] at h
    refine OEnds.ifF hm_15 rfl ((flt hc31).1) ?_
    refine OEnds.adv hm_15 2 (pc' := 6) (L' := [qr 1, qi v1]) (S' := [.int 3, .int v1]) (H' := (c0 :: bk0 zq zo zl za zd zb zc zm zf zj ze zh zi zn zg zk zp po)) rfl ?_
    by_cases hc32 : v1 < (3 : Int32)
    · simp only [if_pos hc32] at h
      refine OEnds.icmpF hm_15 rfl ((tlt hc32).2.1) ?_
      refine OEnds.adv hm_15 2 (pc' := 14) (L' := [qr 1, qi v1]) (S' := [.int 1]) (H' := (c0 :: bk0 zq zo zl za zd zb zc zm zf zj ze zh zi zn zg zk zp po)) rfl ?_
      cases h
      exact OEnds.iret hm_15 rfl rfl
    · simp only [if_neg hc32] at h
      refine OEnds.icmpT hm_15 rfl (q := 13) rfl ((flt hc32).2.1) ?_
      refine OEnds.adv hm_15 1 (pc' := 14) (L' := [qr 1, qi v1]) (S' := [.int 0]) (H' := (c0 :: bk0 zq zo zl za zd zb zc zm zf zj ze zh zi zn zg zk zp po)) rfl ?_
      cases h
      exact OEnds.iret hm_15 rfl rfl
theorem ok_isValidNight {zq zo zl za zd zb zc zm zf zj ze zh : List Int32} {zi zn zg zk zp : Int32} {c0 : ACell} {po : List ACell} {v1 res : Int32} (h : f_isValidNight v1 = some res) : OEnds own_P 16 0 [qr 1, qi v1] [] (c0 :: bk0 zq zo zl za zd zb zc zm zf zj ze zh zi zn zg zk zp po) (some (.int res), (c0 :: bk0 zq zo zl za zd zb zc zm zf zj ze zh zi zn zg zk zp po), 0, 0) := by
  unfold f_isValidNight at h
  refine OEnds.adv hm_16 1 (pc' := 1) (L' := [qr 1, qi v1]) (S' := [.int v1]) (H' := (c0 :: bk0 zq zo zl za zd zb zc zm zf zj ze zh zi zn zg zk zp po)) rfl ?_
  by_cases hc33 : v1 < (0 : Int32)
  · simp only [if_pos hc33] at h
    refine OEnds.ifT hm_16 rfl (q := 14) rfl ((tlt hc33).1) ?_
    refine OEnds.adv hm_16 1 (pc' := 15) (L' := [qr 1, qi v1]) (S' := [.int 0]) (H' := (c0 :: bk0 zq zo zl za zd zb zc zm zf zj ze zh zi zn zg zk zp po)) rfl ?_
    cases h
    exact OEnds.iret hm_16 rfl rfl
  · simp only [if_neg hc33] at h
    refine OEnds.ifF hm_16 rfl ((flt hc33).1) ?_
    refine OEnds.adv hm_16 2 (pc' := 7) (L' := [qr 1, qi v1]) (S' := [.int 32, .int v1]) (H' := (c0 :: bk0 zq zo zl za zd zb zc zm zf zj ze zh zi zn zg zk zp po)) rfl ?_
    by_cases hc34 : v1 < (32 : Int32)
    · simp only [if_pos hc34] at h
      refine OEnds.icmpF hm_16 rfl ((tlt hc34).2.1) ?_
      refine OEnds.adv hm_16 2 (pc' := 15) (L' := [qr 1, qi v1]) (S' := [.int 1]) (H' := (c0 :: bk0 zq zo zl za zd zb zc zm zf zj ze zh zi zn zg zk zp po)) rfl ?_
      cases h
      exact OEnds.iret hm_16 rfl rfl
    · simp only [if_neg hc34] at h
      refine OEnds.icmpT hm_16 rfl (q := 14) rfl ((flt hc34).2.1) ?_
      refine OEnds.adv hm_16 1 (pc' := 15) (L' := [qr 1, qi v1]) (S' := [.int 0]) (H' := (c0 :: bk0 zq zo zl za zd zb zc zm zf zj ze zh zi zn zg zk zp po)) rfl ?_
      cases h
      exact OEnds.iret hm_16 rfl rfl
theorem ok_isValidLength {zq zo zl za zd zb zc zm zf zj ze zh : List Int32} {zi zn zg zk zp : Int32} {c0 : ACell} {po : List ACell} {v1 v2 res : Int32} (h : f_isValidLength v1 v2 = some res) : OEnds own_P 17 0 [qr 1, qi v1, qi v2] [] (c0 :: bk0 zq zo zl za zd zb zc zm zf zj ze zh zi zn zg zk zp po) (some (.int res), (c0 :: bk0 zq zo zl za zd zb zc zm zf zj ze zh zi zn zg zk zp po), 0, 0) := by
  unfold f_isValidLength at h
  refine OEnds.adv hm_17 2 (pc' := 2) (L' := [qr 1, qi v1, qi v2]) (S' := [.int 1, .int v2]) (H' := (c0 :: bk0 zq zo zl za zd zb zc zm zf zj ze zh zi zn zg zk zp po)) rfl ?_
  by_cases hc35 : v2 < (1 : Int32)
  · simp only [if_pos hc35] at h
    refine OEnds.icmpF hm_17 rfl ((tlt hc35).2.1) ?_
    refine OEnds.adv hm_17 1 (pc' := 6) (L' := [qr 1, qi v1, qi v2]) (S' := [.int 0]) (H' := (c0 :: bk0 zq zo zl za zd zb zc zm zf zj ze zh zi zn zg zk zp po)) rfl ?_
    cases h
    exact OEnds.iret hm_17 rfl rfl
  · simp only [if_neg hc35] at h
    refine OEnds.icmpT hm_17 rfl (q := 7) rfl ((flt hc35).2.1) ?_
    refine OEnds.adv hm_17 4 (pc' := 12) (L' := [qr 1, qi v1, qi v2]) (S' := [.int ((32 : Int32) - v1), .int v2]) (H' := (c0 :: bk0 zq zo zl za zd zb zc zm zf zj ze zh zi zn zg zk zp po)) rfl ?_
    by_cases hc36 : ((32 : Int32) - v1) < v2
    · simp only [if_pos hc36] at h
      refine OEnds.icmpT hm_17 rfl (q := 19) rfl ((tlt hc36).2.2.1) ?_
      refine OEnds.adv hm_17 1 (pc' := 20) (L' := [qr 1, qi v1, qi v2]) (S' := [.int 0]) (H' := (c0 :: bk0 zq zo zl za zd zb zc zm zf zj ze zh zi zn zg zk zp po)) rfl ?_
      cases h
      exact OEnds.iret hm_17 rfl rfl
    · simp only [if_neg hc36] at h
      refine OEnds.icmpF hm_17 rfl ((flt hc36).2.2.1) ?_
      refine OEnds.adv hm_17 2 (pc' := 20) (L' := [qr 1, qi v1, qi v2]) (S' := [.int 1]) (H' := (c0 :: bk0 zq zo zl za zd zb zc zm zf zj ze zh zi zn zg zk zp po)) rfl ?_
      cases h
      exact OEnds.iret hm_17 rfl rfl
theorem ok_requestError {zq zo zl za zd zb zc zm zf zj ze zh : List Int32} {zi zn zg zk zp : Int32} {c0 : ACell} {po : List ACell} {v1 v2 v3 res : Int32} (h : f_requestError v1 v2 v3 = some res) : OEnds own_P 14 0 [qr 1, qi v1, qi v2, qi v3] [] (c0 :: bk0 zq zo zl za zd zb zc zm zf zj ze zh zi zn zg zk zp po) (some (.int res), (c0 :: bk0 zq zo zl za zd zb zc zm zf zj ze zh zi zn zg zk zp po), 0, 0) := by
  unfold f_requestError at h
  refine OEnds.adv hm_14 2 (pc' := 2) (L' := [qr 1, qi v1, qi v2, qi v3]) (S' := [.int v1, .ref 1]) (H' := (c0 :: bk0 zq zo zl za zd zb zc zm zf zj ze zh zi zn zg zk zp po)) rfl ?_
  obtain ⟨r47, hq37, h⟩ := bnd h
  refine OEnds.call0 hm_14 rfl rfl (by decide) rfl (as := [.ref 1, .int v1]) (rest := []) rfl rfl (ok_isValidType hq37) ?_
  show OEnds own_P 14 5 [qr 1, qi v1, qi v2, qi v3] [.int r47] (c0 :: bk0 zq zo zl za zd zb zc zm zf zj ze zh zi zn zg zk zp po) _
  by_cases hc38 : r47 = (0 : Int32)
  · simp only [if_pos hc38] at h
    refine OEnds.ifF hm_14 rfl ((teq hc38).2) ?_
    refine OEnds.adv hm_14 1 (pc' := 9) (L' := [qr 1, qi v1, qi v2, qi v3]) (S' := [.int (-1)]) (H' := (c0 :: bk0 zq zo zl za zd zb zc zm zf zj ze zh zi zn zg zk zp po)) rfl ?_
    cases h
    exact OEnds.iret hm_14 rfl rfl
  · simp only [if_neg hc38] at h
    refine OEnds.ifT hm_14 rfl (q := 10) rfl ((feq hc38).2) ?_
    refine OEnds.adv hm_14 2 (pc' := 12) (L' := [qr 1, qi v1, qi v2, qi v3]) (S' := [.int v2, .ref 1]) (H' := (c0 :: bk0 zq zo zl za zd zb zc zm zf zj ze zh zi zn zg zk zp po)) rfl ?_
    obtain ⟨r48, hq39, h⟩ := bnd h
    refine OEnds.call0 hm_14 rfl rfl (by decide) rfl (as := [.ref 1, .int v2]) (rest := []) rfl rfl (ok_isValidNight hq39) ?_
    show OEnds own_P 14 15 [qr 1, qi v1, qi v2, qi v3] [.int r48] (c0 :: bk0 zq zo zl za zd zb zc zm zf zj ze zh zi zn zg zk zp po) _
    by_cases hc40 : r48 = (0 : Int32)
    · simp only [if_pos hc40] at h
      refine OEnds.ifF hm_14 rfl ((teq hc40).2) ?_
      refine OEnds.adv hm_14 1 (pc' := 20) (L' := [qr 1, qi v1, qi v2, qi v3]) (S' := [.int (-2)]) (H' := (c0 :: bk0 zq zo zl za zd zb zc zm zf zj ze zh zi zn zg zk zp po)) rfl ?_
      cases h
      exact OEnds.iret hm_14 rfl rfl
    · simp only [if_neg hc40] at h
      refine OEnds.ifT hm_14 rfl (q := 21) rfl ((feq hc40).2) ?_
      refine OEnds.adv hm_14 3 (pc' := 24) (L' := [qr 1, qi v1, qi v2, qi v3]) (S' := [.int v3, .int v2, .ref 1]) (H' := (c0 :: bk0 zq zo zl za zd zb zc zm zf zj ze zh zi zn zg zk zp po)) rfl ?_
      obtain ⟨r49, hq41, h⟩ := bnd h
      refine OEnds.call0 hm_14 rfl rfl (by decide) rfl (as := [.ref 1, .int v2, .int v3]) (rest := []) rfl rfl (ok_isValidLength hq41) ?_
      show OEnds own_P 14 27 [qr 1, qi v1, qi v2, qi v3] [.int r49] (c0 :: bk0 zq zo zl za zd zb zc zm zf zj ze zh zi zn zg zk zp po) _
      by_cases hc42 : r49 = (0 : Int32)
      · simp only [if_pos hc42] at h
        refine OEnds.ifF hm_14 rfl ((teq hc42).2) ?_
        refine OEnds.adv hm_14 1 (pc' := 32) (L' := [qr 1, qi v1, qi v2, qi v3]) (S' := [.int (-2)]) (H' := (c0 :: bk0 zq zo zl za zd zb zc zm zf zj ze zh zi zn zg zk zp po)) rfl ?_
        cases h
        exact OEnds.iret hm_14 rfl rfl
      · simp only [if_neg hc42] at h
        refine OEnds.ifT hm_14 rfl (q := 33) rfl ((feq hc42).2) ?_
        refine OEnds.adv hm_14 1 (pc' := 34) (L' := [qr 1, qi v1, qi v2, qi v3]) (S' := [.int 0]) (H' := (c0 :: bk0 zq zo zl za zd zb zc zm zf zj ze zh zi zn zg zk zp po)) rfl ?_
        cases h
        exact OEnds.iret hm_14 rfl rfl
theorem ok_endOf {zq zo zl za zd zb zc zm zf zj ze zh : List Int32} {zi zn zg zk zp : Int32} {c0 : ACell} {po : List ACell} {v1 v2 res : Int32} (h : f_endOf v1 v2 = some res) : OEnds own_P 19 0 [qr 1, qi v1, qi v2, qu] [] (c0 :: bk0 zq zo zl za zd zb zc zm zf zj ze zh zi zn zg zk zp po) (some (.int res), (c0 :: bk0 zq zo zl za zd zb zc zm zf zj ze zh zi zn zg zk zp po), 0, 0) := by
  unfold f_endOf at h
  refine OEnds.adv hm_19 6 (pc' := 7) (L' := [qr 1, qi v1, qi v2, qi (v1 + v2)]) (S' := [.int 32, .int (v1 + v2)]) (H' := (c0 :: bk0 zq zo zl za zd zb zc zm zf zj ze zh zi zn zg zk zp po)) rfl ?_
  by_cases hc43 : (32 : Int32) < (v1 + v2)
  · simp only [if_pos hc43] at h
    refine OEnds.icmpF hm_19 rfl ((tlt hc43).2.2.2) ?_
    refine OEnds.adv hm_19 1 (pc' := 12) (L' := [qr 1, qi v1, qi v2, qi (v1 + v2)]) (S' := [.int 32]) (H' := (c0 :: bk0 zq zo zl za zd zb zc zm zf zj ze zh zi zn zg zk zp po)) rfl ?_
    cases h
    exact OEnds.iret hm_19 rfl rfl
  · simp only [if_neg hc43] at h
    refine OEnds.icmpT hm_19 rfl (q := 13) rfl ((flt hc43).2.2.2) ?_
    refine OEnds.adv hm_19 1 (pc' := 14) (L' := [qr 1, qi v1, qi v2, qi (v1 + v2)]) (S' := [.int (v1 + v2)]) (H' := (c0 :: bk0 zq zo zl za zd zb zc zm zf zj ze zh zi zn zg zk zp po)) rfl ?_
    cases h
    exact OEnds.iret hm_19 rfl rfl
theorem ok_countIndex {zq zo zl za zd zb zc zm zf zj ze zh : List Int32} {zi zn zg zk zp : Int32} {c0 : ACell} {po : List ACell} {v1 v2 res : Int32} (h : f_countIndex v1 v2 = some res) : OEnds own_P 22 0 [qr 1, qi v1, qi v2] [] (c0 :: bk0 zq zo zl za zd zb zc zm zf zj ze zh zi zn zg zk zp po) (some (.int res), (c0 :: bk0 zq zo zl za zd zb zc zm zf zj ze zh zi zn zg zk zp po), 0, 0) := by
  unfold f_countIndex at h
  refine OEnds.adv hm_22 5 (pc' := 6) (L' := [qr 1, qi v1, qi v2]) (S' := [.int ((v1 * (32 : Int32)) + v2)]) (H' := (c0 :: bk0 zq zo zl za zd zb zc zm zf zj ze zh zi zn zg zk zp po)) rfl ?_
  cases h
  exact OEnds.iret hm_22 rfl rfl
theorem ok_atLeastAt {zq zo zl za zd zb zc zm zf zj ze zh : List Int32} {zi zn zg zk zp : Int32} {c0 : ACell} {po : List ACell} {v1 v2 res : Int32} (h : f_atLeastAt zf v1 v2 = some res) : OEnds own_P 21 0 [qr 1, qi v1, qi v2] [] (c0 :: bk0 zq zo zl za zd zb zc zm zf zj ze zh zi zn zg zk zp po) (some (.int res), (c0 :: bk0 zq zo zl za zd zb zc zm zf zj ze zh zi zn zg zk zp po), 0, 0) := by
  unfold f_atLeastAt at h
  refine OEnds.adv hm_21 2 (pc' := 2) (L' := [qr 1, qi v1, qi v2]) (S' := [.int v1, .ref 1]) (H' := (c0 :: bk0 zq zo zl za zd zb zc zm zf zj ze zh zi zn zg zk zp po)) rfl ?_
  obtain ⟨r50, hq44, h⟩ := bnd h
  refine OEnds.call0 hm_21 rfl rfl (by decide) rfl (as := [.ref 1, .int v1]) (rest := []) rfl rfl (ok_isValidType hq44) ?_
  show OEnds own_P 21 5 [qr 1, qi v1, qi v2] [.int r50] (c0 :: bk0 zq zo zl za zd zb zc zm zf zj ze zh zi zn zg zk zp po) _
  by_cases hc45 : r50 = (0 : Int32)
  · simp only [if_pos hc45] at h
    refine OEnds.ifT hm_21 rfl (q := 16) rfl ((teq hc45).1) ?_
    refine OEnds.adv hm_21 1 (pc' := 17) (L' := [qr 1, qi v1, qi v2]) (S' := [.int 0]) (H' := (c0 :: bk0 zq zo zl za zd zb zc zm zf zj ze zh zi zn zg zk zp po)) rfl ?_
    cases h
    exact OEnds.iret hm_21 rfl rfl
  · simp only [if_neg hc45] at h
    refine OEnds.ifF hm_21 rfl ((feq hc45).1) ?_
    refine OEnds.adv hm_21 2 (pc' := 10) (L' := [qr 1, qi v1, qi v2]) (S' := [.int v2, .ref 1]) (H' := (c0 :: bk0 zq zo zl za zd zb zc zm zf zj ze zh zi zn zg zk zp po)) rfl ?_
    obtain ⟨r51, hq46, h⟩ := bnd h
    refine OEnds.call0 hm_21 rfl rfl (by decide) rfl (as := [.ref 1, .int v2]) (rest := []) rfl rfl (ok_isValidNight hq46) ?_
    show OEnds own_P 21 13 [qr 1, qi v1, qi v2] [.int r51] (c0 :: bk0 zq zo zl za zd zb zc zm zf zj ze zh zi zn zg zk zp po) _
    by_cases hc47 : r51 = (0 : Int32)
    · simp only [if_pos hc47] at h
      refine OEnds.ifF hm_21 rfl ((teq hc47).2) ?_
      refine OEnds.adv hm_21 1 (pc' := 17) (L' := [qr 1, qi v1, qi v2]) (S' := [.int 0]) (H' := (c0 :: bk0 zq zo zl za zd zb zc zm zf zj ze zh zi zn zg zk zp po)) rfl ?_
      cases h
      exact OEnds.iret hm_21 rfl rfl
    · simp only [if_neg hc47] at h
      refine OEnds.ifT hm_21 rfl (q := 18) rfl ((feq hc47).2) ?_
      refine OEnds.adv hm_21 5 (pc' := 25) (L' := [qr 1, qi v1, qi v2]) (S' := [.int v2, .int v1, .ref 1, .ref 10]) (H' := (c0 :: bk0 zq zo zl za zd zb zc zm zf zj ze zh zi zn zg zk zp po)) rfl ?_
      obtain ⟨r52, hq48, h⟩ := bnd h
      refine OEnds.call0 hm_21 rfl rfl (by decide) rfl (as := [.ref 1, .int v1, .int v2]) (rest := [.ref 10]) rfl rfl (ok_countIndex hq48) ?_
      show OEnds own_P 21 28 [qr 1, qi v1, qi v2] [.int r52, .ref 10] (c0 :: bk0 zq zo zl za zd zb zc zm zf zj ze zh zi zn zg zk zp po) _
      obtain ⟨x53, hx53, h⟩ := bnd h
      refine OEnds.plain hm_21 rfl rfl (x_iaload rfl hx53) ?_
      show OEnds own_P 21 29 [qr 1, qi v1, qi v2] [.int x53] (c0 :: bk0 zq zo zl za zd zb zc zm zf zj ze zh zi zn zg zk zp po) _
      cases h
      exact OEnds.iret hm_21 rfl rfl
theorem ok_coversNight {zq zo zl za zd zb zc zm zf zj ze zh : List Int32} {zi zn zg zk zp : Int32} {c0 : ACell} {po : List ACell} {v1 v2 res : Int32} (h : f_coversNight za zb zc v1 v2 = some res) : OEnds own_P 49 0 [qr 1, qi v1, qi v2, qu] [] (c0 :: bk0 zq zo zl za zd zb zc zm zf zj ze zh zi zn zg zk zp po) (some (.int res), (c0 :: bk0 zq zo zl za zd zb zc zm zf zj ze zh zi zn zg zk zp po), 0, 0) := by
  unfold f_coversNight at h
  refine OEnds.adv hm_49 2 (pc' := 2) (L' := [qr 1, qi v1, qi v2, qu]) (S' := [.int v1, .ref 1]) (H' := (c0 :: bk0 zq zo zl za zd zb zc zm zf zj ze zh zi zn zg zk zp po)) rfl ?_
  obtain ⟨r54, hq49, h⟩ := bnd h
  refine OEnds.call0 hm_49 rfl rfl (by decide) rfl (as := [.ref 1, .int v1]) (rest := []) rfl rfl (ok_isActiveStay hq49) ?_
  show OEnds own_P 49 5 [qr 1, qi v1, qi v2, qu] [.int r54] (c0 :: bk0 zq zo zl za zd zb zc zm zf zj ze zh zi zn zg zk zp po) _
  by_cases hc50 : r54 = (0 : Int32)
  · simp only [if_pos hc50] at h
    refine OEnds.ifF hm_49 rfl ((teq hc50).2) ?_
    refine OEnds.adv hm_49 1 (pc' := 9) (L' := [qr 1, qi v1, qi v2, qu]) (S' := [.int 0]) (H' := (c0 :: bk0 zq zo zl za zd zb zc zm zf zj ze zh zi zn zg zk zp po)) rfl ?_
    cases h
    exact OEnds.iret hm_49 rfl rfl
  · simp only [if_neg hc50] at h
    refine OEnds.ifT hm_49 rfl (q := 10) rfl ((feq hc50).2) ?_
    refine OEnds.adv hm_49 3 (pc' := 15) (L' := [qr 1, qi v1, qi v2, qu]) (S' := [.int v1, .ref 7]) (H' := (c0 :: bk0 zq zo zl za zd zb zc zm zf zj ze zh zi zn zg zk zp po)) rfl ?_
    obtain ⟨x55, hx55, h⟩ := bnd h
    refine OEnds.plain hm_49 rfl rfl (x_iaload rfl hx55) ?_
    refine OEnds.adv hm_49 3 (pc' := 19) (L' := [qr 1, qi v1, qi v2, qi x55]) (S' := [.int x55, .int v2]) (H' := (c0 :: bk0 zq zo zl za zd zb zc zm zf zj ze zh zi zn zg zk zp po)) rfl ?_
    by_cases hc51 : v2 < x55
    · simp only [if_pos hc51] at h
      refine OEnds.icmpT hm_49 rfl (q := 38) rfl ((tlt hc51).1) ?_
      refine OEnds.adv hm_49 1 (pc' := 39) (L' := [qr 1, qi v1, qi v2, qi x55]) (S' := [.int 0]) (H' := (c0 :: bk0 zq zo zl za zd zb zc zm zf zj ze zh zi zn zg zk zp po)) rfl ?_
      cases h
      exact OEnds.iret hm_49 rfl rfl
    · simp only [if_neg hc51] at h
      refine OEnds.icmpF hm_49 rfl ((flt hc51).1) ?_
      refine OEnds.adv hm_49 6 (pc' := 30) (L' := [qr 1, qi v1, qi v2, qi x55]) (S' := [.int v1, .ref 8, .int (v2 - x55)]) (H' := (c0 :: bk0 zq zo zl za zd zb zc zm zf zj ze zh zi zn zg zk zp po)) rfl ?_
      obtain ⟨x56, hx56, h⟩ := bnd h
      refine OEnds.plain hm_49 rfl rfl (x_iaload rfl hx56) ?_
      show OEnds own_P 49 31 [qr 1, qi v1, qi v2, qi x55] [.int x56, .int (v2 - x55)] (c0 :: bk0 zq zo zl za zd zb zc zm zf zj ze zh zi zn zg zk zp po) _
      by_cases hc52 : (v2 - x55) < x56
      · simp only [if_pos hc52] at h
        refine OEnds.icmpF hm_49 rfl ((tlt hc52).2.1) ?_
        refine OEnds.adv hm_49 2 (pc' := 39) (L' := [qr 1, qi v1, qi v2, qi x55]) (S' := [.int 1]) (H' := (c0 :: bk0 zq zo zl za zd zb zc zm zf zj ze zh zi zn zg zk zp po)) rfl ?_
        cases h
        exact OEnds.iret hm_49 rfl rfl
      · simp only [if_neg hc52] at h
        refine OEnds.icmpT hm_49 rfl (q := 38) rfl ((flt hc52).2.1) ?_
        refine OEnds.adv hm_49 1 (pc' := 39) (L' := [qr 1, qi v1, qi v2, qi x55]) (S' := [.int 0]) (H' := (c0 :: bk0 zq zo zl za zd zb zc zm zf zj ze zh zi zn zg zk zp po)) rfl ?_
        cases h
        exact OEnds.iret hm_49 rfl rfl
theorem ok_exclusion {zq zo zl za zd zb zc zm zf zj ze zh : List Int32} {zi zn zg zk zp : Int32} {c0 : ACell} {po : List ACell} {v1 v2 v3 res : Int32} (h : f_exclusion za zd zb zc v1 v2 v3 = some res) : OEnds own_P 23 0 [qr 1, qi v1, qi v2, qi v3] [] (c0 :: bk0 zq zo zl za zd zb zc zm zf zj ze zh zi zn zg zk zp po) (some (.int res), (c0 :: bk0 zq zo zl za zd zb zc zm zf zj ze zh zi zn zg zk zp po), 0, 0) := by
  unfold f_exclusion at h
  refine OEnds.adv hm_23 2 (pc' := 2) (L' := [qr 1, qi v1, qi v2, qi v3]) (S' := [.int v1, .ref 1]) (H' := (c0 :: bk0 zq zo zl za zd zb zc zm zf zj ze zh zi zn zg zk zp po)) rfl ?_
  obtain ⟨r57, hq53, h⟩ := bnd h
  refine OEnds.call0 hm_23 rfl rfl (by decide) rfl (as := [.ref 1, .int v1]) (rest := []) rfl rfl (ok_isActiveStay hq53) ?_
  show OEnds own_P 23 5 [qr 1, qi v1, qi v2, qi v3] [.int r57] (c0 :: bk0 zq zo zl za zd zb zc zm zf zj ze zh zi zn zg zk zp po) _
  by_cases hc54 : r57 = (0 : Int32)
  · simp only [if_pos hc54] at h
    refine OEnds.ifF hm_23 rfl ((teq hc54).2) ?_
    refine OEnds.adv hm_23 1 (pc' := 9) (L' := [qr 1, qi v1, qi v2, qi v3]) (S' := [.int 0]) (H' := (c0 :: bk0 zq zo zl za zd zb zc zm zf zj ze zh zi zn zg zk zp po)) rfl ?_
    cases h
    exact OEnds.iret hm_23 rfl rfl
  · simp only [if_neg hc54] at h
    refine OEnds.ifT hm_23 rfl (q := 10) rfl ((feq hc54).2) ?_
    refine OEnds.adv hm_23 3 (pc' := 15) (L' := [qr 1, qi v1, qi v2, qi v3]) (S' := [.int v1, .ref 6]) (H' := (c0 :: bk0 zq zo zl za zd zb zc zm zf zj ze zh zi zn zg zk zp po)) rfl ?_
    obtain ⟨x58, hx58, h⟩ := bnd h
    refine OEnds.plain hm_23 rfl rfl (x_iaload rfl hx58) ?_
    refine OEnds.adv hm_23 1 (pc' := 17) (L' := [qr 1, qi v1, qi v2, qi v3]) (S' := [.int v2, .int x58]) (H' := (c0 :: bk0 zq zo zl za zd zb zc zm zf zj ze zh zi zn zg zk zp po)) rfl ?_
    by_cases hc55 : x58 < v2
    · simp only [if_pos hc55] at h
      refine OEnds.icmpF hm_23 rfl ((tlt hc55).2.1) ?_
      refine OEnds.adv hm_23 1 (pc' := 21) (L' := [qr 1, qi v1, qi v2, qi v3]) (S' := [.int 0]) (H' := (c0 :: bk0 zq zo zl za zd zb zc zm zf zj ze zh zi zn zg zk zp po)) rfl ?_
      cases h
      exact OEnds.iret hm_23 rfl rfl
    · simp only [if_neg hc55] at h
      refine OEnds.icmpT hm_23 rfl (q := 22) rfl ((flt hc55).2.1) ?_
      refine OEnds.adv hm_23 3 (pc' := 25) (L' := [qr 1, qi v1, qi v2, qi v3]) (S' := [.int v3, .int v1, .ref 1]) (H' := (c0 :: bk0 zq zo zl za zd zb zc zm zf zj ze zh zi zn zg zk zp po)) rfl ?_
      obtain ⟨r59, hq56, h⟩ := bnd h
      refine OEnds.call0 hm_23 rfl rfl (by decide) rfl (as := [.ref 1, .int v1, .int v3]) (rest := []) rfl rfl (ok_coversNight hq56) ?_
      show OEnds own_P 23 28 [qr 1, qi v1, qi v2, qi v3] [.int r59] (c0 :: bk0 zq zo zl za zd zb zc zm zf zj ze zh zi zn zg zk zp po) _
      by_cases hc57 : r59 = (0 : Int32)
      · simp only [if_pos hc57] at h
        refine OEnds.ifT hm_23 rfl (q := 33) rfl ((teq hc57).1) ?_
        refine OEnds.adv hm_23 1 (pc' := 34) (L' := [qr 1, qi v1, qi v2, qi v3]) (S' := [.int 0]) (H' := (c0 :: bk0 zq zo zl za zd zb zc zm zf zj ze zh zi zn zg zk zp po)) rfl ?_
        cases h
        exact OEnds.iret hm_23 rfl rfl
      · simp only [if_neg hc57] at h
        refine OEnds.ifF hm_23 rfl ((feq hc57).1) ?_
        refine OEnds.adv hm_23 1 (pc' := 32) (L' := [qr 1, qi v1, qi v2, qi v3]) (S' := [.int 1]) (H' := (c0 :: bk0 zq zo zl za zd zb zc zm zf zj ze zh zi zn zg zk zp po)) rfl ?_
        cases h
        exact OEnds.iret hm_23 rfl rfl
theorem ok_nightFits_3 {zq zo zl za zd zb zc zm zf zj ze zh : List Int32} {zi zn zg zk zp : Int32} {c0 : ACell} {po : List ACell} : ∀ (n : Nat), ∀ {v1 v2 v3 v4 : Int32} {d5 d6 d7 : Slot} {res : Int32}, f_nightFits_3 zo za zd zb zc zf n v1 v2 v3 v4 = some res → OEnds own_P 20 3 [qr 1, qi v1, qi v2, qi v3, qi v4, d5, d6, d7] [] (c0 :: bk0 zq zo zl za zd zb zc zm zf zj ze zh zi zn zg zk zp po) (some (.int res), (c0 :: bk0 zq zo zl za zd zb zc zm zf zj ze zh zi zn zg zk zp po), 0, 0) := by
  intro n
  induction n with
  | zero => intro v1 v2 v3 v4 d5 d6 d7 res h; cases h
  | succ n ih =>
    intro v1 v2 v3 v4 d5 d6 d7 res h
    unfold f_nightFits_3 at h
    refine OEnds.adv hm_20 2 (pc' := 6) (L' := [qr 1, qi v1, qi v2, qi v3, qi v4, qu, qu, qu]) (S' := [.int v2, .int v4]) (H' := (c0 :: bk0 zq zo zl za zd zb zc zm zf zj ze zh zi zn zg zk zp po)) rfl ?_
    by_cases hc58 : v2 < v4
    · simp only [if_pos hc58] at h
      refine OEnds.icmpT hm_20 rfl (q := 63) rfl ((tlt hc58).2.2.1) ?_
      refine OEnds.adv hm_20 1 (pc' := 64) (L' := [qr 1, qi v1, qi v2, qi v3, qi v4, qu, qu, qu]) (S' := [.int 1]) (H' := (c0 :: bk0 zq zo zl za zd zb zc zm zf zj ze zh zi zn zg zk zp po)) rfl ?_
      cases h
      exact OEnds.iret hm_20 rfl rfl
    · simp only [if_neg hc58] at h
      refine OEnds.icmpF hm_20 rfl ((flt hc58).2.2.1) ?_
      refine OEnds.adv hm_20 2 (pc' := 12) (L' := [qr 1, qi v1, qi v2, qi v3, qi v4, qu, qu, qu]) (S' := [.int 3, .int v4]) (H' := (c0 :: bk0 zq zo zl za zd zb zc zm zf zj ze zh zi zn zg zk zp po)) rfl ?_
      by_cases hc59 : v4 < (3 : Int32)
      · simp only [if_pos hc59] at h
        refine OEnds.icmpF hm_20 rfl ((tlt hc59).2.1) ?_
        refine OEnds.adv hm_20 3 (pc' := 19) (L' := [qr 1, qi v1, qi v2, qi v3, qi v4, qu, qu, qu]) (S' := [.int v3, .int v4, .ref 1]) (H' := (c0 :: bk0 zq zo zl za zd zb zc zm zf zj ze zh zi zn zg zk zp po)) rfl ?_
        obtain ⟨r60, hq60, h⟩ := bnd h
        refine OEnds.call0 hm_20 rfl rfl (by decide) rfl (as := [.ref 1, .int v4, .int v3]) (rest := []) rfl rfl (ok_atLeastAt hq60) ?_
        refine OEnds.adv hm_20 5 (pc' := 29) (L' := [qr 1, qi v1, qi v2, qi v3, qi v4, qi r60, qu, qu]) (S' := [.int v3, .int v4, .int v1, .ref 1]) (H' := (c0 :: bk0 zq zo zl za zd zb zc zm zf zj ze zh zi zn zg zk zp po)) rfl ?_
        obtain ⟨r61, hq61, h⟩ := bnd h
        refine OEnds.call0 hm_20 rfl rfl (by decide) rfl (as := [.ref 1, .int v1, .int v4, .int v3]) (rest := []) rfl rfl (ok_exclusion hq61) ?_
        refine OEnds.adv hm_20 11 (pc' := 51) (L' := [qr 1, qi v1, qi v2, qi v3, qi v4, qi r60, qi r61, qi ((r60 - r61) + (1 : Int32))]) (S' := [.int v4, .ref 3, .int ((r60 - r61) + (1 : Int32))]) (H' := (c0 :: bk0 zq zo zl za zd zb zc zm zf zj ze zh zi zn zg zk zp po)) rfl ?_
        obtain ⟨x62, hx62, h⟩ := bnd h
        refine OEnds.plain hm_20 rfl rfl (x_iaload rfl hx62) ?_
        show OEnds own_P 20 52 [qr 1, qi v1, qi v2, qi v3, qi v4, qi r60, qi r61, qi ((r60 - r61) + (1 : Int32))] [.int x62, .int ((r60 - r61) + (1 : Int32))] (c0 :: bk0 zq zo zl za zd zb zc zm zf zj ze zh zi zn zg zk zp po) _
        by_cases hc62 : x62 < ((r60 - r61) + (1 : Int32))
        · simp only [if_pos hc62] at h
          refine OEnds.icmpF hm_20 rfl ((tlt hc62).2.2.2) ?_
          refine OEnds.adv hm_20 1 (pc' := 56) (L' := [qr 1, qi v1, qi v2, qi v3, qi v4, qi r60, qi r61, qi ((r60 - r61) + (1 : Int32))]) (S' := [.int 0]) (H' := (c0 :: bk0 zq zo zl za zd zb zc zm zf zj ze zh zi zn zg zk zp po)) rfl ?_
          cases h
          exact OEnds.iret hm_20 rfl rfl
        · simp only [if_neg hc62] at h
          refine OEnds.icmpT hm_20 rfl (q := 57) rfl ((flt hc62).2.2.2) ?_
          refine OEnds.adv hm_20 2 (pc' := 3) (L' := [qr 1, qi v1, qi v2, qi v3, qi (v4 + (1 : Int32)), qi r60, qi r61, qi ((r60 - r61) + (1 : Int32))]) (S' := []) (H' := (c0 :: bk0 zq zo zl za zd zb zc zm zf zj ze zh zi zn zg zk zp po)) rfl ?_
          exact ih h
      · simp only [if_neg hc59] at h
        refine OEnds.icmpT hm_20 rfl (q := 63) rfl ((flt hc59).2.1) ?_
        refine OEnds.adv hm_20 1 (pc' := 64) (L' := [qr 1, qi v1, qi v2, qi v3, qi v4, qu, qu, qu]) (S' := [.int 1]) (H' := (c0 :: bk0 zq zo zl za zd zb zc zm zf zj ze zh zi zn zg zk zp po)) rfl ?_
        cases h
        exact OEnds.iret hm_20 rfl rfl
theorem ok_nightFits {zq zo zl za zd zb zc zm zf zj ze zh : List Int32} {zi zn zg zk zp : Int32} {c0 : ACell} {po : List ACell} {v1 v2 v3 res : Int32} (h : f_nightFits zo za zd zb zc zf v1 v2 v3 = some res) : OEnds own_P 20 0 [qr 1, qi v1, qi v2, qi v3, qu, qu, qu, qu] [] (c0 :: bk0 zq zo zl za zd zb zc zm zf zj ze zh zi zn zg zk zp po) (some (.int res), (c0 :: bk0 zq zo zl za zd zb zc zm zf zj ze zh zi zn zg zk zp po), 0, 0) := by
  unfold f_nightFits at h
  refine OEnds.adv hm_20 2 (pc' := 3) (L' := [qr 1, qi v1, qi v2, qi v3, qi 0, qu, qu, qu]) (S' := []) (H' := (c0 :: bk0 zq zo zl za zd zb zc zm zf zj ze zh zi zn zg zk zp po)) rfl ?_
  exact ok_nightFits_3 100000 h
theorem ok_fitsWith_12 {zq zo zl za zd zb zc zm zf zj ze zh : List Int32} {zi zn zg zk zp : Int32} {c0 : ACell} {po : List ACell} : ∀ (n : Nat), ∀ {v1 v2 v5 v6 : Int32} {d3 d4 : Slot} {res : Int32}, f_fitsWith_12 zo za zd zb zc zf n v1 v2 v5 v6 = some res → OEnds own_P 18 12 [qr 1, qi v1, qi v2, d3, d4, qi v5, qi v6] [] (c0 :: bk0 zq zo zl za zd zb zc zm zf zj ze zh zi zn zg zk zp po) (some (.int res), (c0 :: bk0 zq zo zl za zd zb zc zm zf zj ze zh zi zn zg zk zp po), 0, 0) := by
  intro n
  induction n with
  | zero => intro v1 v2 v5 v6 d3 d4 res h; cases h
  | succ n ih =>
    intro v1 v2 v5 v6 d3 d4 res h
    unfold f_fitsWith_12 at h
    refine OEnds.adv hm_18 1 (pc' := 14) (L' := [qr 1, qi v1, qi v2, qu, qu, qi v5, qi v6]) (S' := [.int v6]) (H' := (c0 :: bk0 zq zo zl za zd zb zc zm zf zj ze zh zi zn zg zk zp po)) rfl ?_
    by_cases hc63 : v6 < (0 : Int32)
    · simp only [if_pos hc63] at h
      refine OEnds.ifT hm_18 rfl (q := 43) rfl ((tlt hc63).1) ?_
      refine OEnds.adv hm_18 1 (pc' := 44) (L' := [qr 1, qi v1, qi v2, qu, qu, qi v5, qi v6]) (S' := [.int 1]) (H' := (c0 :: bk0 zq zo zl za zd zb zc zm zf zj ze zh zi zn zg zk zp po)) rfl ?_
      cases h
      exact OEnds.iret hm_18 rfl rfl
    · simp only [if_neg hc63] at h
      refine OEnds.ifF hm_18 rfl ((flt hc63).1) ?_
      refine OEnds.adv hm_18 2 (pc' := 21) (L' := [qr 1, qi v1, qi v2, qu, qu, qi v5, qi v6]) (S' := [.int v5, .int v6]) (H' := (c0 :: bk0 zq zo zl za zd zb zc zm zf zj ze zh zi zn zg zk zp po)) rfl ?_
      by_cases hc64 : v6 < v5
      · simp only [if_pos hc64] at h
        refine OEnds.icmpF hm_18 rfl ((tlt hc64).2.1) ?_
        refine OEnds.adv hm_18 4 (pc' := 29) (L' := [qr 1, qi v1, qi v2, qu, qu, qi v5, qi v6]) (S' := [.int v6, .int v2, .int v1, .ref 1]) (H' := (c0 :: bk0 zq zo zl za zd zb zc zm zf zj ze zh zi zn zg zk zp po)) rfl ?_
        obtain ⟨r64, hq65, h⟩ := bnd h
        refine OEnds.call0 hm_18 rfl rfl (by decide) rfl (as := [.ref 1, .int v1, .int v2, .int v6]) (rest := []) rfl rfl (ok_nightFits hq65) ?_
        show OEnds own_P 18 32 [qr 1, qi v1, qi v2, qu, qu, qi v5, qi v6] [.int r64] (c0 :: bk0 zq zo zl za zd zb zc zm zf zj ze zh zi zn zg zk zp po) _
        by_cases hc66 : r64 = (0 : Int32)
        · simp only [if_pos hc66] at h
          refine OEnds.ifF hm_18 rfl ((teq hc66).2) ?_
          refine OEnds.adv hm_18 1 (pc' := 36) (L' := [qr 1, qi v1, qi v2, qu, qu, qi v5, qi v6]) (S' := [.int 0]) (H' := (c0 :: bk0 zq zo zl za zd zb zc zm zf zj ze zh zi zn zg zk zp po)) rfl ?_
          cases h
          exact OEnds.iret hm_18 rfl rfl
        · simp only [if_neg hc66] at h
          refine OEnds.ifT hm_18 rfl (q := 37) rfl ((feq hc66).2) ?_
          refine OEnds.adv hm_18 2 (pc' := 12) (L' := [qr 1, qi v1, qi v2, qu, qu, qi v5, qi (v6 + (1 : Int32))]) (S' := []) (H' := (c0 :: bk0 zq zo zl za zd zb zc zm zf zj ze zh zi zn zg zk zp po)) rfl ?_
          exact ih h
      · simp only [if_neg hc64] at h
        refine OEnds.icmpT hm_18 rfl (q := 43) rfl ((flt hc64).2.1) ?_
        refine OEnds.adv hm_18 1 (pc' := 44) (L' := [qr 1, qi v1, qi v2, qu, qu, qi v5, qi v6]) (S' := [.int 1]) (H' := (c0 :: bk0 zq zo zl za zd zb zc zm zf zj ze zh zi zn zg zk zp po)) rfl ?_
        cases h
        exact OEnds.iret hm_18 rfl rfl
theorem ok_fitsWith {zq zo zl za zd zb zc zm zf zj ze zh : List Int32} {zi zn zg zk zp : Int32} {c0 : ACell} {po : List ACell} {v1 v2 v3 v4 res : Int32} (h : f_fitsWith zo za zd zb zc zf v1 v2 v3 v4 = some res) : OEnds own_P 18 0 [qr 1, qi v1, qi v2, qi v3, qi v4, qu, qu] [] (c0 :: bk0 zq zo zl za zd zb zc zm zf zj ze zh zi zn zg zk zp po) (some (.int res), (c0 :: bk0 zq zo zl za zd zb zc zm zf zj ze zh zi zn zg zk zp po), 0, 0) := by
  unfold f_fitsWith at h
  refine OEnds.adv hm_18 3 (pc' := 4) (L' := [qr 1, qi v1, qi v2, qi v3, qi v4, qu, qu]) (S' := [.int v4, .int v3, .ref 1]) (H' := (c0 :: bk0 zq zo zl za zd zb zc zm zf zj ze zh zi zn zg zk zp po)) rfl ?_
  obtain ⟨r63, hq67, h⟩ := bnd h
  refine OEnds.call0 hm_18 rfl rfl (by decide) rfl (as := [.ref 1, .int v3, .int v4]) (rest := []) rfl rfl (ok_endOf hq67) ?_
  refine OEnds.adv hm_18 3 (pc' := 12) (L' := [qr 1, qi v1, qi v2, qi v3, qi v4, qi r63, qi v3]) (S' := []) (H' := (c0 :: bk0 zq zo zl za zd zb zc zm zf zj ze zh zi zn zg zk zp po)) rfl ?_
  exact ok_fitsWith_12 100000 h
theorem ok_adjustCoverage_84 {zq zo zl za zd zb zc zj ze zh : List Int32} {zi zn zg zk zp : Int32} {c0 : ACell} {po : List ACell} {k53 : List Int32 → List Int32 → Int32 → Int32 → Int32 → Int32 → Option (List Int32 × List Int32)} (hk53 : ∀ {zm zf : List Int32} {v2 v3 v5 v6 : Int32} {d1 d4 d7 : Slot} {w_o_exactCount : List Int32} {w_o_atLeastCount : List Int32}, k53 zm zf v2 v3 v5 v6 = some (w_o_exactCount, w_o_atLeastCount) → OEnds own_P 27 53 [qr 1, d1, qi v2, qi v3, d4, qi v5, qi v6, d7] [] (c0 :: bk0 zq zo zl za zd zb zc zm zf zj ze zh zi zn zg zk zp po) (none, (c0 :: bk0 zq zo zl za zd zb zc w_o_exactCount w_o_atLeastCount zj ze zh zi zn zg zk zp po), 0, 0)) : ∀ (n : Nat), ∀ {zm zf : List Int32} {v2 v3 v5 v6 v7 : Int32} {d1 d4 : Slot} {w_o_exactCount : List Int32} {w_o_atLeastCount : List Int32}, f_adjustCoverage_84 k53 zd zb zc n zm zf v2 v3 v5 v6 v7 = some (w_o_exactCount, w_o_atLeastCount) → OEnds own_P 27 84 [qr 1, d1, qi v2, qi v3, d4, qi v5, qi v6, qi v7] [] (c0 :: bk0 zq zo zl za zd zb zc zm zf zj ze zh zi zn zg zk zp po) (none, (c0 :: bk0 zq zo zl za zd zb zc w_o_exactCount w_o_atLeastCount zj ze zh zi zn zg zk zp po), 0, 0) := by
  intro n
  induction n with
  | zero => intro zm zf v2 v3 v5 v6 v7 d1 d4 w_o_exactCount w_o_atLeastCount h; cases h
  | succ n ih =>
    intro zm zf v2 v3 v5 v6 v7 d1 d4 w_o_exactCount w_o_atLeastCount h
    unfold f_adjustCoverage_84 at h
    refine OEnds.adv hm_27 2 (pc' := 87) (L' := [qr 1, qu, qi v2, qi v3, qu, qi v5, qi v6, qi v7]) (S' := [.int v3, .int v7]) (H' := (c0 :: bk0 zq zo zl za zd zb zc zm zf zj ze zh zi zn zg zk zp po)) rfl ?_
    by_cases hc68 : v3 < v7
    · simp only [if_pos hc68] at h
      refine OEnds.icmpT hm_27 rfl (q := 113) rfl ((tlt hc68).2.2.1) ?_
      refine OEnds.adv hm_27 2 (pc' := 53) (L' := [qr 1, qu, qi v2, qi v3, qu, qi v5, qi (v6 + (1 : Int32)), qi v7]) (S' := []) (H' := (c0 :: bk0 zq zo zl za zd zb zc zm zf zj ze zh zi zn zg zk zp po)) rfl ?_
      exact hk53 h
    · simp only [if_neg hc68] at h
      refine OEnds.icmpF hm_27 rfl ((flt hc68).2.2.1) ?_
      refine OEnds.adv hm_27 5 (pc' := 99) (L' := [qr 1, qu, qi v2, qi v3, qu, qi v5, qi v6, qi v7]) (S' := [.int v6, .int v7, .ref 1, .ref 10]) (H' := (c0 :: bk0 zq zo zl za zd zb zc zm zf zj ze zh zi zn zg zk zp po)) rfl ?_
      obtain ⟨r77, hq69, h⟩ := bnd h
      refine OEnds.call0 hm_27 rfl rfl (by decide) rfl (as := [.ref 1, .int v7, .int v6]) (rest := [.ref 10]) rfl rfl (ok_countIndex hq69) ?_
      refine OEnds.adv hm_27 1 (pc' := 103) (L' := [qr 1, qu, qi v2, qi v3, qu, qi v5, qi v6, qi v7]) (S' := [.int r77, .ref 10, .int r77, .ref 10]) (H' := (c0 :: bk0 zq zo zl za zd zb zc zm zf zj ze zh zi zn zg zk zp po)) rfl ?_
      obtain ⟨x78, hx78, h⟩ := bnd h
      refine OEnds.plain hm_27 rfl rfl (x_iaload rfl hx78) ?_
      refine OEnds.adv hm_27 2 (pc' := 106) (L' := [qr 1, qu, qi v2, qi v3, qu, qi v5, qi v6, qi v7]) (S' := [.int (x78 + v2), .int r77, .ref 10]) (H' := (c0 :: bk0 zq zo zl za zd zb zc zm zf zj ze zh zi zn zg zk zp po)) rfl ?_
      obtain ⟨A79, hA79, h⟩ := bnd h
      refine OEnds.plain hm_27 rfl rfl (x_iastore rfl (Nat.le_of_ble_eq_true rfl) hA79) ?_
      refine OEnds.adv hm_27 2 (pc' := 84) (L' := [qr 1, qu, qi v2, qi v3, qu, qi v5, qi v6, qi (v7 + (1 : Int32))]) (S' := []) (H' := (c0 :: bk0 zq zo zl za zd zb zc zm A79 zj ze zh zi zn zg zk zp po)) rfl ?_
      exact ih h
theorem ok_adjustCoverage_53 {zq zo zl za zd zb zc zj ze zh : List Int32} {zi zn zg zk zp : Int32} {c0 : ACell} {po : List ACell} : ∀ (n : Nat), ∀ {zm zf : List Int32} {v2 v3 v5 v6 : Int32} {d1 d4 d7 : Slot} {w_o_exactCount : List Int32} {w_o_atLeastCount : List Int32}, f_adjustCoverage_53 zd zb zc n zm zf v2 v3 v5 v6 = some (w_o_exactCount, w_o_atLeastCount) → OEnds own_P 27 53 [qr 1, d1, qi v2, qi v3, d4, qi v5, qi v6, d7] [] (c0 :: bk0 zq zo zl za zd zb zc zm zf zj ze zh zi zn zg zk zp po) (none, (c0 :: bk0 zq zo zl za zd zb zc w_o_exactCount w_o_atLeastCount zj ze zh zi zn zg zk zp po), 0, 0) := by
  intro n
  induction n with
  | zero => intro zm zf v2 v3 v5 v6 d1 d4 d7 w_o_exactCount w_o_atLeastCount h; cases h
  | succ n ih =>
    intro zm zf v2 v3 v5 v6 d1 d4 d7 w_o_exactCount w_o_atLeastCount h
    unfold f_adjustCoverage_53 at h
    refine OEnds.adv hm_27 1 (pc' := 55) (L' := [qr 1, qu, qi v2, qi v3, qu, qi v5, qi v6, qu]) (S' := [.int v6]) (H' := (c0 :: bk0 zq zo zl za zd zb zc zm zf zj ze zh zi zn zg zk zp po)) rfl ?_
    by_cases hc70 : v6 < (0 : Int32)
    · simp only [if_pos hc70] at h
      refine OEnds.ifT hm_27 rfl (q := 119) rfl ((tlt hc70).1) ?_
      show OEnds own_P 27 119 [qr 1, qu, qi v2, qi v3, qu, qi v5, qi v6, qu] [] (c0 :: bk0 zq zo zl za zd zb zc zm zf zj ze zh zi zn zg zk zp po) _
      cases h
      exact OEnds.vret hm_27 rfl rfl
    · simp only [if_neg hc70] at h
      refine OEnds.ifF hm_27 rfl ((flt hc70).1) ?_
      refine OEnds.adv hm_27 2 (pc' := 62) (L' := [qr 1, qu, qi v2, qi v3, qu, qi v5, qi v6, qu]) (S' := [.int v5, .int v6]) (H' := (c0 :: bk0 zq zo zl za zd zb zc zm zf zj ze zh zi zn zg zk zp po)) rfl ?_
      by_cases hc71 : v6 < v5
      · simp only [if_pos hc71] at h
        refine OEnds.icmpF hm_27 rfl ((tlt hc71).2.1) ?_
        refine OEnds.adv hm_27 5 (pc' := 73) (L' := [qr 1, qu, qi v2, qi v3, qu, qi v5, qi v6, qu]) (S' := [.int v6, .int v3, .ref 1, .ref 9]) (H' := (c0 :: bk0 zq zo zl za zd zb zc zm zf zj ze zh zi zn zg zk zp po)) rfl ?_
        obtain ⟨r74, hq72, h⟩ := bnd h
        refine OEnds.call0 hm_27 rfl rfl (by decide) rfl (as := [.ref 1, .int v3, .int v6]) (rest := [.ref 9]) rfl rfl (ok_countIndex hq72) ?_
        refine OEnds.adv hm_27 1 (pc' := 77) (L' := [qr 1, qu, qi v2, qi v3, qu, qi v5, qi v6, qu]) (S' := [.int r74, .ref 9, .int r74, .ref 9]) (H' := (c0 :: bk0 zq zo zl za zd zb zc zm zf zj ze zh zi zn zg zk zp po)) rfl ?_
        obtain ⟨x75, hx75, h⟩ := bnd h
        refine OEnds.plain hm_27 rfl rfl (x_iaload rfl hx75) ?_
        refine OEnds.adv hm_27 2 (pc' := 80) (L' := [qr 1, qu, qi v2, qi v3, qu, qi v5, qi v6, qu]) (S' := [.int (x75 + v2), .int r74, .ref 9]) (H' := (c0 :: bk0 zq zo zl za zd zb zc zm zf zj ze zh zi zn zg zk zp po)) rfl ?_
        obtain ⟨A76, hA76, h⟩ := bnd h
        refine OEnds.plain hm_27 rfl rfl (x_iastore rfl (Nat.le_of_ble_eq_true rfl) hA76) ?_
        refine OEnds.adv hm_27 2 (pc' := 84) (L' := [qr 1, qu, qi v2, qi v3, qu, qi v5, qi v6, qi 0]) (S' := []) (H' := (c0 :: bk0 zq zo zl za zd zb zc A76 zf zj ze zh zi zn zg zk zp po)) rfl ?_
        exact ok_adjustCoverage_84 (k53 := f_adjustCoverage_53 zd zb zc n) ih 100000 h
      · simp only [if_neg hc71] at h
        refine OEnds.icmpT hm_27 rfl (q := 119) rfl ((flt hc71).2.1) ?_
        show OEnds own_P 27 119 [qr 1, qu, qi v2, qi v3, qu, qi v5, qi v6, qu] [] (c0 :: bk0 zq zo zl za zd zb zc zm zf zj ze zh zi zn zg zk zp po) _
        cases h
        exact OEnds.vret hm_27 rfl rfl
theorem ok_adjustCoverage {zq zo zl za zd zb zc zj ze zh : List Int32} {zi zn zg zk zp : Int32} {c0 : ACell} {po : List ACell} {zm zf : List Int32} {v1 v2 : Int32} {w_o_exactCount w_o_atLeastCount : List Int32} (h : f_adjustCoverage zd zb zc zm zf v1 v2 = some (w_o_exactCount, w_o_atLeastCount)) : OEnds own_P 27 0 [qr 1, qi v1, qi v2, qu, qu, qu, qu, qu] [] (c0 :: bk0 zq zo zl za zd zb zc zm zf zj ze zh zi zn zg zk zp po) (none, (c0 :: bk0 zq zo zl za zd zb zc w_o_exactCount w_o_atLeastCount zj ze zh zi zn zg zk zp po), 0, 0) := by
  unfold f_adjustCoverage at h
  refine OEnds.adv hm_27 1 (pc' := 1) (L' := [qr 1, qi v1, qi v2, qu, qu, qu, qu, qu]) (S' := [.int v1]) (H' := (c0 :: bk0 zq zo zl za zd zb zc zm zf zj ze zh zi zn zg zk zp po)) rfl ?_
  by_cases hc73 : v1 < (0 : Int32)
  · simp only [if_pos hc73] at h
    refine OEnds.ifT hm_27 rfl (q := 10) rfl ((tlt hc73).1) ?_
    show OEnds own_P 27 10 [qr 1, qi v1, qi v2, qu, qu, qu, qu, qu] [] (c0 :: bk0 zq zo zl za zd zb zc zm zf zj ze zh zi zn zg zk zp po) _
    cases h
    exact OEnds.vret hm_27 rfl rfl
  · simp only [if_neg hc73] at h
    refine OEnds.ifF hm_27 rfl ((flt hc73).1) ?_
    refine OEnds.adv hm_27 2 (pc' := 7) (L' := [qr 1, qi v1, qi v2, qu, qu, qu, qu, qu]) (S' := [.int 32, .int v1]) (H' := (c0 :: bk0 zq zo zl za zd zb zc zm zf zj ze zh zi zn zg zk zp po)) rfl ?_
    by_cases hc74 : v1 < (32 : Int32)
    · simp only [if_pos hc74] at h
      refine OEnds.icmpT hm_27 rfl (q := 11) rfl ((tlt hc74).1) ?_
      refine OEnds.adv hm_27 3 (pc' := 16) (L' := [qr 1, qi v1, qi v2, qu, qu, qu, qu, qu]) (S' := [.int v1, .ref 6]) (H' := (c0 :: bk0 zq zo zl za zd zb zc zm zf zj ze zh zi zn zg zk zp po)) rfl ?_
      obtain ⟨x69, hx69, h⟩ := bnd h
      refine OEnds.plain hm_27 rfl rfl (x_iaload rfl hx69) ?_
      refine OEnds.adv hm_27 3 (pc' := 20) (L' := [qr 1, qi v1, qi v2, qi x69, qu, qu, qu, qu]) (S' := [.int x69, .ref 1]) (H' := (c0 :: bk0 zq zo zl za zd zb zc zm zf zj ze zh zi zn zg zk zp po)) rfl ?_
      obtain ⟨r70, hq75, h⟩ := bnd h
      refine OEnds.call0 hm_27 rfl rfl (by decide) rfl (as := [.ref 1, .int x69]) (rest := []) rfl rfl (ok_isValidType hq75) ?_
      show OEnds own_P 27 23 [qr 1, qi v1, qi v2, qi x69, qu, qu, qu, qu] [.int r70] (c0 :: bk0 zq zo zl za zd zb zc zm zf zj ze zh zi zn zg zk zp po) _
      by_cases hc76 : r70 = (0 : Int32)
      · simp only [if_pos hc76] at h
        refine OEnds.ifF hm_27 rfl ((teq hc76).2) ?_
        show OEnds own_P 27 26 [qr 1, qi v1, qi v2, qi x69, qu, qu, qu, qu] [] (c0 :: bk0 zq zo zl za zd zb zc zm zf zj ze zh zi zn zg zk zp po) _
        cases h
        exact OEnds.vret hm_27 rfl rfl
      · simp only [if_neg hc76] at h
        refine OEnds.ifT hm_27 rfl (q := 27) rfl ((feq hc76).2) ?_
        refine OEnds.adv hm_27 3 (pc' := 32) (L' := [qr 1, qi v1, qi v2, qi x69, qu, qu, qu, qu]) (S' := [.int v1, .ref 7]) (H' := (c0 :: bk0 zq zo zl za zd zb zc zm zf zj ze zh zi zn zg zk zp po)) rfl ?_
        obtain ⟨x71, hx71, h⟩ := bnd h
        refine OEnds.plain hm_27 rfl rfl (x_iaload rfl hx71) ?_
        refine OEnds.adv hm_27 6 (pc' := 43) (L' := [qr 1, qi v1, qi v2, qi x69, qi x71, qu, qu, qu]) (S' := [.int v1, .ref 8, .int x71, .ref 1]) (H' := (c0 :: bk0 zq zo zl za zd zb zc zm zf zj ze zh zi zn zg zk zp po)) rfl ?_
        obtain ⟨x72, hx72, h⟩ := bnd h
        refine OEnds.plain hm_27 rfl rfl (x_iaload rfl hx72) ?_
        show OEnds own_P 27 44 [qr 1, qi v1, qi v2, qi x69, qi x71, qu, qu, qu] [.int x72, .int x71, .ref 1] (c0 :: bk0 zq zo zl za zd zb zc zm zf zj ze zh zi zn zg zk zp po) _
        obtain ⟨r73, hq77, h⟩ := bnd h
        refine OEnds.call0 hm_27 rfl rfl (by decide) rfl (as := [.ref 1, .int x71, .int x72]) (rest := []) rfl rfl (ok_endOf hq77) ?_
        refine OEnds.adv hm_27 3 (pc' := 53) (L' := [qr 1, qi v1, qi v2, qi x69, qi x71, qi r73, qi x71, qu]) (S' := []) (H' := (c0 :: bk0 zq zo zl za zd zb zc zm zf zj ze zh zi zn zg zk zp po)) rfl ?_
        exact ok_adjustCoverage_53 100000 h
    · simp only [if_neg hc74] at h
      refine OEnds.icmpF hm_27 rfl ((flt hc74).1) ?_
      show OEnds own_P 27 10 [qr 1, qi v1, qi v2, qu, qu, qu, qu, qu] [] (c0 :: bk0 zq zo zl za zd zb zc zm zf zj ze zh zi zn zg zk zp po) _
      cases h
      exact OEnds.vret hm_27 rfl rfl
theorem ok_storeStay {zq zo zl za zm zf zj ze zh : List Int32} {zi zn zg zk zp : Int32} {c0 : ACell} {po : List ACell} {zd zb zc : List Int32} {v1 v2 v3 v4 : Int32} {w_o_slotType w_o_slotArrive w_o_slotNights : List Int32} (h : f_storeStay zd zb zc v1 v2 v3 v4 = some (w_o_slotType, w_o_slotArrive, w_o_slotNights)) : OEnds own_P 26 0 [qr 1, qi v1, qi v2, qi v3, qi v4] [] (c0 :: bk0 zq zo zl za zd zb zc zm zf zj ze zh zi zn zg zk zp po) (none, (c0 :: bk0 zq zo zl za w_o_slotType w_o_slotArrive w_o_slotNights zm zf zj ze zh zi zn zg zk zp po), 0, 0) := by
  unfold f_storeStay at h
  refine OEnds.adv hm_26 4 (pc' := 6) (L' := [qr 1, qi v1, qi v2, qi v3, qi v4]) (S' := [.int v2, .int v1, .ref 6]) (H' := (c0 :: bk0 zq zo zl za zd zb zc zm zf zj ze zh zi zn zg zk zp po)) rfl ?_
  obtain ⟨A66, hA66, h⟩ := bnd h
  refine OEnds.plain hm_26 rfl rfl (x_iastore rfl (Nat.le_of_ble_eq_true rfl) hA66) ?_
  refine OEnds.adv hm_26 4 (pc' := 13) (L' := [qr 1, qi v1, qi v2, qi v3, qi v4]) (S' := [.int v3, .int v1, .ref 7]) (H' := (c0 :: bk0 zq zo zl za A66 zb zc zm zf zj ze zh zi zn zg zk zp po)) rfl ?_
  obtain ⟨A67, hA67, h⟩ := bnd h
  refine OEnds.plain hm_26 rfl rfl (x_iastore rfl (Nat.le_of_ble_eq_true rfl) hA67) ?_
  refine OEnds.adv hm_26 4 (pc' := 21) (L' := [qr 1, qi v1, qi v2, qi v3, qi v4]) (S' := [.int v4, .int v1, .ref 8]) (H' := (c0 :: bk0 zq zo zl za A66 A67 zc zm zf zj ze zh zi zn zg zk zp po)) rfl ?_
  obtain ⟨A68, hA68, h⟩ := bnd h
  refine OEnds.plain hm_26 rfl rfl (x_iastore rfl (Nat.le_of_ble_eq_true rfl) hA68) ?_
  show OEnds own_P 26 22 [qr 1, qi v1, qi v2, qi v3, qi v4] [] (c0 :: bk0 zq zo zl za A66 A67 A68 zm zf zj ze zh zi zn zg zk zp po) _
  cases h
  exact OEnds.vret hm_26 rfl rfl
theorem ok_discardPlan {zq zo zl za zd zb zc zm zf zj ze zh : List Int32} {zi zn zg zp : Int32} {c0 : ACell} {po : List ACell} {zk w_o_planCurrent : Int32} (h : f_discardPlan zk = some w_o_planCurrent) : OEnds own_P 28 0 [qr 1] [] (c0 :: bk0 zq zo zl za zd zb zc zm zf zj ze zh zi zn zg zk zp po) (none, (c0 :: bk0 zq zo zl za zd zb zc zm zf zj ze zh zi zn zg w_o_planCurrent zp po), 0, 0) := by
  unfold f_discardPlan at h
  refine OEnds.adv hm_28 3 (pc' := 5) (L' := [qr 1]) (S' := []) (H' := (c0 :: bk0 zq zo zl za zd zb zc zm zf zj ze zh zi zn zg 0 zp po)) rfl ?_
  cases h
  exact OEnds.vret hm_28 rfl rfl
theorem ok_amend {zq zo zl za zj ze zh : List Int32} {zi zn zg zp : Int32} {c0 : ACell} {po : List ACell} {zd zb zc zm zf : List Int32} {zk v1 v2 v3 v4 res : Int32} {w_o_slotType w_o_slotArrive w_o_slotNights w_o_exactCount w_o_atLeastCount : List Int32} {w_o_planCurrent : Int32} (h : f_amend zo za zd zb zc zm zf zk v1 v2 v3 v4 = some (res, w_o_slotType, w_o_slotArrive, w_o_slotNights, w_o_exactCount, w_o_atLeastCount, w_o_planCurrent)) : OEnds own_P 40 0 [qr 1, qi v1, qi v2, qi v3, qi v4, qu] [] (c0 :: bk0 zq zo zl za zd zb zc zm zf zj ze zh zi zn zg zk zp po) (some (.int res), (c0 :: bk0 zq zo zl za w_o_slotType w_o_slotArrive w_o_slotNights w_o_exactCount w_o_atLeastCount zj ze zh zi zn zg w_o_planCurrent zp po), 0, 0) := by
  unfold f_amend at h
  refine OEnds.adv hm_40 2 (pc' := 2) (L' := [qr 1, qi v1, qi v2, qi v3, qi v4, qu]) (S' := [.int v1, .ref 1]) (H' := (c0 :: bk0 zq zo zl za zd zb zc zm zf zj ze zh zi zn zg zk zp po)) rfl ?_
  obtain ⟨r97, hq78, h⟩ := bnd h
  refine OEnds.call0 hm_40 rfl rfl (by decide) rfl (as := [.ref 1, .int v1]) (rest := []) rfl rfl (ok_isActiveStay hq78) ?_
  show OEnds own_P 40 5 [qr 1, qi v1, qi v2, qi v3, qi v4, qu] [.int r97] (c0 :: bk0 zq zo zl za zd zb zc zm zf zj ze zh zi zn zg zk zp po) _
  by_cases hc79 : r97 = (0 : Int32)
  · simp only [if_pos hc79] at h
    refine OEnds.ifF hm_40 rfl ((teq hc79).2) ?_
    refine OEnds.adv hm_40 1 (pc' := 10) (L' := [qr 1, qi v1, qi v2, qi v3, qi v4, qu]) (S' := [.int (-5)]) (H' := (c0 :: bk0 zq zo zl za zd zb zc zm zf zj ze zh zi zn zg zk zp po)) rfl ?_
    cases h
    exact OEnds.iret hm_40 rfl rfl
  · simp only [if_neg hc79] at h
    refine OEnds.ifT hm_40 rfl (q := 11) rfl ((feq hc79).2) ?_
    refine OEnds.adv hm_40 4 (pc' := 16) (L' := [qr 1, qi v1, qi v2, qi v3, qi v4, qu]) (S' := [.int v4, .int v3, .int v2, .ref 1]) (H' := (c0 :: bk0 zq zo zl za zd zb zc zm zf zj ze zh zi zn zg zk zp po)) rfl ?_
    obtain ⟨r98, hq80, h⟩ := bnd h
    refine OEnds.call0 hm_40 rfl rfl (by decide) rfl (as := [.ref 1, .int v2, .int v3, .int v4]) (rest := []) rfl rfl (ok_requestError hq80) ?_
    refine OEnds.adv hm_40 2 (pc' := 23) (L' := [qr 1, qi v1, qi v2, qi v3, qi v4, qi r98]) (S' := [.int r98]) (H' := (c0 :: bk0 zq zo zl za zd zb zc zm zf zj ze zh zi zn zg zk zp po)) rfl ?_
    by_cases hc81 : r98 = (0 : Int32)
    · simp only [if_pos hc81] at h
      refine OEnds.ifT hm_40 rfl (q := 29) rfl ((teq hc81).1) ?_
      refine OEnds.adv hm_40 5 (pc' := 35) (L' := [qr 1, qi v1, qi v2, qi v3, qi v4, qi r98]) (S' := [.int v4, .int v3, .int v2, .int v1, .ref 1]) (H' := (c0 :: bk0 zq zo zl za zd zb zc zm zf zj ze zh zi zn zg zk zp po)) rfl ?_
      obtain ⟨r99, hq82, h⟩ := bnd h
      refine OEnds.call0 hm_40 rfl rfl (by decide) rfl (as := [.ref 1, .int v1, .int v2, .int v3, .int v4]) (rest := []) rfl rfl (ok_fitsWith hq82) ?_
      show OEnds own_P 40 38 [qr 1, qi v1, qi v2, qi v3, qi v4, qi r98] [.int r99] (c0 :: bk0 zq zo zl za zd zb zc zm zf zj ze zh zi zn zg zk zp po) _
      by_cases hc83 : r99 = (0 : Int32)
      · simp only [if_pos hc83] at h
        refine OEnds.ifF hm_40 rfl ((teq hc83).2) ?_
        refine OEnds.adv hm_40 1 (pc' := 43) (L' := [qr 1, qi v1, qi v2, qi v3, qi v4, qi r98]) (S' := [.int (-4)]) (H' := (c0 :: bk0 zq zo zl za zd zb zc zm zf zj ze zh zi zn zg zk zp po)) rfl ?_
        cases h
        exact OEnds.iret hm_40 rfl rfl
      · simp only [if_neg hc83] at h
        refine OEnds.ifT hm_40 rfl (q := 44) rfl ((feq hc83).2) ?_
        refine OEnds.adv hm_40 3 (pc' := 47) (L' := [qr 1, qi v1, qi v2, qi v3, qi v4, qi r98]) (S' := [.int (-1), .int v1, .ref 1]) (H' := (c0 :: bk0 zq zo zl za zd zb zc zm zf zj ze zh zi zn zg zk zp po)) rfl ?_
        obtain ⟨⟨s100, s101⟩, hq84, h⟩ := bnd h
        refine OEnds.call0 hm_40 rfl rfl (by decide) rfl (as := [.ref 1, .int v1, .int (-1)]) (rest := []) rfl rfl (ok_adjustCoverage hq84) ?_
        refine OEnds.adv hm_40 5 (pc' := 56) (L' := [qr 1, qi v1, qi v2, qi v3, qi v4, qi r98]) (S' := [.int v4, .int v3, .int v2, .int v1, .ref 1]) (H' := (c0 :: bk0 zq zo zl za zd zb zc s100 s101 zj ze zh zi zn zg zk zp po)) rfl ?_
        obtain ⟨⟨s102, s103, s104⟩, hq85, h⟩ := bnd h
        refine OEnds.call0 hm_40 rfl rfl (by decide) rfl (as := [.ref 1, .int v1, .int v2, .int v3, .int v4]) (rest := []) rfl rfl (ok_storeStay hq85) ?_
        refine OEnds.adv hm_40 3 (pc' := 62) (L' := [qr 1, qi v1, qi v2, qi v3, qi v4, qi r98]) (S' := [.int 1, .int v1, .ref 1]) (H' := (c0 :: bk0 zq zo zl za s102 s103 s104 s100 s101 zj ze zh zi zn zg zk zp po)) rfl ?_
        obtain ⟨⟨s105, s106⟩, hq86, h⟩ := bnd h
        refine OEnds.call0 hm_40 rfl rfl (by decide) rfl (as := [.ref 1, .int v1, .int 1]) (rest := []) rfl rfl (ok_adjustCoverage hq86) ?_
        refine OEnds.adv hm_40 1 (pc' := 66) (L' := [qr 1, qi v1, qi v2, qi v3, qi v4, qi r98]) (S' := [.ref 1]) (H' := (c0 :: bk0 zq zo zl za s102 s103 s104 s105 s106 zj ze zh zi zn zg zk zp po)) rfl ?_
        obtain ⟨s107, hq87, h⟩ := bnd h
        refine OEnds.call0 hm_40 rfl rfl (by decide) rfl (as := [.ref 1]) (rest := []) rfl rfl (ok_discardPlan hq87) ?_
        refine OEnds.adv hm_40 1 (pc' := 70) (L' := [qr 1, qi v1, qi v2, qi v3, qi v4, qi r98]) (S' := [.int 0]) (H' := (c0 :: bk0 zq zo zl za s102 s103 s104 s105 s106 zj ze zh zi zn zg s107 zp po)) rfl ?_
        cases h
        exact OEnds.iret hm_40 rfl rfl
    · simp only [if_neg hc81] at h
      refine OEnds.ifF hm_40 rfl ((feq hc81).1) ?_
      refine OEnds.adv hm_40 1 (pc' := 28) (L' := [qr 1, qi v1, qi v2, qi v3, qi v4, qi r98]) (S' := [.int r98]) (H' := (c0 :: bk0 zq zo zl za zd zb zc zm zf zj ze zh zi zn zg zk zp po)) rfl ?_
      cases h
      exact OEnds.iret hm_40 rfl rfl
theorem ok_deactivateStay {zq zo zl zj ze zh : List Int32} {zi zg zk zp : Int32} {c0 : ACell} {po : List ACell} {za zd zb zc zm zf : List Int32} {zn v1 : Int32} {w_o_slotActive w_o_slotType w_o_slotArrive w_o_slotNights w_o_exactCount w_o_atLeastCount : List Int32} {w_o_activeStays : Int32} (h : f_deactivateStay za zd zb zc zm zf zn v1 = some (w_o_slotActive, w_o_slotType, w_o_slotArrive, w_o_slotNights, w_o_exactCount, w_o_atLeastCount, w_o_activeStays)) : OEnds own_P 33 0 [qr 1, qi v1] [] (c0 :: bk0 zq zo zl za zd zb zc zm zf zj ze zh zi zn zg zk zp po) (none, (c0 :: bk0 zq zo zl w_o_slotActive w_o_slotType w_o_slotArrive w_o_slotNights w_o_exactCount w_o_atLeastCount zj ze zh zi w_o_activeStays zg zk zp po), 0, 0) := by
  unfold f_deactivateStay at h
  refine OEnds.adv hm_33 3 (pc' := 3) (L' := [qr 1, qi v1]) (S' := [.int (-1), .int v1, .ref 1]) (H' := (c0 :: bk0 zq zo zl za zd zb zc zm zf zj ze zh zi zn zg zk zp po)) rfl ?_
  obtain ⟨⟨s108, s109⟩, hq88, h⟩ := bnd h
  refine OEnds.call0 hm_33 rfl rfl (by decide) rfl (as := [.ref 1, .int v1, .int (-1)]) (rest := []) rfl rfl (ok_adjustCoverage hq88) ?_
  refine OEnds.adv hm_33 4 (pc' := 12) (L' := [qr 1, qi v1]) (S' := [.int 0, .int v1, .ref 5]) (H' := (c0 :: bk0 zq zo zl za zd zb zc s108 s109 zj ze zh zi zn zg zk zp po)) rfl ?_
  obtain ⟨A110, hA110, h⟩ := bnd h
  refine OEnds.plain hm_33 rfl rfl (x_bastore rfl (Nat.le_of_ble_eq_true rfl) hA110) ?_
  refine OEnds.adv hm_33 5 (pc' := 18) (L' := [qr 1, qi v1]) (S' := [.int 0, .int 0, .int 0, .int v1, .ref 1]) (H' := (c0 :: bk0 zq zo zl A110 zd zb zc s108 s109 zj ze zh zi zn zg zk zp po)) rfl ?_
  obtain ⟨⟨s111, s112, s113⟩, hq89, h⟩ := bnd h
  refine OEnds.call0 hm_33 rfl rfl (by decide) rfl (as := [.ref 1, .int v1, .int 0, .int 0, .int 0]) (rest := []) rfl rfl (ok_storeStay hq89) ?_
  refine OEnds.adv hm_33 6 (pc' := 31) (L' := [qr 1, qi v1]) (S' := []) (H' := (c0 :: bk0 zq zo zl A110 s111 s112 s113 s108 s109 zj ze zh zi (zn - (1 : Int32)) zg zk zp po)) rfl ?_
  cases h
  exact OEnds.vret hm_33 rfl rfl
theorem ok_cancel {zq zo zl zj ze zh : List Int32} {zi zg zp : Int32} {c0 : ACell} {po : List ACell} {za zd zb zc zm zf : List Int32} {zn zk v1 res : Int32} {w_o_slotActive w_o_slotType w_o_slotArrive w_o_slotNights w_o_exactCount w_o_atLeastCount : List Int32} {w_o_activeStays w_o_planCurrent : Int32} (h : f_cancel za zd zb zc zm zf zn zk v1 = some (res, w_o_slotActive, w_o_slotType, w_o_slotArrive, w_o_slotNights, w_o_exactCount, w_o_atLeastCount, w_o_activeStays, w_o_planCurrent)) : OEnds own_P 32 0 [qr 1, qi v1] [] (c0 :: bk0 zq zo zl za zd zb zc zm zf zj ze zh zi zn zg zk zp po) (some (.int res), (c0 :: bk0 zq zo zl w_o_slotActive w_o_slotType w_o_slotArrive w_o_slotNights w_o_exactCount w_o_atLeastCount zj ze zh zi w_o_activeStays zg w_o_planCurrent zp po), 0, 0) := by
  unfold f_cancel at h
  refine OEnds.adv hm_32 2 (pc' := 2) (L' := [qr 1, qi v1]) (S' := [.int v1, .ref 1]) (H' := (c0 :: bk0 zq zo zl za zd zb zc zm zf zj ze zh zi zn zg zk zp po)) rfl ?_
  obtain ⟨r114, hq90, h⟩ := bnd h
  refine OEnds.call0 hm_32 rfl rfl (by decide) rfl (as := [.ref 1, .int v1]) (rest := []) rfl rfl (ok_isActiveStay hq90) ?_
  show OEnds own_P 32 5 [qr 1, qi v1] [.int r114] (c0 :: bk0 zq zo zl za zd zb zc zm zf zj ze zh zi zn zg zk zp po) _
  by_cases hc91 : r114 = (0 : Int32)
  · simp only [if_pos hc91] at h
    refine OEnds.ifF hm_32 rfl ((teq hc91).2) ?_
    refine OEnds.adv hm_32 1 (pc' := 10) (L' := [qr 1, qi v1]) (S' := [.int (-5)]) (H' := (c0 :: bk0 zq zo zl za zd zb zc zm zf zj ze zh zi zn zg zk zp po)) rfl ?_
    cases h
    exact OEnds.iret hm_32 rfl rfl
  · simp only [if_neg hc91] at h
    refine OEnds.ifT hm_32 rfl (q := 11) rfl ((feq hc91).2) ?_
    refine OEnds.adv hm_32 2 (pc' := 13) (L' := [qr 1, qi v1]) (S' := [.int v1, .ref 1]) (H' := (c0 :: bk0 zq zo zl za zd zb zc zm zf zj ze zh zi zn zg zk zp po)) rfl ?_
    obtain ⟨⟨s115, s116, s117, s118, s119, s120, s121⟩, hq92, h⟩ := bnd h
    refine OEnds.call0 hm_32 rfl rfl (by decide) rfl (as := [.ref 1, .int v1]) (rest := []) rfl rfl (ok_deactivateStay hq92) ?_
    refine OEnds.adv hm_32 1 (pc' := 17) (L' := [qr 1, qi v1]) (S' := [.ref 1]) (H' := (c0 :: bk0 zq zo zl s115 s116 s117 s118 s119 s120 zj ze zh zi s121 zg zk zp po)) rfl ?_
    obtain ⟨s122, hq93, h⟩ := bnd h
    refine OEnds.call0 hm_32 rfl rfl (by decide) rfl (as := [.ref 1]) (rest := []) rfl rfl (ok_discardPlan hq93) ?_
    refine OEnds.adv hm_32 1 (pc' := 21) (L' := [qr 1, qi v1]) (S' := [.int 0]) (H' := (c0 :: bk0 zq zo zl s115 s116 s117 s118 s119 s120 zj ze zh zi s121 zg s122 zp po)) rfl ?_
    cases h
    exact OEnds.iret hm_32 rfl rfl
theorem ok_appendToOrder {zq zo zl za zd zb zc zm zf zj ze : List Int32} {zi zn zk zp : Int32} {c0 : ACell} {po : List ACell} {zh : List Int32} {zg v1 : Int32} {w_o_planOrder : List Int32} {w_o_planOrderLength : Int32} (h : f_appendToOrder zh zg v1 = some (w_o_planOrder, w_o_planOrderLength)) : OEnds own_P 41 0 [qr 1, qi v1] [] (c0 :: bk0 zq zo zl za zd zb zc zm zf zj ze zh zi zn zg zk zp po) (none, (c0 :: bk0 zq zo zl za zd zb zc zm zf zj ze w_o_planOrder zi zn w_o_planOrderLength zk zp po), 0, 0) := by
  unfold f_appendToOrder at h
  refine OEnds.adv hm_41 2 (pc' := 4) (L' := [qr 1, qi v1]) (S' := [.int zg]) (H' := (c0 :: bk0 zq zo zl za zd zb zc zm zf zj ze zh zi zn zg zk zp po)) rfl ?_
  by_cases hc94 : zg < (0 : Int32)
  · simp only [if_pos hc94] at h
    refine OEnds.ifT hm_41 rfl (q := 16) rfl ((tlt hc94).1) ?_
    show OEnds own_P 41 16 [qr 1, qi v1] [] (c0 :: bk0 zq zo zl za zd zb zc zm zf zj ze zh zi zn zg zk zp po) _
    cases h
    exact OEnds.vret hm_41 rfl rfl
  · simp only [if_neg hc94] at h
    refine OEnds.ifF hm_41 rfl ((flt hc94).1) ?_
    refine OEnds.adv hm_41 3 (pc' := 13) (L' := [qr 1, qi v1]) (S' := [.int 32, .int zg]) (H' := (c0 :: bk0 zq zo zl za zd zb zc zm zf zj ze zh zi zn zg zk zp po)) rfl ?_
    by_cases hc95 : zg < (32 : Int32)
    · simp only [if_pos hc95] at h
      refine OEnds.icmpT hm_41 rfl (q := 17) rfl ((tlt hc95).1) ?_
      refine OEnds.adv hm_41 5 (pc' := 26) (L' := [qr 1, qi v1]) (S' := [.int v1, .int zg, .ref 13]) (H' := (c0 :: bk0 zq zo zl za zd zb zc zm zf zj ze zh zi zn zg zk zp po)) rfl ?_
      obtain ⟨A123, hA123, h⟩ := bnd h
      refine OEnds.plain hm_41 rfl rfl (x_iastore rfl (Nat.le_of_ble_eq_true rfl) hA123) ?_
      refine OEnds.adv hm_41 6 (pc' := 37) (L' := [qr 1, qi v1]) (S' := []) (H' := (c0 :: bk0 zq zo zl za zd zb zc zm zf zj ze A123 zi zn (zg + (1 : Int32)) zk zp po)) rfl ?_
      cases h
      exact OEnds.vret hm_41 rfl rfl
    · simp only [if_neg hc95] at h
      refine OEnds.icmpF hm_41 rfl ((flt hc95).1) ?_
      show OEnds own_P 41 16 [qr 1, qi v1] [] (c0 :: bk0 zq zo zl za zd zb zc zm zf zj ze zh zi zn zg zk zp po) _
      cases h
      exact OEnds.vret hm_41 rfl rfl
theorem ok_buildOrder_15 {zq zo zl za zd zb zc zm zf zj ze : List Int32} {zi zn zk zp : Int32} {c0 : ACell} {po : List ACell} {k7 : List Int32 → Int32 → Int32 → Option (List Int32 × Int32)} (hk7 : ∀ {zh : List Int32} {zg v1 : Int32} {d2 : Slot} {w_o_planOrder : List Int32} {w_o_planOrderLength : Int32}, k7 zh zg v1 = some (w_o_planOrder, w_o_planOrderLength) → OEnds own_P 35 7 [qr 1, qi v1, d2] [] (c0 :: bk0 zq zo zl za zd zb zc zm zf zj ze zh zi zn zg zk zp po) (none, (c0 :: bk0 zq zo zl za zd zb zc zm zf zj ze w_o_planOrder zi zn w_o_planOrderLength zk zp po), 0, 0)) : ∀ (n : Nat), ∀ {zh : List Int32} {zg v1 v2 : Int32} {w_o_planOrder : List Int32} {w_o_planOrderLength : Int32}, f_buildOrder_15 k7 za zb n zh zg v1 v2 = some (w_o_planOrder, w_o_planOrderLength) → OEnds own_P 35 15 [qr 1, qi v1, qi v2] [] (c0 :: bk0 zq zo zl za zd zb zc zm zf zj ze zh zi zn zg zk zp po) (none, (c0 :: bk0 zq zo zl za zd zb zc zm zf zj ze w_o_planOrder zi zn w_o_planOrderLength zk zp po), 0, 0) := by
  intro n
  induction n with
  | zero => intro zh zg v1 v2 w_o_planOrder w_o_planOrderLength h; cases h
  | succ n ih =>
    intro zh zg v1 v2 w_o_planOrder w_o_planOrderLength h
    unfold f_buildOrder_15 at h
    refine OEnds.adv hm_35 2 (pc' := 18) (L' := [qr 1, qi v1, qi v2]) (S' := [.int 32, .int v2]) (H' := (c0 :: bk0 zq zo zl za zd zb zc zm zf zj ze zh zi zn zg zk zp po)) rfl ?_
    by_cases hc96 : v2 < (32 : Int32)
    · simp only [if_pos hc96] at h
      refine OEnds.icmpF hm_35 rfl ((tlt hc96).2.1) ?_
      refine OEnds.adv hm_35 3 (pc' := 26) (L' := [qr 1, qi v1, qi v2]) (S' := [.int v2, .ref 5]) (H' := (c0 :: bk0 zq zo zl za zd zb zc zm zf zj ze zh zi zn zg zk zp po)) rfl ?_
      obtain ⟨x124, hx124, h⟩ := bnd h
      refine OEnds.plain hm_35 rfl rfl (x_baload rfl hx124) ?_
      show OEnds own_P 35 27 [qr 1, qi v1, qi v2] [.int x124] (c0 :: bk0 zq zo zl za zd zb zc zm zf zj ze zh zi zn zg zk zp po) _
      by_cases hc97 : x124 = (0 : Int32)
      · simp only [if_pos hc97] at h
        refine OEnds.ifT hm_35 rfl (q := 45) rfl ((teq hc97).1) ?_
        refine OEnds.adv hm_35 2 (pc' := 15) (L' := [qr 1, qi v1, qi (v2 + (1 : Int32))]) (S' := []) (H' := (c0 :: bk0 zq zo zl za zd zb zc zm zf zj ze zh zi zn zg zk zp po)) rfl ?_
        exact ih h
      · simp only [if_neg hc97] at h
        refine OEnds.ifF hm_35 rfl ((feq hc97).1) ?_
        refine OEnds.adv hm_35 3 (pc' := 35) (L' := [qr 1, qi v1, qi v2]) (S' := [.int v2, .ref 7]) (H' := (c0 :: bk0 zq zo zl za zd zb zc zm zf zj ze zh zi zn zg zk zp po)) rfl ?_
        obtain ⟨x125, hx125, h⟩ := bnd h
        refine OEnds.plain hm_35 rfl rfl (x_iaload rfl hx125) ?_
        refine OEnds.adv hm_35 1 (pc' := 37) (L' := [qr 1, qi v1, qi v2]) (S' := [.int v1, .int x125]) (H' := (c0 :: bk0 zq zo zl za zd zb zc zm zf zj ze zh zi zn zg zk zp po)) rfl ?_
        by_cases hc98 : x125 = v1
        · simp only [if_pos hc98] at h
          refine OEnds.icmpF hm_35 rfl ((teq hc98).2) ?_
          refine OEnds.adv hm_35 2 (pc' := 42) (L' := [qr 1, qi v1, qi v2]) (S' := [.int v2, .ref 1]) (H' := (c0 :: bk0 zq zo zl za zd zb zc zm zf zj ze zh zi zn zg zk zp po)) rfl ?_
          obtain ⟨⟨s126, s127⟩, hq99, h⟩ := bnd h
          refine OEnds.call0 hm_35 rfl rfl (by decide) rfl (as := [.ref 1, .int v2]) (rest := []) rfl rfl (ok_appendToOrder hq99) ?_
          refine OEnds.adv hm_35 2 (pc' := 15) (L' := [qr 1, qi v1, qi (v2 + (1 : Int32))]) (S' := []) (H' := (c0 :: bk0 zq zo zl za zd zb zc zm zf zj ze s126 zi zn s127 zk zp po)) rfl ?_
          exact ih h
        · simp only [if_neg hc98] at h
          refine OEnds.icmpT hm_35 rfl (q := 45) rfl ((feq hc98).2) ?_
          refine OEnds.adv hm_35 2 (pc' := 15) (L' := [qr 1, qi v1, qi (v2 + (1 : Int32))]) (S' := []) (H' := (c0 :: bk0 zq zo zl za zd zb zc zm zf zj ze zh zi zn zg zk zp po)) rfl ?_
          exact ih h
    · simp only [if_neg hc96] at h
      refine OEnds.icmpT hm_35 rfl (q := 51) rfl ((flt hc96).2.1) ?_
      refine OEnds.adv hm_35 2 (pc' := 7) (L' := [qr 1, qi (v1 + (1 : Int32)), qi v2]) (S' := []) (H' := (c0 :: bk0 zq zo zl za zd zb zc zm zf zj ze zh zi zn zg zk zp po)) rfl ?_
      exact hk7 h
theorem ok_buildOrder_7 {zq zo zl za zd zb zc zm zf zj ze : List Int32} {zi zn zk zp : Int32} {c0 : ACell} {po : List ACell} : ∀ (n : Nat), ∀ {zh : List Int32} {zg v1 : Int32} {d2 : Slot} {w_o_planOrder : List Int32} {w_o_planOrderLength : Int32}, f_buildOrder_7 za zb n zh zg v1 = some (w_o_planOrder, w_o_planOrderLength) → OEnds own_P 35 7 [qr 1, qi v1, d2] [] (c0 :: bk0 zq zo zl za zd zb zc zm zf zj ze zh zi zn zg zk zp po) (none, (c0 :: bk0 zq zo zl za zd zb zc zm zf zj ze w_o_planOrder zi zn w_o_planOrderLength zk zp po), 0, 0) := by
  intro n
  induction n with
  | zero => intro zh zg v1 d2 w_o_planOrder w_o_planOrderLength h; cases h
  | succ n ih =>
    intro zh zg v1 d2 w_o_planOrder w_o_planOrderLength h
    unfold f_buildOrder_7 at h
    refine OEnds.adv hm_35 2 (pc' := 10) (L' := [qr 1, qi v1, qu]) (S' := [.int 32, .int v1]) (H' := (c0 :: bk0 zq zo zl za zd zb zc zm zf zj ze zh zi zn zg zk zp po)) rfl ?_
    by_cases hc100 : v1 < (32 : Int32)
    · simp only [if_pos hc100] at h
      refine OEnds.icmpF hm_35 rfl ((tlt hc100).2.1) ?_
      refine OEnds.adv hm_35 2 (pc' := 15) (L' := [qr 1, qi v1, qi 0]) (S' := []) (H' := (c0 :: bk0 zq zo zl za zd zb zc zm zf zj ze zh zi zn zg zk zp po)) rfl ?_
      exact ok_buildOrder_15 (k7 := f_buildOrder_7 za zb n) ih 100000 h
    · simp only [if_neg hc100] at h
      refine OEnds.icmpT hm_35 rfl (q := 57) rfl ((flt hc100).2.1) ?_
      show OEnds own_P 35 57 [qr 1, qi v1, qu] [] (c0 :: bk0 zq zo zl za zd zb zc zm zf zj ze zh zi zn zg zk zp po) _
      cases h
      exact OEnds.vret hm_35 rfl rfl
theorem ok_buildOrder {zq zo zl za zd zb zc zm zf zj ze : List Int32} {zi zn zk zp : Int32} {c0 : ACell} {po : List ACell} {zh : List Int32} {zg : Int32} {w_o_planOrder : List Int32} {w_o_planOrderLength : Int32} (h : f_buildOrder za zb zh zg = some (w_o_planOrder, w_o_planOrderLength)) : OEnds own_P 35 0 [qr 1, qu, qu] [] (c0 :: bk0 zq zo zl za zd zb zc zm zf zj ze zh zi zn zg zk zp po) (none, (c0 :: bk0 zq zo zl za zd zb zc zm zf zj ze w_o_planOrder zi zn w_o_planOrderLength zk zp po), 0, 0) := by
  unfold f_buildOrder at h
  refine OEnds.adv hm_35 5 (pc' := 7) (L' := [qr 1, qi 0, qu]) (S' := []) (H' := (c0 :: bk0 zq zo zl za zd zb zc zm zf zj ze zh zi zn 0 zk zp po)) rfl ?_
  exact ok_buildOrder_7 100000 h
theorem ok_gridIndex {zq zo zl za zd zb zc zm zf zj ze zh : List Int32} {zi zn zg zk zp : Int32} {c0 : ACell} {po : List ACell} {v1 v2 res : Int32} (h : f_gridIndex v1 v2 = some res) : OEnds own_P 39 0 [qr 1, qi v1, qi v2] [] (c0 :: bk0 zq zo zl za zd zb zc zm zf zj ze zh zi zn zg zk zp po) (some (.int res), (c0 :: bk0 zq zo zl za zd zb zc zm zf zj ze zh zi zn zg zk zp po), 0, 0) := by
  unfold f_gridIndex at h
  refine OEnds.adv hm_39 5 (pc' := 6) (L' := [qr 1, qi v1, qi v2]) (S' := [.int ((v1 * (32 : Int32)) + v2)]) (H' := (c0 :: bk0 zq zo zl za zd zb zc zm zf zj ze zh zi zn zg zk zp po)) rfl ?_
  cases h
  exact OEnds.iret hm_39 rfl rfl
theorem ok_gridAt {zq zo zl za zd zb zc zm zf zj ze zh : List Int32} {zi zn zg zk zp : Int32} {c0 : ACell} {po : List ACell} {v1 v2 res : Int32} (h : f_gridAt ze v1 v2 = some res) : OEnds own_P 38 0 [qr 1, qi v1, qi v2] [] (c0 :: bk0 zq zo zl za zd zb zc zm zf zj ze zh zi zn zg zk zp po) (some (.int res), (c0 :: bk0 zq zo zl za zd zb zc zm zf zj ze zh zi zn zg zk zp po), 0, 0) := by
  unfold f_gridAt at h
  refine OEnds.adv hm_38 1 (pc' := 1) (L' := [qr 1, qi v1, qi v2]) (S' := [.int v1]) (H' := (c0 :: bk0 zq zo zl za zd zb zc zm zf zj ze zh zi zn zg zk zp po)) rfl ?_
  by_cases hc101 : v1 < (0 : Int32)
  · simp only [if_pos hc101] at h
    refine OEnds.ifT hm_38 rfl (q := 18) rfl ((tlt hc101).1) ?_
    refine OEnds.adv hm_38 1 (pc' := 19) (L' := [qr 1, qi v1, qi v2]) (S' := [.int (-1)]) (H' := (c0 :: bk0 zq zo zl za zd zb zc zm zf zj ze zh zi zn zg zk zp po)) rfl ?_
    cases h
    exact OEnds.iret hm_38 rfl rfl
  · simp only [if_neg hc101] at h
    refine OEnds.ifF hm_38 rfl ((flt hc101).1) ?_
    refine OEnds.adv hm_38 2 (pc' := 7) (L' := [qr 1, qi v1, qi v2]) (S' := [.int 24, .int v1]) (H' := (c0 :: bk0 zq zo zl za zd zb zc zm zf zj ze zh zi zn zg zk zp po)) rfl ?_
    by_cases hc102 : v1 < (24 : Int32)
    · simp only [if_pos hc102] at h
      refine OEnds.icmpF hm_38 rfl ((tlt hc102).2.1) ?_
      refine OEnds.adv hm_38 2 (pc' := 12) (L' := [qr 1, qi v1, qi v2]) (S' := [.int v2, .ref 1]) (H' := (c0 :: bk0 zq zo zl za zd zb zc zm zf zj ze zh zi zn zg zk zp po)) rfl ?_
      obtain ⟨r128, hq103, h⟩ := bnd h
      refine OEnds.call0 hm_38 rfl rfl (by decide) rfl (as := [.ref 1, .int v2]) (rest := []) rfl rfl (ok_isValidNight hq103) ?_
      show OEnds own_P 38 15 [qr 1, qi v1, qi v2] [.int r128] (c0 :: bk0 zq zo zl za zd zb zc zm zf zj ze zh zi zn zg zk zp po) _
      by_cases hc104 : r128 = (0 : Int32)
      · simp only [if_pos hc104] at h
        refine OEnds.ifF hm_38 rfl ((teq hc104).2) ?_
        refine OEnds.adv hm_38 1 (pc' := 19) (L' := [qr 1, qi v1, qi v2]) (S' := [.int (-1)]) (H' := (c0 :: bk0 zq zo zl za zd zb zc zm zf zj ze zh zi zn zg zk zp po)) rfl ?_
        cases h
        exact OEnds.iret hm_38 rfl rfl
      · simp only [if_neg hc104] at h
        refine OEnds.ifT hm_38 rfl (q := 20) rfl ((feq hc104).2) ?_
        refine OEnds.adv hm_38 5 (pc' := 27) (L' := [qr 1, qi v1, qi v2]) (S' := [.int v2, .int v1, .ref 1, .ref 12]) (H' := (c0 :: bk0 zq zo zl za zd zb zc zm zf zj ze zh zi zn zg zk zp po)) rfl ?_
        obtain ⟨r129, hq105, h⟩ := bnd h
        refine OEnds.call0 hm_38 rfl rfl (by decide) rfl (as := [.ref 1, .int v1, .int v2]) (rest := [.ref 12]) rfl rfl (ok_gridIndex hq105) ?_
        show OEnds own_P 38 30 [qr 1, qi v1, qi v2] [.int r129, .ref 12] (c0 :: bk0 zq zo zl za zd zb zc zm zf zj ze zh zi zn zg zk zp po) _
        obtain ⟨x130, hx130, h⟩ := bnd h
        refine OEnds.plain hm_38 rfl rfl (x_iaload rfl hx130) ?_
        show OEnds own_P 38 31 [qr 1, qi v1, qi v2] [.int x130] (c0 :: bk0 zq zo zl za zd zb zc zm zf zj ze zh zi zn zg zk zp po) _
        cases h
        exact OEnds.iret hm_38 rfl rfl
    · simp only [if_neg hc102] at h
      refine OEnds.icmpT hm_38 rfl (q := 18) rfl ((flt hc102).2.1) ?_
      refine OEnds.adv hm_38 1 (pc' := 19) (L' := [qr 1, qi v1, qi v2]) (S' := [.int (-1)]) (H' := (c0 :: bk0 zq zo zl za zd zb zc zm zf zj ze zh zi zn zg zk zp po)) rfl ?_
      cases h
      exact OEnds.iret hm_38 rfl rfl
theorem ok_roomIsFree_11 {zq zo zl za zd zb zc zm zf zj ze zh : List Int32} {zi zn zg zk zp : Int32} {c0 : ACell} {po : List ACell} : ∀ (n : Nat), ∀ {v1 v4 v5 : Int32} {d2 d3 : Slot} {res : Int32}, f_roomIsFree_11 ze n v1 v4 v5 = some res → OEnds own_P 43 11 [qr 1, qi v1, d2, d3, qi v4, qi v5] [] (c0 :: bk0 zq zo zl za zd zb zc zm zf zj ze zh zi zn zg zk zp po) (some (.int res), (c0 :: bk0 zq zo zl za zd zb zc zm zf zj ze zh zi zn zg zk zp po), 0, 0) := by
  intro n
  induction n with
  | zero => intro v1 v4 v5 d2 d3 res h; cases h
  | succ n ih =>
    intro v1 v4 v5 d2 d3 res h
    unfold f_roomIsFree_11 at h
    refine OEnds.adv hm_43 1 (pc' := 13) (L' := [qr 1, qi v1, qu, qu, qi v4, qi v5]) (S' := [.int v5]) (H' := (c0 :: bk0 zq zo zl za zd zb zc zm zf zj ze zh zi zn zg zk zp po)) rfl ?_
    by_cases hc106 : v5 < (0 : Int32)
    · simp only [if_pos hc106] at h
      refine OEnds.ifT hm_43 rfl (q := 42) rfl ((tlt hc106).1) ?_
      refine OEnds.adv hm_43 1 (pc' := 43) (L' := [qr 1, qi v1, qu, qu, qi v4, qi v5]) (S' := [.int 1]) (H' := (c0 :: bk0 zq zo zl za zd zb zc zm zf zj ze zh zi zn zg zk zp po)) rfl ?_
      cases h
      exact OEnds.iret hm_43 rfl rfl
    · simp only [if_neg hc106] at h
      refine OEnds.ifF hm_43 rfl ((flt hc106).1) ?_
      refine OEnds.adv hm_43 2 (pc' := 20) (L' := [qr 1, qi v1, qu, qu, qi v4, qi v5]) (S' := [.int v4, .int v5]) (H' := (c0 :: bk0 zq zo zl za zd zb zc zm zf zj ze zh zi zn zg zk zp po)) rfl ?_
      by_cases hc107 : v5 < v4
      · simp only [if_pos hc107] at h
        refine OEnds.icmpF hm_43 rfl ((tlt hc107).2.1) ?_
        refine OEnds.adv hm_43 3 (pc' := 27) (L' := [qr 1, qi v1, qu, qu, qi v4, qi v5]) (S' := [.int v5, .int v1, .ref 1]) (H' := (c0 :: bk0 zq zo zl za zd zb zc zm zf zj ze zh zi zn zg zk zp po)) rfl ?_
        obtain ⟨r132, hq108, h⟩ := bnd h
        refine OEnds.call0 hm_43 rfl rfl (by decide) rfl (as := [.ref 1, .int v1, .int v5]) (rest := []) rfl rfl (ok_gridAt hq108) ?_
        refine OEnds.adv hm_43 1 (pc' := 31) (L' := [qr 1, qi v1, qu, qu, qi v4, qi v5]) (S' := [.int (-1), .int r132]) (H' := (c0 :: bk0 zq zo zl za zd zb zc zm zf zj ze zh zi zn zg zk zp po)) rfl ?_
        by_cases hc109 : r132 = (-1 : Int32)
        · simp only [if_pos hc109] at h
          refine OEnds.icmpT hm_43 rfl (q := 36) rfl ((teq hc109).1) ?_
          refine OEnds.adv hm_43 2 (pc' := 11) (L' := [qr 1, qi v1, qu, qu, qi v4, qi (v5 + (1 : Int32))]) (S' := []) (H' := (c0 :: bk0 zq zo zl za zd zb zc zm zf zj ze zh zi zn zg zk zp po)) rfl ?_
          exact ih h
        · simp only [if_neg hc109] at h
          refine OEnds.icmpF hm_43 rfl ((feq hc109).1) ?_
          refine OEnds.adv hm_43 1 (pc' := 35) (L' := [qr 1, qi v1, qu, qu, qi v4, qi v5]) (S' := [.int 0]) (H' := (c0 :: bk0 zq zo zl za zd zb zc zm zf zj ze zh zi zn zg zk zp po)) rfl ?_
          cases h
          exact OEnds.iret hm_43 rfl rfl
      · simp only [if_neg hc107] at h
        refine OEnds.icmpT hm_43 rfl (q := 42) rfl ((flt hc107).2.1) ?_
        refine OEnds.adv hm_43 1 (pc' := 43) (L' := [qr 1, qi v1, qu, qu, qi v4, qi v5]) (S' := [.int 1]) (H' := (c0 :: bk0 zq zo zl za zd zb zc zm zf zj ze zh zi zn zg zk zp po)) rfl ?_
        cases h
        exact OEnds.iret hm_43 rfl rfl
theorem ok_roomIsFree {zq zo zl za zd zb zc zm zf zj ze zh : List Int32} {zi zn zg zk zp : Int32} {c0 : ACell} {po : List ACell} {v1 v2 v3 res : Int32} (h : f_roomIsFree ze v1 v2 v3 = some res) : OEnds own_P 43 0 [qr 1, qi v1, qi v2, qi v3, qu, qu] [] (c0 :: bk0 zq zo zl za zd zb zc zm zf zj ze zh zi zn zg zk zp po) (some (.int res), (c0 :: bk0 zq zo zl za zd zb zc zm zf zj ze zh zi zn zg zk zp po), 0, 0) := by
  unfold f_roomIsFree at h
  refine OEnds.adv hm_43 3 (pc' := 3) (L' := [qr 1, qi v1, qi v2, qi v3, qu, qu]) (S' := [.int v3, .int v2, .ref 1]) (H' := (c0 :: bk0 zq zo zl za zd zb zc zm zf zj ze zh zi zn zg zk zp po)) rfl ?_
  obtain ⟨r131, hq110, h⟩ := bnd h
  refine OEnds.call0 hm_43 rfl rfl (by decide) rfl (as := [.ref 1, .int v2, .int v3]) (rest := []) rfl rfl (ok_endOf hq110) ?_
  refine OEnds.adv hm_43 3 (pc' := 11) (L' := [qr 1, qi v1, qi v2, qi v3, qi r131, qi v2]) (S' := []) (H' := (c0 :: bk0 zq zo zl za zd zb zc zm zf zj ze zh zi zn zg zk zp po)) rfl ?_
  exact ok_roomIsFree_11 100000 h
theorem ok_markRoom_23 {zq zo zl za zd zb zc zm zf zj zh : List Int32} {zi zn zg zk zp : Int32} {c0 : ACell} {po : List ACell} : ∀ (n : Nat), ∀ {ze : List Int32} {v1 v2 v5 v6 : Int32} {d3 d4 : Slot} {w_o_planGrid : List Int32}, f_markRoom_23 n ze v1 v2 v5 v6 = some w_o_planGrid → OEnds own_P 44 23 [qr 1, qi v1, qi v2, d3, d4, qi v5, qi v6] [] (c0 :: bk0 zq zo zl za zd zb zc zm zf zj ze zh zi zn zg zk zp po) (none, (c0 :: bk0 zq zo zl za zd zb zc zm zf zj w_o_planGrid zh zi zn zg zk zp po), 0, 0) := by
  intro n
  induction n with
  | zero => intro ze v1 v2 v5 v6 d3 d4 w_o_planGrid h; cases h
  | succ n ih =>
    intro ze v1 v2 v5 v6 d3 d4 w_o_planGrid h
    unfold f_markRoom_23 at h
    refine OEnds.adv hm_44 1 (pc' := 25) (L' := [qr 1, qi v1, qi v2, qu, qu, qi v5, qi v6]) (S' := [.int v6]) (H' := (c0 :: bk0 zq zo zl za zd zb zc zm zf zj ze zh zi zn zg zk zp po)) rfl ?_
    by_cases hc111 : v6 < (0 : Int32)
    · simp only [if_pos hc111] at h
      refine OEnds.ifT hm_44 rfl (q := 54) rfl ((tlt hc111).1) ?_
      show OEnds own_P 44 54 [qr 1, qi v1, qi v2, qu, qu, qi v5, qi v6] [] (c0 :: bk0 zq zo zl za zd zb zc zm zf zj ze zh zi zn zg zk zp po) _
      cases h
      exact OEnds.vret hm_44 rfl rfl
    · simp only [if_neg hc111] at h
      refine OEnds.ifF hm_44 rfl ((flt hc111).1) ?_
      refine OEnds.adv hm_44 2 (pc' := 32) (L' := [qr 1, qi v1, qi v2, qu, qu, qi v5, qi v6]) (S' := [.int v5, .int v6]) (H' := (c0 :: bk0 zq zo zl za zd zb zc zm zf zj ze zh zi zn zg zk zp po)) rfl ?_
      by_cases hc112 : v6 < v5
      · simp only [if_pos hc112] at h
        refine OEnds.icmpF hm_44 rfl ((tlt hc112).2.1) ?_
        refine OEnds.adv hm_44 5 (pc' := 43) (L' := [qr 1, qi v1, qi v2, qu, qu, qi v5, qi v6]) (S' := [.int v6, .int v1, .ref 1, .ref 12]) (H' := (c0 :: bk0 zq zo zl za zd zb zc zm zf zj ze zh zi zn zg zk zp po)) rfl ?_
        obtain ⟨r134, hq113, h⟩ := bnd h
        refine OEnds.call0 hm_44 rfl rfl (by decide) rfl (as := [.ref 1, .int v1, .int v6]) (rest := [.ref 12]) rfl rfl (ok_gridIndex hq113) ?_
        refine OEnds.adv hm_44 1 (pc' := 47) (L' := [qr 1, qi v1, qi v2, qu, qu, qi v5, qi v6]) (S' := [.int v2, .int r134, .ref 12]) (H' := (c0 :: bk0 zq zo zl za zd zb zc zm zf zj ze zh zi zn zg zk zp po)) rfl ?_
        obtain ⟨A135, hA135, h⟩ := bnd h
        refine OEnds.plain hm_44 rfl rfl (x_iastore rfl (Nat.le_of_ble_eq_true rfl) hA135) ?_
        refine OEnds.adv hm_44 2 (pc' := 23) (L' := [qr 1, qi v1, qi v2, qu, qu, qi v5, qi (v6 + (1 : Int32))]) (S' := []) (H' := (c0 :: bk0 zq zo zl za zd zb zc zm zf zj A135 zh zi zn zg zk zp po)) rfl ?_
        exact ih h
      · simp only [if_neg hc112] at h
        refine OEnds.icmpT hm_44 rfl (q := 54) rfl ((flt hc112).2.1) ?_
        show OEnds own_P 44 54 [qr 1, qi v1, qi v2, qu, qu, qi v5, qi v6] [] (c0 :: bk0 zq zo zl za zd zb zc zm zf zj ze zh zi zn zg zk zp po) _
        cases h
        exact OEnds.vret hm_44 rfl rfl
theorem ok_markRoom {zq zo zl za zd zb zc zm zf zj zh : List Int32} {zi zn zg zk zp : Int32} {c0 : ACell} {po : List ACell} {ze : List Int32} {v1 v2 v3 v4 : Int32} {w_o_planGrid : List Int32} (h : f_markRoom ze v1 v2 v3 v4 = some w_o_planGrid) : OEnds own_P 44 0 [qr 1, qi v1, qi v2, qi v3, qi v4, qu, qu] [] (c0 :: bk0 zq zo zl za zd zb zc zm zf zj ze zh zi zn zg zk zp po) (none, (c0 :: bk0 zq zo zl za zd zb zc zm zf zj w_o_planGrid zh zi zn zg zk zp po), 0, 0) := by
  unfold f_markRoom at h
  refine OEnds.adv hm_44 1 (pc' := 1) (L' := [qr 1, qi v1, qi v2, qi v3, qi v4, qu, qu]) (S' := [.int v1]) (H' := (c0 :: bk0 zq zo zl za zd zb zc zm zf zj ze zh zi zn zg zk zp po)) rfl ?_
  by_cases hc114 : v1 < (0 : Int32)
  · simp only [if_pos hc114] at h
    refine OEnds.ifT hm_44 rfl (q := 10) rfl ((tlt hc114).1) ?_
    show OEnds own_P 44 10 [qr 1, qi v1, qi v2, qi v3, qi v4, qu, qu] [] (c0 :: bk0 zq zo zl za zd zb zc zm zf zj ze zh zi zn zg zk zp po) _
    cases h
    exact OEnds.vret hm_44 rfl rfl
  · simp only [if_neg hc114] at h
    refine OEnds.ifF hm_44 rfl ((flt hc114).1) ?_
    refine OEnds.adv hm_44 2 (pc' := 7) (L' := [qr 1, qi v1, qi v2, qi v3, qi v4, qu, qu]) (S' := [.int 24, .int v1]) (H' := (c0 :: bk0 zq zo zl za zd zb zc zm zf zj ze zh zi zn zg zk zp po)) rfl ?_
    by_cases hc115 : v1 < (24 : Int32)
    · simp only [if_pos hc115] at h
      refine OEnds.icmpT hm_44 rfl (q := 11) rfl ((tlt hc115).1) ?_
      refine OEnds.adv hm_44 3 (pc' := 15) (L' := [qr 1, qi v1, qi v2, qi v3, qi v4, qu, qu]) (S' := [.int v4, .int v3, .ref 1]) (H' := (c0 :: bk0 zq zo zl za zd zb zc zm zf zj ze zh zi zn zg zk zp po)) rfl ?_
      obtain ⟨r133, hq116, h⟩ := bnd h
      refine OEnds.call0 hm_44 rfl rfl (by decide) rfl (as := [.ref 1, .int v3, .int v4]) (rest := []) rfl rfl (ok_endOf hq116) ?_
      refine OEnds.adv hm_44 3 (pc' := 23) (L' := [qr 1, qi v1, qi v2, qi v3, qi v4, qi r133, qi v3]) (S' := []) (H' := (c0 :: bk0 zq zo zl za zd zb zc zm zf zj ze zh zi zn zg zk zp po)) rfl ?_
      exact ok_markRoom_23 100000 h
    · simp only [if_neg hc115] at h
      refine OEnds.icmpF hm_44 rfl ((flt hc115).1) ?_
      show OEnds own_P 44 10 [qr 1, qi v1, qi v2, qi v3, qi v4, qu, qu] [] (c0 :: bk0 zq zo zl za zd zb zc zm zf zj ze zh zi zn zg zk zp po) _
      cases h
      exact OEnds.vret hm_44 rfl rfl
theorem ok_placeStay_78 {zq zo zl za zd zb zc zm zf zh : List Int32} {zi zn zg zk zp : Int32} {c0 : ACell} {po : List ACell} : ∀ {zj ze : List Int32} {v1 v3 v4 v5 : Int32} {d2 : Slot} {res : Int32} {w_o_planRoom : List Int32} {w_o_planGrid : List Int32}, f_placeStay_78 zl za zd zb zc zi zj ze v1 v3 v4 v5 = some (res, w_o_planRoom, w_o_planGrid) → OEnds own_P 42 78 [qr 1, qi v1, d2, qi v3, qi v4, qi v5] [] (c0 :: bk0 zq zo zl za zd zb zc zm zf zj ze zh zi zn zg zk zp po) (some (.int res), (c0 :: bk0 zq zo zl za zd zb zc zm zf w_o_planRoom w_o_planGrid zh zi zn zg zk zp po), 0, 0) := by
  intro zj ze v1 v3 v4 v5 d2 res w_o_planRoom w_o_planGrid h
  unfold f_placeStay_78 at h
  refine OEnds.adv hm_42 5 (pc' := 85) (L' := [qr 1, qi v1, qu, qi v3, qi v4, qi v5]) (S' := [.int v4, .int v3, .int v1, .int v5, .ref 1]) (H' := (c0 :: bk0 zq zo zl za zd zb zc zm zf zj ze zh zi zn zg zk zp po)) rfl ?_
  obtain ⟨s143, hq117, h⟩ := bnd h
  refine OEnds.call0 hm_42 rfl rfl (by decide) rfl (as := [.ref 1, .int v5, .int v1, .int v3, .int v4]) (rest := []) rfl rfl (ok_markRoom hq117) ?_
  refine OEnds.adv hm_42 4 (pc' := 95) (L' := [qr 1, qi v1, qu, qi v3, qi v4, qi v5]) (S' := [.int v5, .int v1, .ref 11]) (H' := (c0 :: bk0 zq zo zl za zd zb zc zm zf zj s143 zh zi zn zg zk zp po)) rfl ?_
  obtain ⟨A144, hA144, h⟩ := bnd h
  refine OEnds.plain hm_42 rfl rfl (x_iastore rfl (Nat.le_of_ble_eq_true rfl) hA144) ?_
  refine OEnds.adv hm_42 1 (pc' := 97) (L' := [qr 1, qi v1, qu, qi v3, qi v4, qi v5]) (S' := [.int 1]) (H' := (c0 :: bk0 zq zo zl za zd zb zc zm zf A144 s143 zh zi zn zg zk zp po)) rfl ?_
  cases h
  exact OEnds.iret hm_42 rfl rfl
theorem ok_placeStay_50 {zq zo zl za zd zb zc zm zf zh : List Int32} {zi zn zg zk zp : Int32} {c0 : ACell} {po : List ACell} {k78 : List Int32 → List Int32 → Int32 → Int32 → Int32 → Int32 → Option (Int32 × List Int32 × List Int32)} (hk78 : ∀ {zj ze : List Int32} {v1 v3 v4 v5 : Int32} {d2 : Slot} {res : Int32} {w_o_planRoom : List Int32} {w_o_planGrid : List Int32}, k78 zj ze v1 v3 v4 v5 = some (res, w_o_planRoom, w_o_planGrid) → OEnds own_P 42 78 [qr 1, qi v1, d2, qi v3, qi v4, qi v5] [] (c0 :: bk0 zq zo zl za zd zb zc zm zf zj ze zh zi zn zg zk zp po) (some (.int res), (c0 :: bk0 zq zo zl za zd zb zc zm zf w_o_planRoom w_o_planGrid zh zi zn zg zk zp po), 0, 0)) : ∀ (n : Nat), ∀ {zj ze : List Int32} {v1 v3 v4 v5 : Int32} {d2 : Slot} {res : Int32} {w_o_planRoom : List Int32} {w_o_planGrid : List Int32}, f_placeStay_50 k78 zl za zd zb zc zi n zj ze v1 v3 v4 v5 = some (res, w_o_planRoom, w_o_planGrid) → OEnds own_P 42 50 [qr 1, qi v1, d2, qi v3, qi v4, qi v5] [] (c0 :: bk0 zq zo zl za zd zb zc zm zf zj ze zh zi zn zg zk zp po) (some (.int res), (c0 :: bk0 zq zo zl za zd zb zc zm zf w_o_planRoom w_o_planGrid zh zi zn zg zk zp po), 0, 0) := by
  intro n
  induction n with
  | zero => intro zj ze v1 v3 v4 v5 d2 res w_o_planRoom w_o_planGrid h; cases h
  | succ n ih =>
    intro zj ze v1 v3 v4 v5 d2 res w_o_planRoom w_o_planGrid h
    unfold f_placeStay_50 at h
    refine OEnds.adv hm_42 3 (pc' := 56) (L' := [qr 1, qi v1, qu, qi v3, qi v4, qi v5]) (S' := [.int zi, .int v5]) (H' := (c0 :: bk0 zq zo zl za zd zb zc zm zf zj ze zh zi zn zg zk zp po)) rfl ?_
    by_cases hc118 : v5 < zi
    · simp only [if_pos hc118] at h
      refine OEnds.icmpF hm_42 rfl ((tlt hc118).2.1) ?_
      refine OEnds.adv hm_42 2 (pc' := 63) (L' := [qr 1, qi v1, qu, qi v3, qi v4, qi v5]) (S' := [.int 24, .int v5]) (H' := (c0 :: bk0 zq zo zl za zd zb zc zm zf zj ze zh zi zn zg zk zp po)) rfl ?_
      by_cases hc119 : v5 < (24 : Int32)
      · simp only [if_pos hc119] at h
        refine OEnds.icmpF hm_42 rfl ((tlt hc119).2.1) ?_
        refine OEnds.adv hm_42 4 (pc' := 72) (L' := [qr 1, qi v1, qu, qi v3, qi v4, qi v5]) (S' := [.int v4, .int v3, .int v5, .ref 1]) (H' := (c0 :: bk0 zq zo zl za zd zb zc zm zf zj ze zh zi zn zg zk zp po)) rfl ?_
        obtain ⟨r142, hq120, h⟩ := bnd h
        refine OEnds.call0 hm_42 rfl rfl (by decide) rfl (as := [.ref 1, .int v5, .int v3, .int v4]) (rest := []) rfl rfl (ok_roomIsFree hq120) ?_
        show OEnds own_P 42 75 [qr 1, qi v1, qu, qi v3, qi v4, qi v5] [.int r142] (c0 :: bk0 zq zo zl za zd zb zc zm zf zj ze zh zi zn zg zk zp po) _
        by_cases hc121 : r142 = (0 : Int32)
        · simp only [if_pos hc121] at h
          refine OEnds.ifT hm_42 rfl (q := 98) rfl ((teq hc121).1) ?_
          refine OEnds.adv hm_42 2 (pc' := 50) (L' := [qr 1, qi v1, qu, qi v3, qi v4, qi (v5 + (1 : Int32))]) (S' := []) (H' := (c0 :: bk0 zq zo zl za zd zb zc zm zf zj ze zh zi zn zg zk zp po)) rfl ?_
          exact ih h
        · simp only [if_neg hc121] at h
          refine OEnds.ifF hm_42 rfl ((feq hc121).1) ?_
          show OEnds own_P 42 78 [qr 1, qi v1, qu, qi v3, qi v4, qi v5] [] (c0 :: bk0 zq zo zl za zd zb zc zm zf zj ze zh zi zn zg zk zp po) _
          exact hk78 h
      · simp only [if_neg hc119] at h
        refine OEnds.icmpT hm_42 rfl (q := 104) rfl ((flt hc119).2.1) ?_
        refine OEnds.adv hm_42 1 (pc' := 105) (L' := [qr 1, qi v1, qu, qi v3, qi v4, qi v5]) (S' := [.int 0]) (H' := (c0 :: bk0 zq zo zl za zd zb zc zm zf zj ze zh zi zn zg zk zp po)) rfl ?_
        cases h
        exact OEnds.iret hm_42 rfl rfl
    · simp only [if_neg hc118] at h
      refine OEnds.icmpT hm_42 rfl (q := 104) rfl ((flt hc118).2.1) ?_
      refine OEnds.adv hm_42 1 (pc' := 105) (L' := [qr 1, qi v1, qu, qi v3, qi v4, qi v5]) (S' := [.int 0]) (H' := (c0 :: bk0 zq zo zl za zd zb zc zm zf zj ze zh zi zn zg zk zp po)) rfl ?_
      cases h
      exact OEnds.iret hm_42 rfl rfl
theorem ok_placeStay {zq zo zl za zd zb zc zm zf zh : List Int32} {zi zn zg zk zp : Int32} {c0 : ACell} {po : List ACell} {zj ze : List Int32} {v1 res : Int32} {w_o_planRoom w_o_planGrid : List Int32} (h : f_placeStay zl za zd zb zc zi zj ze v1 = some (res, w_o_planRoom, w_o_planGrid)) : OEnds own_P 42 0 [qr 1, qi v1, qu, qu, qu, qu] [] (c0 :: bk0 zq zo zl za zd zb zc zm zf zj ze zh zi zn zg zk zp po) (some (.int res), (c0 :: bk0 zq zo zl za zd zb zc zm zf w_o_planRoom w_o_planGrid zh zi zn zg zk zp po), 0, 0) := by
  unfold f_placeStay at h
  refine OEnds.adv hm_42 2 (pc' := 2) (L' := [qr 1, qi v1, qu, qu, qu, qu]) (S' := [.int v1, .ref 1]) (H' := (c0 :: bk0 zq zo zl za zd zb zc zm zf zj ze zh zi zn zg zk zp po)) rfl ?_
  obtain ⟨r136, hq122, h⟩ := bnd h
  refine OEnds.call0 hm_42 rfl rfl (by decide) rfl (as := [.ref 1, .int v1]) (rest := []) rfl rfl (ok_isActiveStay hq122) ?_
  show OEnds own_P 42 5 [qr 1, qi v1, qu, qu, qu, qu] [.int r136] (c0 :: bk0 zq zo zl za zd zb zc zm zf zj ze zh zi zn zg zk zp po) _
  by_cases hc123 : r136 = (0 : Int32)
  · simp only [if_pos hc123] at h
    refine OEnds.ifF hm_42 rfl ((teq hc123).2) ?_
    refine OEnds.adv hm_42 1 (pc' := 9) (L' := [qr 1, qi v1, qu, qu, qu, qu]) (S' := [.int 0]) (H' := (c0 :: bk0 zq zo zl za zd zb zc zm zf zj ze zh zi zn zg zk zp po)) rfl ?_
    cases h
    exact OEnds.iret hm_42 rfl rfl
  · simp only [if_neg hc123] at h
    refine OEnds.ifT hm_42 rfl (q := 10) rfl ((feq hc123).2) ?_
    refine OEnds.adv hm_42 3 (pc' := 15) (L' := [qr 1, qi v1, qu, qu, qu, qu]) (S' := [.int v1, .ref 6]) (H' := (c0 :: bk0 zq zo zl za zd zb zc zm zf zj ze zh zi zn zg zk zp po)) rfl ?_
    obtain ⟨x137, hx137, h⟩ := bnd h
    refine OEnds.plain hm_42 rfl rfl (x_iaload rfl hx137) ?_
    refine OEnds.adv hm_42 3 (pc' := 19) (L' := [qr 1, qi v1, qi x137, qu, qu, qu]) (S' := [.int x137, .ref 1]) (H' := (c0 :: bk0 zq zo zl za zd zb zc zm zf zj ze zh zi zn zg zk zp po)) rfl ?_
    obtain ⟨r138, hq124, h⟩ := bnd h
    refine OEnds.call0 hm_42 rfl rfl (by decide) rfl (as := [.ref 1, .int x137]) (rest := []) rfl rfl (ok_isValidType hq124) ?_
    show OEnds own_P 42 22 [qr 1, qi v1, qi x137, qu, qu, qu] [.int r138] (c0 :: bk0 zq zo zl za zd zb zc zm zf zj ze zh zi zn zg zk zp po) _
    by_cases hc125 : r138 = (0 : Int32)
    · simp only [if_pos hc125] at h
      refine OEnds.ifF hm_42 rfl ((teq hc125).2) ?_
      refine OEnds.adv hm_42 1 (pc' := 26) (L' := [qr 1, qi v1, qi x137, qu, qu, qu]) (S' := [.int 0]) (H' := (c0 :: bk0 zq zo zl za zd zb zc zm zf zj ze zh zi zn zg zk zp po)) rfl ?_
      cases h
      exact OEnds.iret hm_42 rfl rfl
    · simp only [if_neg hc125] at h
      refine OEnds.ifT hm_42 rfl (q := 27) rfl ((feq hc125).2) ?_
      refine OEnds.adv hm_42 3 (pc' := 32) (L' := [qr 1, qi v1, qi x137, qu, qu, qu]) (S' := [.int v1, .ref 7]) (H' := (c0 :: bk0 zq zo zl za zd zb zc zm zf zj ze zh zi zn zg zk zp po)) rfl ?_
      obtain ⟨x139, hx139, h⟩ := bnd h
      refine OEnds.plain hm_42 rfl rfl (x_iaload rfl hx139) ?_
      refine OEnds.adv hm_42 4 (pc' := 39) (L' := [qr 1, qi v1, qi x137, qi x139, qu, qu]) (S' := [.int v1, .ref 8]) (H' := (c0 :: bk0 zq zo zl za zd zb zc zm zf zj ze zh zi zn zg zk zp po)) rfl ?_
      obtain ⟨x140, hx140, h⟩ := bnd h
      refine OEnds.plain hm_42 rfl rfl (x_iaload rfl hx140) ?_
      refine OEnds.adv hm_42 4 (pc' := 47) (L' := [qr 1, qi v1, qi x137, qi x139, qi x140, qu]) (S' := [.int x137, .ref 4]) (H' := (c0 :: bk0 zq zo zl za zd zb zc zm zf zj ze zh zi zn zg zk zp po)) rfl ?_
      obtain ⟨x141, hx141, h⟩ := bnd h
      refine OEnds.plain hm_42 rfl rfl (x_iaload rfl hx141) ?_
      refine OEnds.adv hm_42 1 (pc' := 50) (L' := [qr 1, qi v1, qi x137, qi x139, qi x140, qi x141]) (S' := []) (H' := (c0 :: bk0 zq zo zl za zd zb zc zm zf zj ze zh zi zn zg zk zp po)) rfl ?_
      exact ok_placeStay_50 (k78 := f_placeStay_78 zl za zd zb zc zi) ok_placeStay_78 100000 h
theorem ok_assign_58 {zq zo zl za zd zb zc zm zf : List Int32} {zi zn : Int32} {c0 : ACell} {po : List ACell} : ∀ {zj ze zh : List Int32} {zg zk zp v1 : Int32} {d2 d3 d4 : Slot} {res : Int32} {w_o_planRoom w_o_planGrid w_o_planOrder : List Int32} {w_o_planOrderLength w_o_planCurrent : Int32} {w_o_planUnplaced : Int32}, f_assign_58 zl za zd zb zc zi zj ze zh zg zk zp v1 = some (res, w_o_planRoom, w_o_planGrid, w_o_planOrder, w_o_planOrderLength, w_o_planCurrent, w_o_planUnplaced) → OEnds own_P 34 58 [qr 1, qi v1, d2, d3, d4] [] (c0 :: bk0 zq zo zl za zd zb zc zm zf zj ze zh zi zn zg zk zp po) (some (.int res), (c0 :: bk0 zq zo zl za zd zb zc zm zf w_o_planRoom w_o_planGrid w_o_planOrder zi zn w_o_planOrderLength w_o_planCurrent w_o_planUnplaced po), 0, 0) := by
  intro zj ze zh zg zk zp v1 d2 d3 d4 res w_o_planRoom w_o_planGrid w_o_planOrder w_o_planOrderLength w_o_planCurrent w_o_planUnplaced h
  unfold f_assign_58 at h
  refine OEnds.adv hm_34 7 (pc' := 69) (L' := [qr 1, qi v1, qu, qu, qu]) (S' := [.int v1]) (H' := (c0 :: bk0 zq zo zl za zd zb zc zm zf zj ze zh zi zn zg 1 v1 po)) rfl ?_
  cases h
  exact OEnds.iret hm_34 rfl rfl
theorem ok_assign_16 {zq zo zl za zd zb zc zm zf : List Int32} {zi zn : Int32} {c0 : ACell} {po : List ACell} {k58 : List Int32 → List Int32 → List Int32 → Int32 → Int32 → Int32 → Int32 → Option (Int32 × List Int32 × List Int32 × List Int32 × Int32 × Int32 × Int32)} (hk58 : ∀ {zj ze zh : List Int32} {zg zk zp v1 : Int32} {d2 d3 d4 : Slot} {res : Int32} {w_o_planRoom w_o_planGrid w_o_planOrder : List Int32} {w_o_planOrderLength w_o_planCurrent : Int32} {w_o_planUnplaced : Int32}, k58 zj ze zh zg zk zp v1 = some (res, w_o_planRoom, w_o_planGrid, w_o_planOrder, w_o_planOrderLength, w_o_planCurrent, w_o_planUnplaced) → OEnds own_P 34 58 [qr 1, qi v1, d2, d3, d4] [] (c0 :: bk0 zq zo zl za zd zb zc zm zf zj ze zh zi zn zg zk zp po) (some (.int res), (c0 :: bk0 zq zo zl za zd zb zc zm zf w_o_planRoom w_o_planGrid w_o_planOrder zi zn w_o_planOrderLength w_o_planCurrent w_o_planUnplaced po), 0, 0)) : ∀ (n : Nat), ∀ {zj ze zh : List Int32} {zg zk zp v1 v2 : Int32} {d3 d4 : Slot} {res : Int32} {w_o_planRoom w_o_planGrid w_o_planOrder : List Int32} {w_o_planOrderLength w_o_planCurrent : Int32} {w_o_planUnplaced : Int32}, f_assign_16 k58 zl za zd zb zc zi n zj ze zh zg zk zp v1 v2 = some (res, w_o_planRoom, w_o_planGrid, w_o_planOrder, w_o_planOrderLength, w_o_planCurrent, w_o_planUnplaced) → OEnds own_P 34 16 [qr 1, qi v1, qi v2, d3, d4] [] (c0 :: bk0 zq zo zl za zd zb zc zm zf zj ze zh zi zn zg zk zp po) (some (.int res), (c0 :: bk0 zq zo zl za zd zb zc zm zf w_o_planRoom w_o_planGrid w_o_planOrder zi zn w_o_planOrderLength w_o_planCurrent w_o_planUnplaced po), 0, 0) := by
  intro n
  induction n with
  | zero => intro zj ze zh zg zk zp v1 v2 d3 d4 res w_o_planRoom w_o_planGrid w_o_planOrder w_o_planOrderLength w_o_planCurrent w_o_planUnplaced h; cases h
  | succ n ih =>
    intro zj ze zh zg zk zp v1 v2 d3 d4 res w_o_planRoom w_o_planGrid w_o_planOrder w_o_planOrderLength w_o_planCurrent w_o_planUnplaced h
    unfold f_assign_16 at h
    refine OEnds.adv hm_34 3 (pc' := 21) (L' := [qr 1, qi v1, qi v2, qu, qu]) (S' := [.int zg, .int v2]) (H' := (c0 :: bk0 zq zo zl za zd zb zc zm zf zj ze zh zi zn zg zk zp po)) rfl ?_
    by_cases hc126 : v2 < zg
    · simp only [if_pos hc126] at h
      refine OEnds.icmpF hm_34 rfl ((tlt hc126).2.1) ?_
      refine OEnds.adv hm_34 2 (pc' := 27) (L' := [qr 1, qi v1, qi v2, qu, qu]) (S' := [.int 32, .int v2]) (H' := (c0 :: bk0 zq zo zl za zd zb zc zm zf zj ze zh zi zn zg zk zp po)) rfl ?_
      by_cases hc127 : v2 < (32 : Int32)
      · simp only [if_pos hc127] at h
        refine OEnds.icmpF hm_34 rfl ((tlt hc127).2.1) ?_
        refine OEnds.adv hm_34 3 (pc' := 35) (L' := [qr 1, qi v1, qi v2, qu, qu]) (S' := [.int v2, .ref 13]) (H' := (c0 :: bk0 zq zo zl za zd zb zc zm zf zj ze zh zi zn zg zk zp po)) rfl ?_
        obtain ⟨x152, hx152, h⟩ := bnd h
        refine OEnds.plain hm_34 rfl rfl (x_iaload rfl hx152) ?_
        refine OEnds.adv hm_34 3 (pc' := 39) (L' := [qr 1, qi v1, qi v2, qi x152, qu]) (S' := [.int x152, .ref 1]) (H' := (c0 :: bk0 zq zo zl za zd zb zc zm zf zj ze zh zi zn zg zk zp po)) rfl ?_
        obtain ⟨⟨r153, s154, s155⟩, hq128, h⟩ := bnd h
        refine OEnds.call0 hm_34 rfl rfl (by decide) rfl (as := [.ref 1, .int x152]) (rest := []) rfl rfl (ok_placeStay hq128) ?_
        refine OEnds.adv hm_34 2 (pc' := 46) (L' := [qr 1, qi v1, qi v2, qi x152, qi r153]) (S' := [.int r153]) (H' := (c0 :: bk0 zq zo zl za zd zb zc zm zf s154 s155 zh zi zn zg zk zp po)) rfl ?_
        by_cases hc129 : r153 = (0 : Int32)
        · simp only [if_pos hc129] at h
          refine OEnds.ifF hm_34 rfl ((teq hc129).2) ?_
          refine OEnds.adv hm_34 3 (pc' := 16) (L' := [qr 1, qi (v1 + (1 : Int32)), qi (v2 + (1 : Int32)), qi x152, qi r153]) (S' := []) (H' := (c0 :: bk0 zq zo zl za zd zb zc zm zf s154 s155 zh zi zn zg zk zp po)) rfl ?_
          exact ih h
        · simp only [if_neg hc129] at h
          refine OEnds.ifT hm_34 rfl (q := 52) rfl ((feq hc129).2) ?_
          refine OEnds.adv hm_34 2 (pc' := 16) (L' := [qr 1, qi v1, qi (v2 + (1 : Int32)), qi x152, qi r153]) (S' := []) (H' := (c0 :: bk0 zq zo zl za zd zb zc zm zf s154 s155 zh zi zn zg zk zp po)) rfl ?_
          exact ih h
      · simp only [if_neg hc127] at h
        refine OEnds.icmpT hm_34 rfl (q := 58) rfl ((flt hc127).2.1) ?_
        show OEnds own_P 34 58 [qr 1, qi v1, qi v2, qu, qu] [] (c0 :: bk0 zq zo zl za zd zb zc zm zf zj ze zh zi zn zg zk zp po) _
        exact hk58 h
    · simp only [if_neg hc126] at h
      refine OEnds.icmpT hm_34 rfl (q := 58) rfl ((flt hc126).2.1) ?_
      show OEnds own_P 34 58 [qr 1, qi v1, qi v2, qu, qu] [] (c0 :: bk0 zq zo zl za zd zb zc zm zf zj ze zh zi zn zg zk zp po) _
      exact hk58 h
theorem ok_assign {zq zo zl za zd zb zc zm zf : List Int32} {zi zn : Int32} {c0 : ACell} {po : List ACell} {zj ze zh : List Int32} {zg zk zp res : Int32} {w_o_planRoom w_o_planGrid w_o_planOrder : List Int32} {w_o_planOrderLength w_o_planCurrent w_o_planUnplaced : Int32} (h : f_assign zl za zd zb zc zi zj ze zh zg zk zp = some (res, w_o_planRoom, w_o_planGrid, w_o_planOrder, w_o_planOrderLength, w_o_planCurrent, w_o_planUnplaced)) : OEnds own_P 34 0 [qr 1, qu, qu, qu, qu] [] (c0 :: bk0 zq zo zl za zd zb zc zm zf zj ze zh zi zn zg zk zp po) (some (.int res), (c0 :: bk0 zq zo zl za zd zb zc zm zf w_o_planRoom w_o_planGrid w_o_planOrder zi zn w_o_planOrderLength w_o_planCurrent w_o_planUnplaced po), 0, 0) := by
  unfold f_assign at h
  refine OEnds.adv hm_34 1 (pc' := 1) (L' := [qr 1, qu, qu, qu, qu]) (S' := [.ref 1]) (H' := (c0 :: bk0 zq zo zl za zd zb zc zm zf zj ze zh zi zn zg zk zp po)) rfl ?_
  obtain ⟨s145, hq130, h⟩ := bnd h
  refine OEnds.call0 hm_34 rfl rfl (by decide) rfl (as := [.ref 1]) (rest := []) rfl rfl (ok_discardPlan hq130) ?_
  refine OEnds.adv hm_34 1 (pc' := 5) (L' := [qr 1, qu, qu, qu, qu]) (S' := [.ref 1]) (H' := (c0 :: bk0 zq zo zl za zd zb zc zm zf zj ze zh zi zn zg s145 zp po)) rfl ?_
  obtain ⟨⟨s146, s147, s148, s149⟩, hq131, h⟩ := bnd h
  refine OEnds.call0 hm_34 rfl rfl (by decide) rfl (as := [.ref 1]) (rest := []) rfl rfl (ok_clearPlan hq131) ?_
  refine OEnds.adv hm_34 1 (pc' := 9) (L' := [qr 1, qu, qu, qu, qu]) (S' := [.ref 1]) (H' := (c0 :: bk0 zq zo zl za zd zb zc zm zf s146 s147 s148 zi zn s149 s145 zp po)) rfl ?_
  obtain ⟨⟨s150, s151⟩, hq132, h⟩ := bnd h
  refine OEnds.call0 hm_34 rfl rfl (by decide) rfl (as := [.ref 1]) (rest := []) rfl rfl (ok_buildOrder hq132) ?_
  refine OEnds.adv hm_34 4 (pc' := 16) (L' := [qr 1, qi 0, qi 0, qu, qu]) (S' := []) (H' := (c0 :: bk0 zq zo zl za zd zb zc zm zf s146 s147 s150 zi zn s151 s145 zp po)) rfl ?_
  exact ok_assign_16 (k58 := f_assign_58 zl za zd zb zc zi) ok_assign_58 100000 h
theorem ok_lowestInactiveSlot_2 {zq zo zl za zd zb zc zm zf zj ze zh : List Int32} {zi zn zg zk zp : Int32} {c0 : ACell} {po : List ACell} : ∀ (n : Nat), ∀ {v1 : Int32} {res : Int32}, f_lowestInactiveSlot_2 za n v1 = some res → OEnds own_P 24 2 [qr 1, qi v1] [] (c0 :: bk0 zq zo zl za zd zb zc zm zf zj ze zh zi zn zg zk zp po) (some (.int res), (c0 :: bk0 zq zo zl za zd zb zc zm zf zj ze zh zi zn zg zk zp po), 0, 0) := by
  intro n
  induction n with
  | zero => intro v1 res h; cases h
  | succ n ih =>
    intro v1 res h
    unfold f_lowestInactiveSlot_2 at h
    refine OEnds.adv hm_24 2 (pc' := 5) (L' := [qr 1, qi v1]) (S' := [.int 32, .int v1]) (H' := (c0 :: bk0 zq zo zl za zd zb zc zm zf zj ze zh zi zn zg zk zp po)) rfl ?_
    by_cases hc133 : v1 < (32 : Int32)
    · simp only [if_pos hc133] at h
      refine OEnds.icmpF hm_24 rfl ((tlt hc133).2.1) ?_
      refine OEnds.adv hm_24 3 (pc' := 13) (L' := [qr 1, qi v1]) (S' := [.int v1, .ref 5]) (H' := (c0 :: bk0 zq zo zl za zd zb zc zm zf zj ze zh zi zn zg zk zp po)) rfl ?_
      obtain ⟨x65, hx65, h⟩ := bnd h
      refine OEnds.plain hm_24 rfl rfl (x_baload rfl hx65) ?_
      show OEnds own_P 24 14 [qr 1, qi v1] [.int x65] (c0 :: bk0 zq zo zl za zd zb zc zm zf zj ze zh zi zn zg zk zp po) _
      by_cases hc134 : x65 = (0 : Int32)
      · simp only [if_pos hc134] at h
        refine OEnds.ifF hm_24 rfl ((teq hc134).2) ?_
        refine OEnds.adv hm_24 1 (pc' := 18) (L' := [qr 1, qi v1]) (S' := [.int v1]) (H' := (c0 :: bk0 zq zo zl za zd zb zc zm zf zj ze zh zi zn zg zk zp po)) rfl ?_
        cases h
        exact OEnds.iret hm_24 rfl rfl
      · simp only [if_neg hc134] at h
        refine OEnds.ifT hm_24 rfl (q := 19) rfl ((feq hc134).2) ?_
        refine OEnds.adv hm_24 2 (pc' := 2) (L' := [qr 1, qi (v1 + (1 : Int32))]) (S' := []) (H' := (c0 :: bk0 zq zo zl za zd zb zc zm zf zj ze zh zi zn zg zk zp po)) rfl ?_
        exact ih h
    · simp only [if_neg hc133] at h
      refine OEnds.icmpT hm_24 rfl (q := 25) rfl ((flt hc133).2.1) ?_
      refine OEnds.adv hm_24 1 (pc' := 26) (L' := [qr 1, qi v1]) (S' := [.int (-1)]) (H' := (c0 :: bk0 zq zo zl za zd zb zc zm zf zj ze zh zi zn zg zk zp po)) rfl ?_
      cases h
      exact OEnds.iret hm_24 rfl rfl
theorem ok_lowestInactiveSlot {zq zo zl za zd zb zc zm zf zj ze zh : List Int32} {zi zn zg zk zp : Int32} {c0 : ACell} {po : List ACell} {res : Int32} (h : f_lowestInactiveSlot za = some res) : OEnds own_P 24 0 [qr 1, qu] [] (c0 :: bk0 zq zo zl za zd zb zc zm zf zj ze zh zi zn zg zk zp po) (some (.int res), (c0 :: bk0 zq zo zl za zd zb zc zm zf zj ze zh zi zn zg zk zp po), 0, 0) := by
  unfold f_lowestInactiveSlot at h
  refine OEnds.adv hm_24 2 (pc' := 2) (L' := [qr 1, qi 0]) (S' := []) (H' := (c0 :: bk0 zq zo zl za zd zb zc zm zf zj ze zh zi zn zg zk zp po)) rfl ?_
  exact ok_lowestInactiveSlot_2 100000 h
theorem ok_activateStay {zq zo zl zj ze zh : List Int32} {zi zg zk zp : Int32} {c0 : ACell} {po : List ACell} {za zd zb zc zm zf : List Int32} {zn v1 v2 v3 v4 : Int32} {w_o_slotActive w_o_slotType w_o_slotArrive w_o_slotNights w_o_exactCount w_o_atLeastCount : List Int32} {w_o_activeStays : Int32} (h : f_activateStay za zd zb zc zm zf zn v1 v2 v3 v4 = some (w_o_slotActive, w_o_slotType, w_o_slotArrive, w_o_slotNights, w_o_exactCount, w_o_atLeastCount, w_o_activeStays)) : OEnds own_P 25 0 [qr 1, qi v1, qi v2, qi v3, qi v4] [] (c0 :: bk0 zq zo zl za zd zb zc zm zf zj ze zh zi zn zg zk zp po) (none, (c0 :: bk0 zq zo zl w_o_slotActive w_o_slotType w_o_slotArrive w_o_slotNights w_o_exactCount w_o_atLeastCount zj ze zh zi w_o_activeStays zg zk zp po), 0, 0) := by
  unfold f_activateStay at h
  refine OEnds.adv hm_25 5 (pc' := 6) (L' := [qr 1, qi v1, qi v2, qi v3, qi v4]) (S' := [.int v4, .int v3, .int v2, .int v1, .ref 1]) (H' := (c0 :: bk0 zq zo zl za zd zb zc zm zf zj ze zh zi zn zg zk zp po)) rfl ?_
  obtain ⟨⟨s80, s81, s82⟩, hq135, h⟩ := bnd h
  refine OEnds.call0 hm_25 rfl rfl (by decide) rfl (as := [.ref 1, .int v1, .int v2, .int v3, .int v4]) (rest := []) rfl rfl (ok_storeStay hq135) ?_
  refine OEnds.adv hm_25 4 (pc' := 15) (L' := [qr 1, qi v1, qi v2, qi v3, qi v4]) (S' := [.int 1, .int v1, .ref 5]) (H' := (c0 :: bk0 zq zo zl za s80 s81 s82 zm zf zj ze zh zi zn zg zk zp po)) rfl ?_
  obtain ⟨A83, hA83, h⟩ := bnd h
  refine OEnds.plain hm_25 rfl rfl (x_bastore rfl (Nat.le_of_ble_eq_true rfl) hA83) ?_
  refine OEnds.adv hm_25 9 (pc' := 29) (L' := [qr 1, qi v1, qi v2, qi v3, qi v4]) (S' := [.int 1, .int v1, .ref 1]) (H' := (c0 :: bk0 zq zo zl A83 s80 s81 s82 zm zf zj ze zh zi (zn + (1 : Int32)) zg zk zp po)) rfl ?_
  obtain ⟨⟨s84, s85⟩, hq136, h⟩ := bnd h
  refine OEnds.call0 hm_25 rfl rfl (by decide) rfl (as := [.ref 1, .int v1, .int 1]) (rest := []) rfl rfl (ok_adjustCoverage hq136) ?_
  show OEnds own_P 25 32 [qr 1, qi v1, qi v2, qi v3, qi v4] [] (c0 :: bk0 zq zo zl A83 s80 s81 s82 s84 s85 zj ze zh zi (zn + (1 : Int32)) zg zk zp po) _
  cases h
  exact OEnds.vret hm_25 rfl rfl
theorem ok_book {zq zo zl zj ze zh : List Int32} {zi zg zp : Int32} {c0 : ACell} {po : List ACell} {za zd zb zc zm zf : List Int32} {zn zk v1 v2 v3 res : Int32} {w_o_slotActive w_o_slotType w_o_slotArrive w_o_slotNights w_o_exactCount w_o_atLeastCount : List Int32} {w_o_activeStays w_o_planCurrent : Int32} (h : f_book zo za zd zb zc zm zf zn zk v1 v2 v3 = some (res, w_o_slotActive, w_o_slotType, w_o_slotArrive, w_o_slotNights, w_o_exactCount, w_o_atLeastCount, w_o_activeStays, w_o_planCurrent)) : OEnds own_P 13 0 [qr 1, qi v1, qi v2, qi v3, qu, qu] [] (c0 :: bk0 zq zo zl za zd zb zc zm zf zj ze zh zi zn zg zk zp po) (some (.int res), (c0 :: bk0 zq zo zl w_o_slotActive w_o_slotType w_o_slotArrive w_o_slotNights w_o_exactCount w_o_atLeastCount zj ze zh zi w_o_activeStays zg w_o_planCurrent zp po), 0, 0) := by
  unfold f_book at h
  refine OEnds.adv hm_13 4 (pc' := 4) (L' := [qr 1, qi v1, qi v2, qi v3, qu, qu]) (S' := [.int v3, .int v2, .int v1, .ref 1]) (H' := (c0 :: bk0 zq zo zl za zd zb zc zm zf zj ze zh zi zn zg zk zp po)) rfl ?_
  obtain ⟨r86, hq137, h⟩ := bnd h
  refine OEnds.call0 hm_13 rfl rfl (by decide) rfl (as := [.ref 1, .int v1, .int v2, .int v3]) (rest := []) rfl rfl (ok_requestError hq137) ?_
  refine OEnds.adv hm_13 2 (pc' := 11) (L' := [qr 1, qi v1, qi v2, qi v3, qi r86, qu]) (S' := [.int r86]) (H' := (c0 :: bk0 zq zo zl za zd zb zc zm zf zj ze zh zi zn zg zk zp po)) rfl ?_
  by_cases hc138 : r86 = (0 : Int32)
  · simp only [if_pos hc138] at h
    refine OEnds.ifT hm_13 rfl (q := 17) rfl ((teq hc138).1) ?_
    refine OEnds.adv hm_13 3 (pc' := 23) (L' := [qr 1, qi v1, qi v2, qi v3, qi r86, qu]) (S' := [.int 32, .int zn]) (H' := (c0 :: bk0 zq zo zl za zd zb zc zm zf zj ze zh zi zn zg zk zp po)) rfl ?_
    by_cases hc139 : zn < (32 : Int32)
    · simp only [if_pos hc139] at h
      refine OEnds.icmpT hm_13 rfl (q := 29) rfl ((tlt hc139).1) ?_
      refine OEnds.adv hm_13 5 (pc' := 34) (L' := [qr 1, qi v1, qi v2, qi v3, qi r86, qu]) (S' := [.int v3, .int v2, .int v1, .int (-1), .ref 1]) (H' := (c0 :: bk0 zq zo zl za zd zb zc zm zf zj ze zh zi zn zg zk zp po)) rfl ?_
      obtain ⟨r87, hq140, h⟩ := bnd h
      refine OEnds.call0 hm_13 rfl rfl (by decide) rfl (as := [.ref 1, .int (-1), .int v1, .int v2, .int v3]) (rest := []) rfl rfl (ok_fitsWith hq140) ?_
      show OEnds own_P 13 37 [qr 1, qi v1, qi v2, qi v3, qi r86, qu] [.int r87] (c0 :: bk0 zq zo zl za zd zb zc zm zf zj ze zh zi zn zg zk zp po) _
      by_cases hc141 : r87 = (0 : Int32)
      · simp only [if_pos hc141] at h
        refine OEnds.ifF hm_13 rfl ((teq hc141).2) ?_
        refine OEnds.adv hm_13 1 (pc' := 42) (L' := [qr 1, qi v1, qi v2, qi v3, qi r86, qu]) (S' := [.int (-4)]) (H' := (c0 :: bk0 zq zo zl za zd zb zc zm zf zj ze zh zi zn zg zk zp po)) rfl ?_
        cases h
        exact OEnds.iret hm_13 rfl rfl
      · simp only [if_neg hc141] at h
        refine OEnds.ifT hm_13 rfl (q := 43) rfl ((feq hc141).2) ?_
        refine OEnds.adv hm_13 1 (pc' := 44) (L' := [qr 1, qi v1, qi v2, qi v3, qi r86, qu]) (S' := [.ref 1]) (H' := (c0 :: bk0 zq zo zl za zd zb zc zm zf zj ze zh zi zn zg zk zp po)) rfl ?_
        obtain ⟨r88, hq142, h⟩ := bnd h
        refine OEnds.call0 hm_13 rfl rfl (by decide) rfl (as := [.ref 1]) (rest := []) rfl rfl (ok_lowestInactiveSlot hq142) ?_
        refine OEnds.adv hm_13 2 (pc' := 51) (L' := [qr 1, qi v1, qi v2, qi v3, qi r86, qi r88]) (S' := [.int r88]) (H' := (c0 :: bk0 zq zo zl za zd zb zc zm zf zj ze zh zi zn zg zk zp po)) rfl ?_
        by_cases hc143 : r88 < (0 : Int32)
        · simp only [if_pos hc143] at h
          refine OEnds.ifF hm_13 rfl ((tlt hc143).2.1) ?_
          refine OEnds.adv hm_13 1 (pc' := 56) (L' := [qr 1, qi v1, qi v2, qi v3, qi r86, qi r88]) (S' := [.int (-3)]) (H' := (c0 :: bk0 zq zo zl za zd zb zc zm zf zj ze zh zi zn zg zk zp po)) rfl ?_
          cases h
          exact OEnds.iret hm_13 rfl rfl
        · simp only [if_neg hc143] at h
          refine OEnds.ifT hm_13 rfl (q := 57) rfl ((flt hc143).2.1) ?_
          refine OEnds.adv hm_13 5 (pc' := 63) (L' := [qr 1, qi v1, qi v2, qi v3, qi r86, qi r88]) (S' := [.int v3, .int v2, .int v1, .int r88, .ref 1]) (H' := (c0 :: bk0 zq zo zl za zd zb zc zm zf zj ze zh zi zn zg zk zp po)) rfl ?_
          obtain ⟨⟨s89, s90, s91, s92, s93, s94, s95⟩, hq144, h⟩ := bnd h
          refine OEnds.call0 hm_13 rfl rfl (by decide) rfl (as := [.ref 1, .int r88, .int v1, .int v2, .int v3]) (rest := []) rfl rfl (ok_activateStay hq144) ?_
          refine OEnds.adv hm_13 1 (pc' := 67) (L' := [qr 1, qi v1, qi v2, qi v3, qi r86, qi r88]) (S' := [.ref 1]) (H' := (c0 :: bk0 zq zo zl s89 s90 s91 s92 s93 s94 zj ze zh zi s95 zg zk zp po)) rfl ?_
          obtain ⟨s96, hq145, h⟩ := bnd h
          refine OEnds.call0 hm_13 rfl rfl (by decide) rfl (as := [.ref 1]) (rest := []) rfl rfl (ok_discardPlan hq145) ?_
          refine OEnds.adv hm_13 1 (pc' := 72) (L' := [qr 1, qi v1, qi v2, qi v3, qi r86, qi r88]) (S' := [.int r88]) (H' := (c0 :: bk0 zq zo zl s89 s90 s91 s92 s93 s94 zj ze zh zi s95 zg s96 zp po)) rfl ?_
          cases h
          exact OEnds.iret hm_13 rfl rfl
    · simp only [if_neg hc139] at h
      refine OEnds.icmpF hm_13 rfl ((flt hc139).1) ?_
      refine OEnds.adv hm_13 1 (pc' := 28) (L' := [qr 1, qi v1, qi v2, qi v3, qi r86, qu]) (S' := [.int (-3)]) (H' := (c0 :: bk0 zq zo zl za zd zb zc zm zf zj ze zh zi zn zg zk zp po)) rfl ?_
      cases h
      exact OEnds.iret hm_13 rfl rfl
  · simp only [if_neg hc138] at h
    refine OEnds.ifF hm_13 rfl ((feq hc138).1) ?_
    refine OEnds.adv hm_13 1 (pc' := 16) (L' := [qr 1, qi v1, qi v2, qi v3, qi r86, qu]) (S' := [.int r86]) (H' := (c0 :: bk0 zq zo zl za zd zb zc zm zf zj ze zh zi zn zg zk zp po)) rfl ?_
    cases h
    exact OEnds.iret hm_13 rfl rfl
theorem ok_isAssigned {zq zo zl za zd zb zc zm zf zj ze zh : List Int32} {zi zn zg zk zp : Int32} {c0 : ACell} {po : List ACell} {res : Int32} (h : f_isAssigned zk = some res) : OEnds own_P 31 0 [qr 1] [] (c0 :: bk0 zq zo zl za zd zb zc zm zf zj ze zh zi zn zg zk zp po) (some (.int res), (c0 :: bk0 zq zo zl za zd zb zc zm zf zj ze zh zi zn zg zk zp po), 0, 0) := by
  unfold f_isAssigned at h
  refine OEnds.adv hm_31 2 (pc' := 4) (L' := [qr 1]) (S' := [.int zk]) (H' := (c0 :: bk0 zq zo zl za zd zb zc zm zf zj ze zh zi zn zg zk zp po)) rfl ?_
  cases h
  exact OEnds.iret hm_31 rfl rfl
theorem ok_roomOf {zq zo zl za zd zb zc zm zf zj ze zh : List Int32} {zi zn zg zk zp : Int32} {c0 : ACell} {po : List ACell} {v1 res : Int32} (h : f_roomOf za zj zk v1 = some res) : OEnds own_P 45 0 [qr 1, qi v1] [] (c0 :: bk0 zq zo zl za zd zb zc zm zf zj ze zh zi zn zg zk zp po) (some (.int res), (c0 :: bk0 zq zo zl za zd zb zc zm zf zj ze zh zi zn zg zk zp po), 0, 0) := by
  unfold f_roomOf at h
  refine OEnds.adv hm_45 2 (pc' := 2) (L' := [qr 1, qi v1]) (S' := [.int v1, .ref 1]) (H' := (c0 :: bk0 zq zo zl za zd zb zc zm zf zj ze zh zi zn zg zk zp po)) rfl ?_
  obtain ⟨r156, hq146, h⟩ := bnd h
  refine OEnds.call0 hm_45 rfl rfl (by decide) rfl (as := [.ref 1, .int v1]) (rest := []) rfl rfl (ok_isActiveStay hq146) ?_
  show OEnds own_P 45 5 [qr 1, qi v1] [.int r156] (c0 :: bk0 zq zo zl za zd zb zc zm zf zj ze zh zi zn zg zk zp po) _
  by_cases hc147 : r156 = (0 : Int32)
  · simp only [if_pos hc147] at h
    refine OEnds.ifF hm_45 rfl ((teq hc147).2) ?_
    refine OEnds.adv hm_45 1 (pc' := 9) (L' := [qr 1, qi v1]) (S' := [.int (-1)]) (H' := (c0 :: bk0 zq zo zl za zd zb zc zm zf zj ze zh zi zn zg zk zp po)) rfl ?_
    cases h
    exact OEnds.iret hm_45 rfl rfl
  · simp only [if_neg hc147] at h
    refine OEnds.ifT hm_45 rfl (q := 10) rfl ((feq hc147).2) ?_
    refine OEnds.adv hm_45 2 (pc' := 14) (L' := [qr 1, qi v1]) (S' := [.int zk]) (H' := (c0 :: bk0 zq zo zl za zd zb zc zm zf zj ze zh zi zn zg zk zp po)) rfl ?_
    by_cases hc148 : zk = (0 : Int32)
    · simp only [if_pos hc148] at h
      refine OEnds.ifF hm_45 rfl ((teq hc148).2) ?_
      refine OEnds.adv hm_45 1 (pc' := 18) (L' := [qr 1, qi v1]) (S' := [.int (-1)]) (H' := (c0 :: bk0 zq zo zl za zd zb zc zm zf zj ze zh zi zn zg zk zp po)) rfl ?_
      cases h
      exact OEnds.iret hm_45 rfl rfl
    · simp only [if_neg hc148] at h
      refine OEnds.ifT hm_45 rfl (q := 19) rfl ((feq hc148).2) ?_
      refine OEnds.adv hm_45 3 (pc' := 24) (L' := [qr 1, qi v1]) (S' := [.int v1, .ref 11]) (H' := (c0 :: bk0 zq zo zl za zd zb zc zm zf zj ze zh zi zn zg zk zp po)) rfl ?_
      obtain ⟨x157, hx157, h⟩ := bnd h
      refine OEnds.plain hm_45 rfl rfl (x_iaload rfl hx157) ?_
      show OEnds own_P 45 25 [qr 1, qi v1] [.int x157] (c0 :: bk0 zq zo zl za zd zb zc zm zf zj ze zh zi zn zg zk zp po) _
      cases h
      exact OEnds.iret hm_45 rfl rfl
theorem ok_isValidRoom {zq zo zl za zd zb zc zm zf zj ze zh : List Int32} {zi zn zg zk zp : Int32} {c0 : ACell} {po : List ACell} {v1 res : Int32} (h : f_isValidRoom zi v1 = some res) : OEnds own_P 37 0 [qr 1, qi v1] [] (c0 :: bk0 zq zo zl za zd zb zc zm zf zj ze zh zi zn zg zk zp po) (some (.int res), (c0 :: bk0 zq zo zl za zd zb zc zm zf zj ze zh zi zn zg zk zp po), 0, 0) := by
  unfold f_isValidRoom at h
  refine OEnds.adv hm_37 1 (pc' := 1) (L' := [qr 1, qi v1]) (S' := [.int v1]) (H' := (c0 :: bk0 zq zo zl za zd zb zc zm zf zj ze zh zi zn zg zk zp po)) rfl ?_
  by_cases hc149 : v1 < (0 : Int32)
  · simp only [if_pos hc149] at h
    refine OEnds.ifT hm_37 rfl (q := 22) rfl ((tlt hc149).1) ?_
    refine OEnds.adv hm_37 1 (pc' := 23) (L' := [qr 1, qi v1]) (S' := [.int 0]) (H' := (c0 :: bk0 zq zo zl za zd zb zc zm zf zj ze zh zi zn zg zk zp po)) rfl ?_
    cases h
    exact OEnds.iret hm_37 rfl rfl
  · simp only [if_neg hc149] at h
    refine OEnds.ifF hm_37 rfl ((flt hc149).1) ?_
    refine OEnds.adv hm_37 3 (pc' := 9) (L' := [qr 1, qi v1]) (S' := [.int zi, .int v1]) (H' := (c0 :: bk0 zq zo zl za zd zb zc zm zf zj ze zh zi zn zg zk zp po)) rfl ?_
    by_cases hc150 : v1 < zi
    · simp only [if_pos hc150] at h
      refine OEnds.icmpF hm_37 rfl ((tlt hc150).2.1) ?_
      refine OEnds.adv hm_37 2 (pc' := 15) (L' := [qr 1, qi v1]) (S' := [.int 24, .int v1]) (H' := (c0 :: bk0 zq zo zl za zd zb zc zm zf zj ze zh zi zn zg zk zp po)) rfl ?_
      by_cases hc151 : v1 < (24 : Int32)
      · simp only [if_pos hc151] at h
        refine OEnds.icmpF hm_37 rfl ((tlt hc151).2.1) ?_
        refine OEnds.adv hm_37 2 (pc' := 23) (L' := [qr 1, qi v1]) (S' := [.int 1]) (H' := (c0 :: bk0 zq zo zl za zd zb zc zm zf zj ze zh zi zn zg zk zp po)) rfl ?_
        cases h
        exact OEnds.iret hm_37 rfl rfl
      · simp only [if_neg hc151] at h
        refine OEnds.icmpT hm_37 rfl (q := 22) rfl ((flt hc151).2.1) ?_
        refine OEnds.adv hm_37 1 (pc' := 23) (L' := [qr 1, qi v1]) (S' := [.int 0]) (H' := (c0 :: bk0 zq zo zl za zd zb zc zm zf zj ze zh zi zn zg zk zp po)) rfl ?_
        cases h
        exact OEnds.iret hm_37 rfl rfl
    · simp only [if_neg hc150] at h
      refine OEnds.icmpT hm_37 rfl (q := 22) rfl ((flt hc150).2.1) ?_
      refine OEnds.adv hm_37 1 (pc' := 23) (L' := [qr 1, qi v1]) (S' := [.int 0]) (H' := (c0 :: bk0 zq zo zl za zd zb zc zm zf zj ze zh zi zn zg zk zp po)) rfl ?_
      cases h
      exact OEnds.iret hm_37 rfl rfl
theorem ok_roomTypeOf {zq zo zl za zd zb zc zm zf zj ze zh : List Int32} {zi zn zg zk zp : Int32} {c0 : ACell} {po : List ACell} {v1 res : Int32} (h : f_roomTypeOf zl v1 = some res) : OEnds own_P 47 0 [qr 1, qi v1] [] (c0 :: bk0 zq zo zl za zd zb zc zm zf zj ze zh zi zn zg zk zp po) (some (.int res), (c0 :: bk0 zq zo zl za zd zb zc zm zf zj ze zh zi zn zg zk zp po), 0, 0) := by
  unfold f_roomTypeOf at h
  refine OEnds.adv hm_47 4 (pc' := 6) (L' := [qr 1, qi v1]) (S' := [.int 1, .ref 4, .int v1]) (H' := (c0 :: bk0 zq zo zl za zd zb zc zm zf zj ze zh zi zn zg zk zp po)) rfl ?_
  obtain ⟨x158, hx158, h⟩ := bnd h
  refine OEnds.plain hm_47 rfl rfl (x_iaload rfl hx158) ?_
  show OEnds own_P 47 7 [qr 1, qi v1] [.int x158, .int v1] (c0 :: bk0 zq zo zl za zd zb zc zm zf zj ze zh zi zn zg zk zp po) _
  by_cases hc152 : v1 < x158
  · simp only [if_pos hc152] at h
    refine OEnds.icmpF hm_47 rfl ((tlt hc152).2.1) ?_
    refine OEnds.adv hm_47 1 (pc' := 11) (L' := [qr 1, qi v1]) (S' := [.int 0]) (H' := (c0 :: bk0 zq zo zl za zd zb zc zm zf zj ze zh zi zn zg zk zp po)) rfl ?_
    cases h
    exact OEnds.iret hm_47 rfl rfl
  · simp only [if_neg hc152] at h
    refine OEnds.icmpT hm_47 rfl (q := 12) rfl ((flt hc152).2.1) ?_
    refine OEnds.adv hm_47 4 (pc' := 18) (L' := [qr 1, qi v1]) (S' := [.int 2, .ref 4, .int v1]) (H' := (c0 :: bk0 zq zo zl za zd zb zc zm zf zj ze zh zi zn zg zk zp po)) rfl ?_
    obtain ⟨x159, hx159, h⟩ := bnd h
    refine OEnds.plain hm_47 rfl rfl (x_iaload rfl hx159) ?_
    show OEnds own_P 47 19 [qr 1, qi v1] [.int x159, .int v1] (c0 :: bk0 zq zo zl za zd zb zc zm zf zj ze zh zi zn zg zk zp po) _
    by_cases hc153 : v1 < x159
    · simp only [if_pos hc153] at h
      refine OEnds.icmpF hm_47 rfl ((tlt hc153).2.1) ?_
      refine OEnds.adv hm_47 1 (pc' := 23) (L' := [qr 1, qi v1]) (S' := [.int 1]) (H' := (c0 :: bk0 zq zo zl za zd zb zc zm zf zj ze zh zi zn zg zk zp po)) rfl ?_
      cases h
      exact OEnds.iret hm_47 rfl rfl
    · simp only [if_neg hc153] at h
      refine OEnds.icmpT hm_47 rfl (q := 24) rfl ((flt hc153).2.1) ?_
      refine OEnds.adv hm_47 1 (pc' := 25) (L' := [qr 1, qi v1]) (S' := [.int 2]) (H' := (c0 :: bk0 zq zo zl za zd zb zc zm zf zj ze zh zi zn zg zk zp po)) rfl ?_
      cases h
      exact OEnds.iret hm_47 rfl rfl
theorem ok_roomType {zq zo zl za zd zb zc zm zf zj ze zh : List Int32} {zi zn zg zk zp : Int32} {c0 : ACell} {po : List ACell} {v1 res : Int32} (h : f_roomType zl zi v1 = some res) : OEnds own_P 46 0 [qr 1, qi v1] [] (c0 :: bk0 zq zo zl za zd zb zc zm zf zj ze zh zi zn zg zk zp po) (some (.int res), (c0 :: bk0 zq zo zl za zd zb zc zm zf zj ze zh zi zn zg zk zp po), 0, 0) := by
  unfold f_roomType at h
  refine OEnds.adv hm_46 2 (pc' := 2) (L' := [qr 1, qi v1]) (S' := [.int v1, .ref 1]) (H' := (c0 :: bk0 zq zo zl za zd zb zc zm zf zj ze zh zi zn zg zk zp po)) rfl ?_
  obtain ⟨r160, hq154, h⟩ := bnd h
  refine OEnds.call0 hm_46 rfl rfl (by decide) rfl (as := [.ref 1, .int v1]) (rest := []) rfl rfl (ok_isValidRoom hq154) ?_
  show OEnds own_P 46 5 [qr 1, qi v1] [.int r160] (c0 :: bk0 zq zo zl za zd zb zc zm zf zj ze zh zi zn zg zk zp po) _
  by_cases hc155 : r160 = (0 : Int32)
  · simp only [if_pos hc155] at h
    refine OEnds.ifF hm_46 rfl ((teq hc155).2) ?_
    refine OEnds.adv hm_46 1 (pc' := 9) (L' := [qr 1, qi v1]) (S' := [.int (-1)]) (H' := (c0 :: bk0 zq zo zl za zd zb zc zm zf zj ze zh zi zn zg zk zp po)) rfl ?_
    cases h
    exact OEnds.iret hm_46 rfl rfl
  · simp only [if_neg hc155] at h
    refine OEnds.ifT hm_46 rfl (q := 10) rfl ((feq hc155).2) ?_
    refine OEnds.adv hm_46 2 (pc' := 12) (L' := [qr 1, qi v1]) (S' := [.int v1, .ref 1]) (H' := (c0 :: bk0 zq zo zl za zd zb zc zm zf zj ze zh zi zn zg zk zp po)) rfl ?_
    obtain ⟨r161, hq156, h⟩ := bnd h
    refine OEnds.call0 hm_46 rfl rfl (by decide) rfl (as := [.ref 1, .int v1]) (rest := []) rfl rfl (ok_roomTypeOf hq156) ?_
    show OEnds own_P 46 15 [qr 1, qi v1] [.int r161] (c0 :: bk0 zq zo zl za zd zb zc zm zf zj ze zh zi zn zg zk zp po) _
    cases h
    exact OEnds.iret hm_46 rfl rfl
theorem ok_L_overlap {c0 : ACell} {po : List ACell} {v0 v1 v2 v3 res : Int32} (h : f_L_overlap v0 v1 v2 v3 = some res) : OEnds own_P 48 0 [qi v0, qi v1, qi v2, qi v3] [] (c0 :: po) (some (.int res), (c0 :: po), 0, 0) := by
  unfold f_L_overlap at h
  refine OEnds.adv hm_48 4 (pc' := 4) (L' := [qi v0, qi v1, qi v2, qi v3]) (S' := [.int (v2 + v3), .int v0]) (H' := (c0 :: po)) rfl ?_
  by_cases hc157 : v0 < (v2 + v3)
  · simp only [if_pos hc157] at h
    refine OEnds.icmpF hm_48 rfl ((tlt hc157).2.1) ?_
    refine OEnds.adv hm_48 4 (pc' := 11) (L' := [qi v0, qi v1, qi v2, qi v3]) (S' := [.int (v0 + v1), .int v2]) (H' := (c0 :: po)) rfl ?_
    by_cases hc158 : v2 < (v0 + v1)
    · simp only [if_pos hc158] at h
      refine OEnds.icmpF hm_48 rfl ((tlt hc158).2.1) ?_
      refine OEnds.adv hm_48 2 (pc' := 19) (L' := [qi v0, qi v1, qi v2, qi v3]) (S' := [.int 1]) (H' := (c0 :: po)) rfl ?_
      cases h
      exact OEnds.iret hm_48 rfl rfl
    · simp only [if_neg hc158] at h
      refine OEnds.icmpT hm_48 rfl (q := 18) rfl ((flt hc158).2.1) ?_
      refine OEnds.adv hm_48 1 (pc' := 19) (L' := [qi v0, qi v1, qi v2, qi v3]) (S' := [.int 0]) (H' := (c0 :: po)) rfl ?_
      cases h
      exact OEnds.iret hm_48 rfl rfl
  · simp only [if_neg hc157] at h
    refine OEnds.icmpT hm_48 rfl (q := 18) rfl ((flt hc157).2.1) ?_
    refine OEnds.adv hm_48 1 (pc' := 19) (L' := [qi v0, qi v1, qi v2, qi v3]) (S' := [.int 0]) (H' := (c0 :: po)) rfl ?_
    cases h
    exact OEnds.iret hm_48 rfl rfl
theorem ok_occupant {zq zo zl za zd zb zc zm zf zj ze zh : List Int32} {zi zn zg zk zp : Int32} {c0 : ACell} {po : List ACell} {v1 v2 res : Int32} (h : f_occupant ze zi zk v1 v2 = some res) : OEnds own_P 36 0 [qr 1, qi v1, qi v2] [] (c0 :: bk0 zq zo zl za zd zb zc zm zf zj ze zh zi zn zg zk zp po) (some (.int res), (c0 :: bk0 zq zo zl za zd zb zc zm zf zj ze zh zi zn zg zk zp po), 0, 0) := by
  unfold f_occupant at h
  refine OEnds.adv hm_36 2 (pc' := 2) (L' := [qr 1, qi v1, qi v2]) (S' := [.int v1, .ref 1]) (H' := (c0 :: bk0 zq zo zl za zd zb zc zm zf zj ze zh zi zn zg zk zp po)) rfl ?_
  obtain ⟨r162, hq159, h⟩ := bnd h
  refine OEnds.call0 hm_36 rfl rfl (by decide) rfl (as := [.ref 1, .int v1]) (rest := []) rfl rfl (ok_isValidRoom hq159) ?_
  show OEnds own_P 36 5 [qr 1, qi v1, qi v2] [.int r162] (c0 :: bk0 zq zo zl za zd zb zc zm zf zj ze zh zi zn zg zk zp po) _
  by_cases hc160 : r162 = (0 : Int32)
  · simp only [if_pos hc160] at h
    refine OEnds.ifF hm_36 rfl ((teq hc160).2) ?_
    refine OEnds.adv hm_36 1 (pc' := 9) (L' := [qr 1, qi v1, qi v2]) (S' := [.int (-1)]) (H' := (c0 :: bk0 zq zo zl za zd zb zc zm zf zj ze zh zi zn zg zk zp po)) rfl ?_
    cases h
    exact OEnds.iret hm_36 rfl rfl
  · simp only [if_neg hc160] at h
    refine OEnds.ifT hm_36 rfl (q := 10) rfl ((feq hc160).2) ?_
    refine OEnds.adv hm_36 2 (pc' := 12) (L' := [qr 1, qi v1, qi v2]) (S' := [.int v2, .ref 1]) (H' := (c0 :: bk0 zq zo zl za zd zb zc zm zf zj ze zh zi zn zg zk zp po)) rfl ?_
    obtain ⟨r163, hq161, h⟩ := bnd h
    refine OEnds.call0 hm_36 rfl rfl (by decide) rfl (as := [.ref 1, .int v2]) (rest := []) rfl rfl (ok_isValidNight hq161) ?_
    show OEnds own_P 36 15 [qr 1, qi v1, qi v2] [.int r163] (c0 :: bk0 zq zo zl za zd zb zc zm zf zj ze zh zi zn zg zk zp po) _
    by_cases hc162 : r163 = (0 : Int32)
    · simp only [if_pos hc162] at h
      refine OEnds.ifF hm_36 rfl ((teq hc162).2) ?_
      refine OEnds.adv hm_36 1 (pc' := 19) (L' := [qr 1, qi v1, qi v2]) (S' := [.int (-1)]) (H' := (c0 :: bk0 zq zo zl za zd zb zc zm zf zj ze zh zi zn zg zk zp po)) rfl ?_
      cases h
      exact OEnds.iret hm_36 rfl rfl
    · simp only [if_neg hc162] at h
      refine OEnds.ifT hm_36 rfl (q := 20) rfl ((feq hc162).2) ?_
      refine OEnds.adv hm_36 2 (pc' := 24) (L' := [qr 1, qi v1, qi v2]) (S' := [.int zk]) (H' := (c0 :: bk0 zq zo zl za zd zb zc zm zf zj ze zh zi zn zg zk zp po)) rfl ?_
      by_cases hc163 : zk = (0 : Int32)
      · simp only [if_pos hc163] at h
        refine OEnds.ifF hm_36 rfl ((teq hc163).2) ?_
        refine OEnds.adv hm_36 1 (pc' := 28) (L' := [qr 1, qi v1, qi v2]) (S' := [.int (-1)]) (H' := (c0 :: bk0 zq zo zl za zd zb zc zm zf zj ze zh zi zn zg zk zp po)) rfl ?_
        cases h
        exact OEnds.iret hm_36 rfl rfl
      · simp only [if_neg hc163] at h
        refine OEnds.ifT hm_36 rfl (q := 29) rfl ((feq hc163).2) ?_
        refine OEnds.adv hm_36 3 (pc' := 32) (L' := [qr 1, qi v1, qi v2]) (S' := [.int v2, .int v1, .ref 1]) (H' := (c0 :: bk0 zq zo zl za zd zb zc zm zf zj ze zh zi zn zg zk zp po)) rfl ?_
        obtain ⟨r164, hq164, h⟩ := bnd h
        refine OEnds.call0 hm_36 rfl rfl (by decide) rfl (as := [.ref 1, .int v1, .int v2]) (rest := []) rfl rfl (ok_gridAt hq164) ?_
        show OEnds own_P 36 35 [qr 1, qi v1, qi v2] [.int r164] (c0 :: bk0 zq zo zl za zd zb zc zm zf zj ze zh zi zn zg zk zp po) _
        cases h
        exact OEnds.iret hm_36 rfl rfl
theorem ok_L_law_997 {scr : List Int32} {kb : List Int32 → List Int32 → List Int32 → List Int32 → List Int32 → List Int32 → List Int32 → List Int32 → List Int32 → List Int32 → List Int32 → Int32 → Int32 → Int32 → Int32 → Int32 → Int32 → Int32 → Int32 → Int32 → Int32 → Int32 → Int32 → Int32 → Int32 → Option (Int32)} {k873 : List Int32 → List Int32 → List Int32 → List Int32 → List Int32 → List Int32 → List Int32 → List Int32 → List Int32 → List Int32 → List Int32 → Int32 → Int32 → Int32 → Int32 → Int32 → Int32 → Int32 → Int32 → Int32 → Int32 → Int32 → Int32 → Option (Int32)} (hkb : ∀ {zt zu zr zw zy zz zaf zag zv zx zaa : List Int32} {zs zae zab zad zac v4 v5 v6 v8 v9 v21 v22 v23 v24 : Int32} {zah : List Int32} {d1 d2 d3 d10 d11 d12 d13 d14 d15 d16 d17 d18 d19 d20 d25 d26 d27 d28 d29 : Slot} {res : Int32}, kb zt zu zr zw zy zz zaf zag zv zx zaa zs zae zab zad zac v4 v5 v6 v8 v9 v21 v22 v23 v24 = some res → OEndsQ own_P 0 924 [qr 0, d1, d2, d3, qi v4, qi v5, qi v6, qr 1, qi v8, qi v9, d10, d11, d12, d13, d14, d15, d16, d17, d18, d19, d20, qi v21, qi v22, qi v23, qi v24, d25, d26, d27, d28, d29] [] (qa scr :: bk0 zah zt zu zr zw zy zz zaf zag zv zx zaa zs zae zab zad zac []) (LawQ res 0 0)) (hk873 : ∀ {zt zu zr zw zy zz zaf zag zv zx zaa : List Int32} {zs zae zab zad zac v4 v5 v6 v8 v9 v21 v22 : Int32} {zah : List Int32} {d1 d2 d3 d10 d11 d12 d13 d14 d15 d16 d17 d18 d19 d20 d23 d24 d25 d26 d27 d28 d29 : Slot} {res : Int32}, k873 zt zu zr zw zy zz zaf zag zv zx zaa zs zae zab zad zac v4 v5 v6 v8 v9 v21 v22 = some res → OEndsQ own_P 0 873 [qr 0, d1, d2, d3, qi v4, qi v5, qi v6, qr 1, qi v8, qi v9, d10, d11, d12, d13, d14, d15, d16, d17, d18, d19, d20, qi v21, qi v22, d23, d24, d25, d26, d27, d28, d29] [] (qa scr :: bk0 zah zt zu zr zw zy zz zaf zag zv zx zaa zs zae zab zad zac []) (LawQ res 0 0)) : ∀ {zt zu zr zw zy zz zaf zag zv zx zaa : List Int32} {zs zae zab zad zac v4 v5 v6 v8 v9 v21 v22 v23 v24 v25 t0 : Int32} {zah : List Int32} {d1 d2 d3 d10 d11 d12 d13 d14 d15 d16 d17 d18 d19 d20 d26 d27 d28 d29 : Slot} {res : Int32}, f_L_law_997 kb k873 scr zt zu zr zw zy zz zaf zag zv zx zaa zs zae zab zad zac v4 v5 v6 v8 v9 v21 v22 v23 v24 v25 t0 = some res → OEndsQ own_P 0 997 [qr 0, d1, d2, d3, qi v4, qi v5, qi v6, qr 1, qi v8, qi v9, d10, d11, d12, d13, d14, d15, d16, d17, d18, d19, d20, qi v21, qi v22, qi v23, qi v24, qi v25, d26, d27, d28, d29] [.int t0] (qa scr :: bk0 zah zt zu zr zw zy zz zaf zag zv zx zaa zs zae zab zad zac []) (LawQ res 0 0) := by
  intro zt zu zr zw zy zz zaf zag zv zx zaa zs zae zab zad zac v4 v5 v6 v8 v9 v21 v22 v23 v24 v25 t0 zah d1 d2 d3 d10 d11 d12 d13 d14 d15 d16 d17 d18 d19 d20 d26 d27 d28 d29 res h
  unfold f_L_law_997 at h
  refine OEndsQ.adv hm_0 1 (pc' := 999) (L' := [qr 0, qu, qu, qu, qi v4, qi v5, qi v6, qr 1, qi v8, qi v9, qu, qu, qu, qu, qu, qu, qu, qu, qu, qu, qu, qi v21, qi v22, qi v23, qi v24, qi v25, qu, qu, qu, qu]) (S' := [.int v25, .int t0]) (H' := (qa scr :: bk0 zah zt zu zr zw zy zz zaf zag zv zx zaa zs zae zab zad zac [])) rfl ?_
  by_cases hc165 : t0 = v25
  · simp only [if_pos hc165] at h
    refine OEndsQ.icmpT hm_0 rfl (q := 1004) rfl ((teq hc165).1) ?_
    refine OEndsQ.adv hm_0 2 (pc' := 924) (L' := [qr 0, qu, qu, qu, qi v4, qi v5, qi v6, qr 1, qi v8, qi v9, qu, qu, qu, qu, qu, qu, qu, qu, qu, qu, qu, qi v21, qi v22, qi v23, qi (v24 + (1 : Int32)), qi v25, qu, qu, qu, qu]) (S' := []) (H' := (qa scr :: bk0 zah zt zu zr zw zy zz zaf zag zv zx zaa zs zae zab zad zac [])) rfl ?_
    exact hkb h
  · simp only [if_neg hc165] at h
    refine OEndsQ.icmpF hm_0 rfl ((feq hc165).1) ?_
    refine OEndsQ.adv hm_0 1 (pc' := 1003) (L' := [qr 0, qu, qu, qu, qi v4, qi v5, qi v6, qr 1, qi v8, qi v9, qu, qu, qu, qu, qu, qu, qu, qu, qu, qu, qu, qi v21, qi v22, qi v23, qi v24, qi v25, qu, qu, qu, qu]) (S' := [.int 0]) (H' := (qa scr :: bk0 zah zt zu zr zw zy zz zaf zag zv zx zaa zs zae zab zad zac [])) rfl ?_
    cases h
    exact OEndsQ.iret hm_0 rfl rfl
theorem ok_L_law_983 {scr : List Int32} {kb : List Int32 → List Int32 → List Int32 → List Int32 → List Int32 → List Int32 → List Int32 → List Int32 → List Int32 → List Int32 → List Int32 → Int32 → Int32 → Int32 → Int32 → Int32 → Int32 → Int32 → Int32 → Int32 → Int32 → Int32 → Int32 → Int32 → Int32 → Option (Int32)} {k873 : List Int32 → List Int32 → List Int32 → List Int32 → List Int32 → List Int32 → List Int32 → List Int32 → List Int32 → List Int32 → List Int32 → Int32 → Int32 → Int32 → Int32 → Int32 → Int32 → Int32 → Int32 → Int32 → Int32 → Int32 → Int32 → Option (Int32)} (hkb : ∀ {zt zu zr zw zy zz zaf zag zv zx zaa : List Int32} {zs zae zab zad zac v4 v5 v6 v8 v9 v21 v22 v23 v24 : Int32} {zah : List Int32} {d1 d2 d3 d10 d11 d12 d13 d14 d15 d16 d17 d18 d19 d20 d25 d26 d27 d28 d29 : Slot} {res : Int32}, kb zt zu zr zw zy zz zaf zag zv zx zaa zs zae zab zad zac v4 v5 v6 v8 v9 v21 v22 v23 v24 = some res → OEndsQ own_P 0 924 [qr 0, d1, d2, d3, qi v4, qi v5, qi v6, qr 1, qi v8, qi v9, d10, d11, d12, d13, d14, d15, d16, d17, d18, d19, d20, qi v21, qi v22, qi v23, qi v24, d25, d26, d27, d28, d29] [] (qa scr :: bk0 zah zt zu zr zw zy zz zaf zag zv zx zaa zs zae zab zad zac []) (LawQ res 0 0)) (hk873 : ∀ {zt zu zr zw zy zz zaf zag zv zx zaa : List Int32} {zs zae zab zad zac v4 v5 v6 v8 v9 v21 v22 : Int32} {zah : List Int32} {d1 d2 d3 d10 d11 d12 d13 d14 d15 d16 d17 d18 d19 d20 d23 d24 d25 d26 d27 d28 d29 : Slot} {res : Int32}, k873 zt zu zr zw zy zz zaf zag zv zx zaa zs zae zab zad zac v4 v5 v6 v8 v9 v21 v22 = some res → OEndsQ own_P 0 873 [qr 0, d1, d2, d3, qi v4, qi v5, qi v6, qr 1, qi v8, qi v9, d10, d11, d12, d13, d14, d15, d16, d17, d18, d19, d20, qi v21, qi v22, d23, d24, d25, d26, d27, d28, d29] [] (qa scr :: bk0 zah zt zu zr zw zy zz zaf zag zv zx zaa zs zae zab zad zac []) (LawQ res 0 0)) : ∀ {zt zu zr zw zy zz zaf zag zv zx zaa : List Int32} {zs zae zab zad zac v4 v5 v6 v8 v9 v21 v22 v23 v24 t0 : Int32} {zah : List Int32} {d1 d2 d3 d10 d11 d12 d13 d14 d15 d16 d17 d18 d19 d20 d25 d26 d27 d28 d29 : Slot} {res : Int32}, f_L_law_983 kb k873 scr zt zu zr zw zy zz zaf zag zv zx zaa zs zae zab zad zac v4 v5 v6 v8 v9 v21 v22 v23 v24 t0 = some res → OEndsQ own_P 0 983 [qr 0, d1, d2, d3, qi v4, qi v5, qi v6, qr 1, qi v8, qi v9, d10, d11, d12, d13, d14, d15, d16, d17, d18, d19, d20, qi v21, qi v22, qi v23, qi v24, d25, d26, d27, d28, d29] [.int t0] (qa scr :: bk0 zah zt zu zr zw zy zz zaf zag zv zx zaa zs zae zab zad zac []) (LawQ res 0 0) := by
  intro zt zu zr zw zy zz zaf zag zv zx zaa zs zae zab zad zac v4 v5 v6 v8 v9 v21 v22 v23 v24 t0 zah d1 d2 d3 d10 d11 d12 d13 d14 d15 d16 d17 d18 d19 d20 d25 d26 d27 d28 d29 res h
  unfold f_L_law_983 at h
  refine OEndsQ.adv hm_0 3 (pc' := 989) (L' := [qr 0, qu, qu, qu, qi v4, qi v5, qi v6, qr 1, qi v8, qi v9, qu, qu, qu, qu, qu, qu, qu, qu, qu, qu, qu, qi v21, qi v22, qi v23, qi v24, qi t0, qu, qu, qu, qu]) (S' := [.int v24, .int v23]) (H' := (qa scr :: bk0 zah zt zu zr zw zy zz zaf zag zv zx zaa zs zae zab zad zac [])) rfl ?_
  by_cases hc166 : v23 = v24
  · simp only [if_pos hc166] at h
    refine OEndsQ.icmpF hm_0 rfl ((teq hc166).2) ?_
    refine OEndsQ.adv hm_0 2 (pc' := 997) (L' := [qr 0, qu, qu, qu, qi v4, qi v5, qi v6, qr 1, qi v8, qi v9, qu, qu, qu, qu, qu, qu, qu, qu, qu, qu, qu, qi v21, qi v22, qi v23, qi v24, qi t0, qu, qu, qu, qu]) (S' := [.int 1]) (H' := (qa scr :: bk0 zah zt zu zr zw zy zz zaf zag zv zx zaa zs zae zab zad zac [])) rfl ?_
    exact ok_L_law_997 hkb hk873 h
  · simp only [if_neg hc166] at h
    refine OEndsQ.icmpT hm_0 rfl (q := 996) rfl ((feq hc166).2) ?_
    refine OEndsQ.adv hm_0 1 (pc' := 997) (L' := [qr 0, qu, qu, qu, qi v4, qi v5, qi v6, qr 1, qi v8, qi v9, qu, qu, qu, qu, qu, qu, qu, qu, qu, qu, qu, qi v21, qi v22, qi v23, qi v24, qi t0, qu, qu, qu, qu]) (S' := [.int 0]) (H' := (qa scr :: bk0 zah zt zu zr zw zy zz zaf zag zv zx zaa zs zae zab zad zac [])) rfl ?_
    exact ok_L_law_997 hkb hk873 h
theorem ok_L_law_924 {scr : List Int32} {k873 : List Int32 → List Int32 → List Int32 → List Int32 → List Int32 → List Int32 → List Int32 → List Int32 → List Int32 → List Int32 → List Int32 → Int32 → Int32 → Int32 → Int32 → Int32 → Int32 → Int32 → Int32 → Int32 → Int32 → Int32 → Int32 → Option (Int32)} (hk873 : ∀ {zt zu zr zw zy zz zaf zag zv zx zaa : List Int32} {zs zae zab zad zac v4 v5 v6 v8 v9 v21 v22 : Int32} {zah : List Int32} {d1 d2 d3 d10 d11 d12 d13 d14 d15 d16 d17 d18 d19 d20 d23 d24 d25 d26 d27 d28 d29 : Slot} {res : Int32}, k873 zt zu zr zw zy zz zaf zag zv zx zaa zs zae zab zad zac v4 v5 v6 v8 v9 v21 v22 = some res → OEndsQ own_P 0 873 [qr 0, d1, d2, d3, qi v4, qi v5, qi v6, qr 1, qi v8, qi v9, d10, d11, d12, d13, d14, d15, d16, d17, d18, d19, d20, qi v21, qi v22, d23, d24, d25, d26, d27, d28, d29] [] (qa scr :: bk0 zah zt zu zr zw zy zz zaf zag zv zx zaa zs zae zab zad zac []) (LawQ res 0 0)) : ∀ (n : Nat), ∀ {zt zu zr zw zy zz zaf zag zv zx zaa : List Int32} {zs zae zab zad zac v4 v5 v6 v8 v9 v21 v22 v23 v24 : Int32} {zah : List Int32} {d1 d2 d3 d10 d11 d12 d13 d14 d15 d16 d17 d18 d19 d20 d25 d26 d27 d28 d29 : Slot} {res : Int32}, f_L_law_924 k873 scr n zt zu zr zw zy zz zaf zag zv zx zaa zs zae zab zad zac v4 v5 v6 v8 v9 v21 v22 v23 v24 = some res → OEndsQ own_P 0 924 [qr 0, d1, d2, d3, qi v4, qi v5, qi v6, qr 1, qi v8, qi v9, d10, d11, d12, d13, d14, d15, d16, d17, d18, d19, d20, qi v21, qi v22, qi v23, qi v24, d25, d26, d27, d28, d29] [] (qa scr :: bk0 zah zt zu zr zw zy zz zaf zag zv zx zaa zs zae zab zad zac []) (LawQ res 0 0) := by
  intro n
  induction n with
  | zero => intro zt zu zr zw zy zz zaf zag zv zx zaa zs zae zab zad zac v4 v5 v6 v8 v9 v21 v22 v23 v24 zah d1 d2 d3 d10 d11 d12 d13 d14 d15 d16 d17 d18 d19 d20 d25 d26 d27 d28 d29 res h; cases h
  | succ n ih =>
    intro zt zu zr zw zy zz zaf zag zv zx zaa zs zae zab zad zac v4 v5 v6 v8 v9 v21 v22 v23 v24 zah d1 d2 d3 d10 d11 d12 d13 d14 d15 d16 d17 d18 d19 d20 d25 d26 d27 d28 d29 res h
    unfold f_L_law_924 at h
    refine OEndsQ.adv hm_0 2 (pc' := 928) (L' := [qr 0, qu, qu, qu, qi v4, qi v5, qi v6, qr 1, qi v8, qi v9, qu, qu, qu, qu, qu, qu, qu, qu, qu, qu, qu, qi v21, qi v22, qi v23, qi v24, qu, qu, qu, qu, qu]) (S' := [.int 32, .int v24]) (H' := (qa scr :: bk0 zah zt zu zr zw zy zz zaf zag zv zx zaa zs zae zab zad zac [])) rfl ?_
    by_cases hc167 : v24 < (32 : Int32)
    · simp only [if_pos hc167] at h
      refine OEndsQ.icmpF hm_0 rfl ((tlt hc167).2.1) ?_
      refine OEndsQ.adv hm_0 2 (pc' := 935) (L' := [qr 0, qu, qu, qu, qi v4, qi v5, qi v6, qr 1, qi v8, qi v9, qu, qu, qu, qu, qu, qu, qu, qu, qu, qu, qu, qi v21, qi v22, qi v23, qi v24, qu, qu, qu, qu, qu]) (S' := [.int v24, .ref 1]) (H' := (qa scr :: bk0 zah zt zu zr zw zy zz zaf zag zv zx zaa zs zae zab zad zac [])) rfl ?_
      obtain ⟨r252, hq168, h⟩ := bnd h
      refine OEndsQ.call0 hm_0 rfl rfl (by decide) rfl (as := [.ref 1, .int v24]) (rest := []) rfl rfl (ok_stayType hq168) ?_
      show OEndsQ own_P 0 938 [qr 0, qu, qu, qu, qi v4, qi v5, qi v6, qr 1, qi v8, qi v9, qu, qu, qu, qu, qu, qu, qu, qu, qu, qu, qu, qi v21, qi v22, qi v23, qi v24, qu, qu, qu, qu, qu] [.int r252] (qa scr :: bk0 zah zt zu zr zw zy zz zaf zag zv zx zaa zs zae zab zad zac []) _
      by_cases hc169 : r252 < (0 : Int32)
      · simp only [if_pos hc169] at h
        refine OEndsQ.ifF hm_0 rfl ((tlt hc169).2.1) ?_
        refine OEndsQ.adv hm_0 3 (pc' := 924) (L' := [qr 0, qu, qu, qu, qi v4, qi v5, qi v6, qr 1, qi v8, qi v9, qu, qu, qu, qu, qu, qu, qu, qu, qu, qu, qu, qi v21, qi v22, qi v23, qi (v24 + (1 : Int32)), qu, qu, qu, qu, qu]) (S' := []) (H' := (qa scr :: bk0 zah zt zu zr zw zy zz zaf zag zv zx zaa zs zae zab zad zac [])) rfl ?_
        exact ih h
      · simp only [if_neg hc169] at h
        refine OEndsQ.ifT hm_0 rfl (q := 944) rfl ((flt hc169).2.1) ?_
        refine OEndsQ.adv hm_0 2 (pc' := 948) (L' := [qr 0, qu, qu, qu, qi v4, qi v5, qi v6, qr 1, qi v8, qi v9, qu, qu, qu, qu, qu, qu, qu, qu, qu, qu, qu, qi v21, qi v22, qi v23, qi v24, qu, qu, qu, qu, qu]) (S' := [.int v24, .ref 1]) (H' := (qa scr :: bk0 zah zt zu zr zw zy zz zaf zag zv zx zaa zs zae zab zad zac [])) rfl ?_
        obtain ⟨r253, hq170, h⟩ := bnd h
        refine OEndsQ.call0 hm_0 rfl rfl (by decide) rfl (as := [.ref 1, .int v24]) (rest := []) rfl rfl (ok_roomOf hq170) ?_
        refine OEndsQ.adv hm_0 1 (pc' := 953) (L' := [qr 0, qu, qu, qu, qi v4, qi v5, qi v6, qr 1, qi v8, qi v9, qu, qu, qu, qu, qu, qu, qu, qu, qu, qu, qu, qi v21, qi v22, qi v23, qi v24, qu, qu, qu, qu, qu]) (S' := [.int v21, .int r253]) (H' := (qa scr :: bk0 zah zt zu zr zw zy zz zaf zag zv zx zaa zs zae zab zad zac [])) rfl ?_
        by_cases hc171 : r253 = v21
        · simp only [if_pos hc171] at h
          refine OEndsQ.icmpF hm_0 rfl ((teq hc171).2) ?_
          refine OEndsQ.adv hm_0 2 (pc' := 960) (L' := [qr 0, qu, qu, qu, qi v4, qi v5, qi v6, qr 1, qi v8, qi v9, qu, qu, qu, qu, qu, qu, qu, qu, qu, qu, qu, qi v21, qi v22, qi v23, qi v24, qu, qu, qu, qu, qu]) (S' := [.int v24, .ref 1]) (H' := (qa scr :: bk0 zah zt zu zr zw zy zz zaf zag zv zx zaa zs zae zab zad zac [])) rfl ?_
          obtain ⟨r254, hq172, h⟩ := bnd h
          refine OEndsQ.call0 hm_0 rfl rfl (by decide) rfl (as := [.ref 1, .int v24]) (rest := []) rfl rfl (ok_stayArrive hq172) ?_
          refine OEndsQ.adv hm_0 2 (pc' := 967) (L' := [qr 0, qu, qu, qu, qi v4, qi v5, qi v6, qr 1, qi v8, qi v9, qu, qu, qu, qu, qu, qu, qu, qu, qu, qu, qu, qi v21, qi v22, qi v23, qi v24, qu, qu, qu, qu, qu]) (S' := [.int v24, .ref 1, .int r254]) (H' := (qa scr :: bk0 zah zt zu zr zw zy zz zaf zag zv zx zaa zs zae zab zad zac [])) rfl ?_
          obtain ⟨r255, hq173, h⟩ := bnd h
          refine OEndsQ.call0 hm_0 rfl rfl (by decide) rfl (as := [.ref 1, .int v24]) (rest := [.int r254]) rfl rfl (ok_stayNights hq173) ?_
          refine OEndsQ.adv hm_0 1 (pc' := 972) (L' := [qr 0, qu, qu, qu, qi v4, qi v5, qi v6, qr 1, qi v8, qi v9, qu, qu, qu, qu, qu, qu, qu, qu, qu, qu, qu, qi v21, qi v22, qi v23, qi v24, qu, qu, qu, qu, qu]) (S' := [.int v22, .int r255, .int r254]) (H' := (qa scr :: bk0 zah zt zu zr zw zy zz zaf zag zv zx zaa zs zae zab zad zac [])) rfl ?_
          obtain ⟨r256, hq174, h⟩ := bnd h
          refine OEndsQ.call0 hm_0 rfl rfl (by decide) rfl (as := [.int r254, .int r255, .int v22]) (rest := []) rfl rfl (ok_L_covers hq174) ?_
          show OEndsQ own_P 0 975 [qr 0, qu, qu, qu, qi v4, qi v5, qi v6, qr 1, qi v8, qi v9, qu, qu, qu, qu, qu, qu, qu, qu, qu, qu, qu, qi v21, qi v22, qi v23, qi v24, qu, qu, qu, qu, qu] [.int r256] (qa scr :: bk0 zah zt zu zr zw zy zz zaf zag zv zx zaa zs zae zab zad zac []) _
          by_cases hc175 : r256 = (0 : Int32)
          · simp only [if_pos hc175] at h
            refine OEndsQ.ifT hm_0 rfl (q := 982) rfl ((teq hc175).1) ?_
            refine OEndsQ.adv hm_0 1 (pc' := 983) (L' := [qr 0, qu, qu, qu, qi v4, qi v5, qi v6, qr 1, qi v8, qi v9, qu, qu, qu, qu, qu, qu, qu, qu, qu, qu, qu, qi v21, qi v22, qi v23, qi v24, qu, qu, qu, qu, qu]) (S' := [.int 0]) (H' := (qa scr :: bk0 zah zt zu zr zw zy zz zaf zag zv zx zaa zs zae zab zad zac [])) rfl ?_
            exact ok_L_law_983 ih hk873 h
          · simp only [if_neg hc175] at h
            refine OEndsQ.ifF hm_0 rfl ((feq hc175).1) ?_
            refine OEndsQ.adv hm_0 2 (pc' := 983) (L' := [qr 0, qu, qu, qu, qi v4, qi v5, qi v6, qr 1, qi v8, qi v9, qu, qu, qu, qu, qu, qu, qu, qu, qu, qu, qu, qi v21, qi v22, qi v23, qi v24, qu, qu, qu, qu, qu]) (S' := [.int 1]) (H' := (qa scr :: bk0 zah zt zu zr zw zy zz zaf zag zv zx zaa zs zae zab zad zac [])) rfl ?_
            exact ok_L_law_983 ih hk873 h
        · simp only [if_neg hc171] at h
          refine OEndsQ.icmpT hm_0 rfl (q := 982) rfl ((feq hc171).2) ?_
          refine OEndsQ.adv hm_0 1 (pc' := 983) (L' := [qr 0, qu, qu, qu, qi v4, qi v5, qi v6, qr 1, qi v8, qi v9, qu, qu, qu, qu, qu, qu, qu, qu, qu, qu, qu, qi v21, qi v22, qi v23, qi v24, qu, qu, qu, qu, qu]) (S' := [.int 0]) (H' := (qa scr :: bk0 zah zt zu zr zw zy zz zaf zag zv zx zaa zs zae zab zad zac [])) rfl ?_
          exact ok_L_law_983 ih hk873 h
    · simp only [if_neg hc167] at h
      refine OEndsQ.icmpT hm_0 rfl (q := 1010) rfl ((flt hc167).2.1) ?_
      refine OEndsQ.adv hm_0 2 (pc' := 873) (L' := [qr 0, qu, qu, qu, qi v4, qi v5, qi v6, qr 1, qi v8, qi v9, qu, qu, qu, qu, qu, qu, qu, qu, qu, qu, qu, qi v21, qi (v22 + (1 : Int32)), qi v23, qi v24, qu, qu, qu, qu, qu]) (S' := []) (H' := (qa scr :: bk0 zah zt zu zr zw zy zz zaf zag zv zx zaa zs zae zab zad zac [])) rfl ?_
      exact hk873 h
theorem ok_L_law_873 {scr : List Int32} {k863 : List Int32 → List Int32 → List Int32 → List Int32 → List Int32 → List Int32 → List Int32 → List Int32 → List Int32 → List Int32 → List Int32 → Int32 → Int32 → Int32 → Int32 → Int32 → Int32 → Int32 → Int32 → Int32 → Int32 → Int32 → Option (Int32)} (hk863 : ∀ {zt zu zr zw zy zz zaf zag zv zx zaa : List Int32} {zs zae zab zad zac v4 v5 v6 v8 v9 v21 : Int32} {zah : List Int32} {d1 d2 d3 d10 d11 d12 d13 d14 d15 d16 d17 d18 d19 d20 d22 d23 d24 d25 d26 d27 d28 d29 : Slot} {res : Int32}, k863 zt zu zr zw zy zz zaf zag zv zx zaa zs zae zab zad zac v4 v5 v6 v8 v9 v21 = some res → OEndsQ own_P 0 863 [qr 0, d1, d2, d3, qi v4, qi v5, qi v6, qr 1, qi v8, qi v9, d10, d11, d12, d13, d14, d15, d16, d17, d18, d19, d20, qi v21, d22, d23, d24, d25, d26, d27, d28, d29] [] (qa scr :: bk0 zah zt zu zr zw zy zz zaf zag zv zx zaa zs zae zab zad zac []) (LawQ res 0 0)) : ∀ (n : Nat), ∀ {zt zu zr zw zy zz zaf zag zv zx zaa : List Int32} {zs zae zab zad zac v4 v5 v6 v8 v9 v21 v22 : Int32} {zah : List Int32} {d1 d2 d3 d10 d11 d12 d13 d14 d15 d16 d17 d18 d19 d20 d23 d24 d25 d26 d27 d28 d29 : Slot} {res : Int32}, f_L_law_873 k863 scr n zt zu zr zw zy zz zaf zag zv zx zaa zs zae zab zad zac v4 v5 v6 v8 v9 v21 v22 = some res → OEndsQ own_P 0 873 [qr 0, d1, d2, d3, qi v4, qi v5, qi v6, qr 1, qi v8, qi v9, d10, d11, d12, d13, d14, d15, d16, d17, d18, d19, d20, qi v21, qi v22, d23, d24, d25, d26, d27, d28, d29] [] (qa scr :: bk0 zah zt zu zr zw zy zz zaf zag zv zx zaa zs zae zab zad zac []) (LawQ res 0 0) := by
  intro n
  induction n with
  | zero => intro zt zu zr zw zy zz zaf zag zv zx zaa zs zae zab zad zac v4 v5 v6 v8 v9 v21 v22 zah d1 d2 d3 d10 d11 d12 d13 d14 d15 d16 d17 d18 d19 d20 d23 d24 d25 d26 d27 d28 d29 res h; cases h
  | succ n ih =>
    intro zt zu zr zw zy zz zaf zag zv zx zaa zs zae zab zad zac v4 v5 v6 v8 v9 v21 v22 zah d1 d2 d3 d10 d11 d12 d13 d14 d15 d16 d17 d18 d19 d20 d23 d24 d25 d26 d27 d28 d29 res h
    unfold f_L_law_873 at h
    refine OEndsQ.adv hm_0 2 (pc' := 877) (L' := [qr 0, qu, qu, qu, qi v4, qi v5, qi v6, qr 1, qi v8, qi v9, qu, qu, qu, qu, qu, qu, qu, qu, qu, qu, qu, qi v21, qi v22, qu, qu, qu, qu, qu, qu, qu]) (S' := [.int 32, .int v22]) (H' := (qa scr :: bk0 zah zt zu zr zw zy zz zaf zag zv zx zaa zs zae zab zad zac [])) rfl ?_
    by_cases hc176 : v22 < (32 : Int32)
    · simp only [if_pos hc176] at h
      refine OEndsQ.icmpF hm_0 rfl ((tlt hc176).2.1) ?_
      refine OEndsQ.adv hm_0 3 (pc' := 886) (L' := [qr 0, qu, qu, qu, qi v4, qi v5, qi v6, qr 1, qi v8, qi v9, qu, qu, qu, qu, qu, qu, qu, qu, qu, qu, qu, qi v21, qi v22, qu, qu, qu, qu, qu, qu, qu]) (S' := [.int v22, .int v21, .ref 1]) (H' := (qa scr :: bk0 zah zt zu zr zw zy zz zaf zag zv zx zaa zs zae zab zad zac [])) rfl ?_
      obtain ⟨r250, hq177, h⟩ := bnd h
      refine OEndsQ.call0 hm_0 rfl rfl (by decide) rfl (as := [.ref 1, .int v21, .int v22]) (rest := []) rfl rfl (ok_occupant hq177) ?_
      refine OEndsQ.adv hm_0 3 (pc' := 894) (L' := [qr 0, qu, qu, qu, qi v4, qi v5, qi v6, qr 1, qi v8, qi v9, qu, qu, qu, qu, qu, qu, qu, qu, qu, qu, qu, qi v21, qi v22, qi r250, qu, qu, qu, qu, qu, qu]) (S' := [.int (-1), .int r250]) (H' := (qa scr :: bk0 zah zt zu zr zw zy zz zaf zag zv zx zaa zs zae zab zad zac [])) rfl ?_
      by_cases hc178 : r250 = (-1 : Int32)
      · simp only [if_pos hc178] at h
        refine OEndsQ.icmpT hm_0 rfl (q := 921) rfl ((teq hc178).1) ?_
        refine OEndsQ.adv hm_0 2 (pc' := 924) (L' := [qr 0, qu, qu, qu, qi v4, qi v5, qi v6, qr 1, qi v8, qi v9, qu, qu, qu, qu, qu, qu, qu, qu, qu, qu, qu, qi v21, qi v22, qi r250, qi 0, qu, qu, qu, qu, qu]) (S' := []) (H' := (qa scr :: bk0 zah zt zu zr zw zy zz zaf zag zv zx zaa zs zae zab zad zac [])) rfl ?_
        exact ok_L_law_924 (k873 := f_L_law_873 k863 scr n) ih 100000 h
      · simp only [if_neg hc178] at h
        refine OEndsQ.icmpF hm_0 rfl ((feq hc178).1) ?_
        refine OEndsQ.adv hm_0 1 (pc' := 899) (L' := [qr 0, qu, qu, qu, qi v4, qi v5, qi v6, qr 1, qi v8, qi v9, qu, qu, qu, qu, qu, qu, qu, qu, qu, qu, qu, qi v21, qi v22, qi r250, qu, qu, qu, qu, qu, qu]) (S' := [.int r250]) (H' := (qa scr :: bk0 zah zt zu zr zw zy zz zaf zag zv zx zaa zs zae zab zad zac [])) rfl ?_
        by_cases hc179 : r250 < (0 : Int32)
        · simp only [if_pos hc179] at h
          refine OEndsQ.ifT hm_0 rfl (q := 919) rfl ((tlt hc179).1) ?_
          refine OEndsQ.adv hm_0 1 (pc' := 920) (L' := [qr 0, qu, qu, qu, qi v4, qi v5, qi v6, qr 1, qi v8, qi v9, qu, qu, qu, qu, qu, qu, qu, qu, qu, qu, qu, qi v21, qi v22, qi r250, qu, qu, qu, qu, qu, qu]) (S' := [.int 0]) (H' := (qa scr :: bk0 zah zt zu zr zw zy zz zaf zag zv zx zaa zs zae zab zad zac [])) rfl ?_
          cases h
          exact OEndsQ.iret hm_0 rfl rfl
        · simp only [if_neg hc179] at h
          refine OEndsQ.ifF hm_0 rfl ((flt hc179).1) ?_
          refine OEndsQ.adv hm_0 2 (pc' := 906) (L' := [qr 0, qu, qu, qu, qi v4, qi v5, qi v6, qr 1, qi v8, qi v9, qu, qu, qu, qu, qu, qu, qu, qu, qu, qu, qu, qi v21, qi v22, qi r250, qu, qu, qu, qu, qu, qu]) (S' := [.int 31, .int r250]) (H' := (qa scr :: bk0 zah zt zu zr zw zy zz zaf zag zv zx zaa zs zae zab zad zac [])) rfl ?_
          by_cases hc180 : (31 : Int32) < r250
          · simp only [if_pos hc180] at h
            refine OEndsQ.icmpT hm_0 rfl (q := 919) rfl ((tlt hc180).2.2.1) ?_
            refine OEndsQ.adv hm_0 1 (pc' := 920) (L' := [qr 0, qu, qu, qu, qi v4, qi v5, qi v6, qr 1, qi v8, qi v9, qu, qu, qu, qu, qu, qu, qu, qu, qu, qu, qu, qi v21, qi v22, qi r250, qu, qu, qu, qu, qu, qu]) (S' := [.int 0]) (H' := (qa scr :: bk0 zah zt zu zr zw zy zz zaf zag zv zx zaa zs zae zab zad zac [])) rfl ?_
            cases h
            exact OEndsQ.iret hm_0 rfl rfl
          · simp only [if_neg hc180] at h
            refine OEndsQ.icmpF hm_0 rfl ((flt hc180).2.2.1) ?_
            refine OEndsQ.adv hm_0 2 (pc' := 913) (L' := [qr 0, qu, qu, qu, qi v4, qi v5, qi v6, qr 1, qi v8, qi v9, qu, qu, qu, qu, qu, qu, qu, qu, qu, qu, qu, qi v21, qi v22, qi r250, qu, qu, qu, qu, qu, qu]) (S' := [.int r250, .ref 1]) (H' := (qa scr :: bk0 zah zt zu zr zw zy zz zaf zag zv zx zaa zs zae zab zad zac [])) rfl ?_
            obtain ⟨r251, hq181, h⟩ := bnd h
            refine OEndsQ.call0 hm_0 rfl rfl (by decide) rfl (as := [.ref 1, .int r250]) (rest := []) rfl rfl (ok_stayType hq181) ?_
            show OEndsQ own_P 0 916 [qr 0, qu, qu, qu, qi v4, qi v5, qi v6, qr 1, qi v8, qi v9, qu, qu, qu, qu, qu, qu, qu, qu, qu, qu, qu, qi v21, qi v22, qi r250, qu, qu, qu, qu, qu, qu] [.int r251] (qa scr :: bk0 zah zt zu zr zw zy zz zaf zag zv zx zaa zs zae zab zad zac []) _
            by_cases hc182 : r251 < (0 : Int32)
            · simp only [if_pos hc182] at h
              refine OEndsQ.ifF hm_0 rfl ((tlt hc182).2.1) ?_
              refine OEndsQ.adv hm_0 1 (pc' := 920) (L' := [qr 0, qu, qu, qu, qi v4, qi v5, qi v6, qr 1, qi v8, qi v9, qu, qu, qu, qu, qu, qu, qu, qu, qu, qu, qu, qi v21, qi v22, qi r250, qu, qu, qu, qu, qu, qu]) (S' := [.int 0]) (H' := (qa scr :: bk0 zah zt zu zr zw zy zz zaf zag zv zx zaa zs zae zab zad zac [])) rfl ?_
              cases h
              exact OEndsQ.iret hm_0 rfl rfl
            · simp only [if_neg hc182] at h
              refine OEndsQ.ifT hm_0 rfl (q := 921) rfl ((flt hc182).2.1) ?_
              refine OEndsQ.adv hm_0 2 (pc' := 924) (L' := [qr 0, qu, qu, qu, qi v4, qi v5, qi v6, qr 1, qi v8, qi v9, qu, qu, qu, qu, qu, qu, qu, qu, qu, qu, qu, qi v21, qi v22, qi r250, qi 0, qu, qu, qu, qu, qu]) (S' := []) (H' := (qa scr :: bk0 zah zt zu zr zw zy zz zaf zag zv zx zaa zs zae zab zad zac [])) rfl ?_
              exact ok_L_law_924 (k873 := f_L_law_873 k863 scr n) ih 100000 h
    · simp only [if_neg hc176] at h
      refine OEndsQ.icmpT hm_0 rfl (q := 1016) rfl ((flt hc176).2.1) ?_
      refine OEndsQ.adv hm_0 2 (pc' := 863) (L' := [qr 0, qu, qu, qu, qi v4, qi v5, qi v6, qr 1, qi v8, qi v9, qu, qu, qu, qu, qu, qu, qu, qu, qu, qu, qu, qi (v21 + (1 : Int32)), qi v22, qu, qu, qu, qu, qu, qu, qu]) (S' := []) (H' := (qa scr :: bk0 zah zt zu zr zw zy zz zaf zag zv zx zaa zs zae zab zad zac [])) rfl ?_
      exact hk863 h
theorem ok_L_law_863 {scr : List Int32} {k84 : List Int32 → List Int32 → List Int32 → List Int32 → List Int32 → List Int32 → List Int32 → List Int32 → List Int32 → List Int32 → List Int32 → Int32 → Int32 → Int32 → Int32 → Int32 → Int32 → Int32 → Int32 → Int32 → Int32 → Option (Int32)} (hk84 : ∀ {zt zu zr zw zy zz zaf zag zv zx zaa : List Int32} {zs zae zab zad zac v4 v5 v6 v8 v9 : Int32} {zah : List Int32} {d1 d2 d3 d10 d11 d12 d13 d14 d15 d16 d17 d18 d19 d20 d21 d22 d23 d24 d25 d26 d27 d28 d29 : Slot} {res : Int32}, k84 zt zu zr zw zy zz zaf zag zv zx zaa zs zae zab zad zac v4 v5 v6 v8 v9 = some res → OEndsQ own_P 0 84 [qr 0, d1, d2, d3, qi v4, qi v5, qi v6, qr 1, qi v8, qi v9, d10, d11, d12, d13, d14, d15, d16, d17, d18, d19, d20, d21, d22, d23, d24, d25, d26, d27, d28, d29] [] (qa scr :: bk0 zah zt zu zr zw zy zz zaf zag zv zx zaa zs zae zab zad zac []) (LawQ res 0 0)) : ∀ (n : Nat), ∀ {zt zu zr zw zy zz zaf zag zv zx zaa : List Int32} {zs zae zab zad zac v4 v5 v6 v8 v9 v21 : Int32} {zah : List Int32} {d1 d2 d3 d10 d11 d12 d13 d14 d15 d16 d17 d18 d19 d20 d22 d23 d24 d25 d26 d27 d28 d29 : Slot} {res : Int32}, f_L_law_863 k84 scr n zt zu zr zw zy zz zaf zag zv zx zaa zs zae zab zad zac v4 v5 v6 v8 v9 v21 = some res → OEndsQ own_P 0 863 [qr 0, d1, d2, d3, qi v4, qi v5, qi v6, qr 1, qi v8, qi v9, d10, d11, d12, d13, d14, d15, d16, d17, d18, d19, d20, qi v21, d22, d23, d24, d25, d26, d27, d28, d29] [] (qa scr :: bk0 zah zt zu zr zw zy zz zaf zag zv zx zaa zs zae zab zad zac []) (LawQ res 0 0) := by
  intro n
  induction n with
  | zero => intro zt zu zr zw zy zz zaf zag zv zx zaa zs zae zab zad zac v4 v5 v6 v8 v9 v21 zah d1 d2 d3 d10 d11 d12 d13 d14 d15 d16 d17 d18 d19 d20 d22 d23 d24 d25 d26 d27 d28 d29 res h; cases h
  | succ n ih =>
    intro zt zu zr zw zy zz zaf zag zv zx zaa zs zae zab zad zac v4 v5 v6 v8 v9 v21 zah d1 d2 d3 d10 d11 d12 d13 d14 d15 d16 d17 d18 d19 d20 d22 d23 d24 d25 d26 d27 d28 d29 res h
    unfold f_L_law_863 at h
    refine OEndsQ.adv hm_0 2 (pc' := 867) (L' := [qr 0, qu, qu, qu, qi v4, qi v5, qi v6, qr 1, qi v8, qi v9, qu, qu, qu, qu, qu, qu, qu, qu, qu, qu, qu, qi v21, qu, qu, qu, qu, qu, qu, qu, qu]) (S' := [.int v4, .int v21]) (H' := (qa scr :: bk0 zah zt zu zr zw zy zz zaf zag zv zx zaa zs zae zab zad zac [])) rfl ?_
    by_cases hc183 : v21 < v4
    · simp only [if_pos hc183] at h
      refine OEndsQ.icmpF hm_0 rfl ((tlt hc183).2.1) ?_
      refine OEndsQ.adv hm_0 2 (pc' := 873) (L' := [qr 0, qu, qu, qu, qi v4, qi v5, qi v6, qr 1, qi v8, qi v9, qu, qu, qu, qu, qu, qu, qu, qu, qu, qu, qu, qi v21, qi 0, qu, qu, qu, qu, qu, qu, qu]) (S' := []) (H' := (qa scr :: bk0 zah zt zu zr zw zy zz zaf zag zv zx zaa zs zae zab zad zac [])) rfl ?_
      exact ok_L_law_873 (k863 := f_L_law_863 k84 scr n) ih 100000 h
    · simp only [if_neg hc183] at h
      refine OEndsQ.icmpT hm_0 rfl (q := 1022) rfl ((flt hc183).2.1) ?_
      refine OEndsQ.adv hm_0 2 (pc' := 84) (L' := [qr 0, qu, qu, qu, qi v4, qi v5, qi v6, qr 1, qi v8, qi (v9 + (1 : Int32)), qu, qu, qu, qu, qu, qu, qu, qu, qu, qu, qu, qi v21, qu, qu, qu, qu, qu, qu, qu, qu]) (S' := []) (H' := (qa scr :: bk0 zah zt zu zr zw zy zz zaf zag zv zx zaa zs zae zab zad zac [])) rfl ?_
      exact hk84 h
theorem ok_L_law_780 {scr : List Int32} {k719 : List Int32 → List Int32 → List Int32 → List Int32 → List Int32 → List Int32 → List Int32 → List Int32 → List Int32 → List Int32 → List Int32 → Int32 → Int32 → Int32 → Int32 → Int32 → Int32 → Int32 → Int32 → Int32 → Int32 → Int32 → Option (Int32)} (hk719 : ∀ {zt zu zr zw zy zz zaf zag zv zx zaa : List Int32} {zs zae zab zad zac v4 v5 v6 v8 v9 v21 : Int32} {zah : List Int32} {d1 d2 d3 d10 d11 d12 d13 d14 d15 d16 d17 d18 d19 d20 d22 d23 d24 d25 d26 d27 d28 d29 : Slot} {res : Int32}, k719 zt zu zr zw zy zz zaf zag zv zx zaa zs zae zab zad zac v4 v5 v6 v8 v9 v21 = some res → OEndsQ own_P 0 719 [qr 0, d1, d2, d3, qi v4, qi v5, qi v6, qr 1, qi v8, qi v9, d10, d11, d12, d13, d14, d15, d16, d17, d18, d19, d20, qi v21, d22, d23, d24, d25, d26, d27, d28, d29] [] (qa scr :: bk0 zah zt zu zr zw zy zz zaf zag zv zx zaa zs zae zab zad zac []) (LawQ res 0 0)) : ∀ (n : Nat), ∀ {zt zu zr zw zy zz zaf zag zv zx zaa : List Int32} {zs zae zab zad zac v4 v5 v6 v8 v9 v21 v23 v24 : Int32} {zah : List Int32} {d1 d2 d3 d10 d11 d12 d13 d14 d15 d16 d17 d18 d19 d20 d22 d25 d26 d27 d28 d29 : Slot} {res : Int32}, f_L_law_780 k719 scr n zt zu zr zw zy zz zaf zag zv zx zaa zs zae zab zad zac v4 v5 v6 v8 v9 v21 v23 v24 = some res → OEndsQ own_P 0 780 [qr 0, d1, d2, d3, qi v4, qi v5, qi v6, qr 1, qi v8, qi v9, d10, d11, d12, d13, d14, d15, d16, d17, d18, d19, d20, qi v21, d22, qi v23, qi v24, d25, d26, d27, d28, d29] [] (qa scr :: bk0 zah zt zu zr zw zy zz zaf zag zv zx zaa zs zae zab zad zac []) (LawQ res 0 0) := by
  intro n
  induction n with
  | zero => intro zt zu zr zw zy zz zaf zag zv zx zaa zs zae zab zad zac v4 v5 v6 v8 v9 v21 v23 v24 zah d1 d2 d3 d10 d11 d12 d13 d14 d15 d16 d17 d18 d19 d20 d22 d25 d26 d27 d28 d29 res h; cases h
  | succ n ih =>
    intro zt zu zr zw zy zz zaf zag zv zx zaa zs zae zab zad zac v4 v5 v6 v8 v9 v21 v23 v24 zah d1 d2 d3 d10 d11 d12 d13 d14 d15 d16 d17 d18 d19 d20 d22 d25 d26 d27 d28 d29 res h
    unfold f_L_law_780 at h
    refine OEndsQ.adv hm_0 2 (pc' := 784) (L' := [qr 0, qu, qu, qu, qi v4, qi v5, qi v6, qr 1, qi v8, qi v9, qu, qu, qu, qu, qu, qu, qu, qu, qu, qu, qu, qi v21, qu, qi v23, qi v24, qu, qu, qu, qu, qu]) (S' := [.int 32, .int v24]) (H' := (qa scr :: bk0 zah zt zu zr zw zy zz zaf zag zv zx zaa zs zae zab zad zac [])) rfl ?_
    by_cases hc184 : v24 < (32 : Int32)
    · simp only [if_pos hc184] at h
      refine OEndsQ.icmpF hm_0 rfl ((tlt hc184).2.1) ?_
      refine OEndsQ.adv hm_0 2 (pc' := 791) (L' := [qr 0, qu, qu, qu, qi v4, qi v5, qi v6, qr 1, qi v8, qi v9, qu, qu, qu, qu, qu, qu, qu, qu, qu, qu, qu, qi v21, qu, qi v23, qi v24, qu, qu, qu, qu, qu]) (S' := [.int v24, .ref 1]) (H' := (qa scr :: bk0 zah zt zu zr zw zy zz zaf zag zv zx zaa zs zae zab zad zac [])) rfl ?_
      obtain ⟨r243, hq185, h⟩ := bnd h
      refine OEndsQ.call0 hm_0 rfl rfl (by decide) rfl (as := [.ref 1, .int v24]) (rest := []) rfl rfl (ok_stayType hq185) ?_
      show OEndsQ own_P 0 794 [qr 0, qu, qu, qu, qi v4, qi v5, qi v6, qr 1, qi v8, qi v9, qu, qu, qu, qu, qu, qu, qu, qu, qu, qu, qu, qi v21, qu, qi v23, qi v24, qu, qu, qu, qu, qu] [.int r243] (qa scr :: bk0 zah zt zu zr zw zy zz zaf zag zv zx zaa zs zae zab zad zac []) _
      by_cases hc186 : r243 < (0 : Int32)
      · simp only [if_pos hc186] at h
        refine OEndsQ.ifT hm_0 rfl (q := 848) rfl ((tlt hc186).1) ?_
        refine OEndsQ.adv hm_0 2 (pc' := 780) (L' := [qr 0, qu, qu, qu, qi v4, qi v5, qi v6, qr 1, qi v8, qi v9, qu, qu, qu, qu, qu, qu, qu, qu, qu, qu, qu, qi v21, qu, qi v23, qi (v24 + (1 : Int32)), qu, qu, qu, qu, qu]) (S' := []) (H' := (qa scr :: bk0 zah zt zu zr zw zy zz zaf zag zv zx zaa zs zae zab zad zac [])) rfl ?_
        exact ih h
      · simp only [if_neg hc186] at h
        refine OEndsQ.ifF hm_0 rfl ((flt hc186).1) ?_
        refine OEndsQ.adv hm_0 2 (pc' := 801) (L' := [qr 0, qu, qu, qu, qi v4, qi v5, qi v6, qr 1, qi v8, qi v9, qu, qu, qu, qu, qu, qu, qu, qu, qu, qu, qu, qi v21, qu, qi v23, qi v24, qu, qu, qu, qu, qu]) (S' := [.int v24, .ref 1]) (H' := (qa scr :: bk0 zah zt zu zr zw zy zz zaf zag zv zx zaa zs zae zab zad zac [])) rfl ?_
        obtain ⟨r244, hq187, h⟩ := bnd h
        refine OEndsQ.call0 hm_0 rfl rfl (by decide) rfl (as := [.ref 1, .int v24]) (rest := []) rfl rfl (ok_roomOf hq187) ?_
        refine OEndsQ.adv hm_0 1 (pc' := 806) (L' := [qr 0, qu, qu, qu, qi v4, qi v5, qi v6, qr 1, qi v8, qi v9, qu, qu, qu, qu, qu, qu, qu, qu, qu, qu, qu, qi v21, qu, qi v23, qi v24, qu, qu, qu, qu, qu]) (S' := [.int v23, .int r244]) (H' := (qa scr :: bk0 zah zt zu zr zw zy zz zaf zag zv zx zaa zs zae zab zad zac [])) rfl ?_
        by_cases hc188 : r244 = v23
        · simp only [if_pos hc188] at h
          refine OEndsQ.icmpT hm_0 rfl (q := 812) rfl ((teq hc188).1) ?_
          refine OEndsQ.adv hm_0 2 (pc' := 816) (L' := [qr 0, qu, qu, qu, qi v4, qi v5, qi v6, qr 1, qi v8, qi v9, qu, qu, qu, qu, qu, qu, qu, qu, qu, qu, qu, qi v21, qu, qi v23, qi v24, qu, qu, qu, qu, qu]) (S' := [.int v21, .ref 1]) (H' := (qa scr :: bk0 zah zt zu zr zw zy zz zaf zag zv zx zaa zs zae zab zad zac [])) rfl ?_
          obtain ⟨r245, hq189, h⟩ := bnd h
          refine OEndsQ.call0 hm_0 rfl rfl (by decide) rfl (as := [.ref 1, .int v21]) (rest := []) rfl rfl (ok_stayArrive hq189) ?_
          refine OEndsQ.adv hm_0 2 (pc' := 823) (L' := [qr 0, qu, qu, qu, qi v4, qi v5, qi v6, qr 1, qi v8, qi v9, qu, qu, qu, qu, qu, qu, qu, qu, qu, qu, qu, qi v21, qu, qi v23, qi v24, qu, qu, qu, qu, qu]) (S' := [.int v21, .ref 1, .int r245]) (H' := (qa scr :: bk0 zah zt zu zr zw zy zz zaf zag zv zx zaa zs zae zab zad zac [])) rfl ?_
          obtain ⟨r246, hq190, h⟩ := bnd h
          refine OEndsQ.call0 hm_0 rfl rfl (by decide) rfl (as := [.ref 1, .int v21]) (rest := [.int r245]) rfl rfl (ok_stayNights hq190) ?_
          refine OEndsQ.adv hm_0 2 (pc' := 830) (L' := [qr 0, qu, qu, qu, qi v4, qi v5, qi v6, qr 1, qi v8, qi v9, qu, qu, qu, qu, qu, qu, qu, qu, qu, qu, qu, qi v21, qu, qi v23, qi v24, qu, qu, qu, qu, qu]) (S' := [.int v24, .ref 1, .int r246, .int r245]) (H' := (qa scr :: bk0 zah zt zu zr zw zy zz zaf zag zv zx zaa zs zae zab zad zac [])) rfl ?_
          obtain ⟨r247, hq191, h⟩ := bnd h
          refine OEndsQ.call0 hm_0 rfl rfl (by decide) rfl (as := [.ref 1, .int v24]) (rest := [.int r246, .int r245]) rfl rfl (ok_stayArrive hq191) ?_
          refine OEndsQ.adv hm_0 2 (pc' := 837) (L' := [qr 0, qu, qu, qu, qi v4, qi v5, qi v6, qr 1, qi v8, qi v9, qu, qu, qu, qu, qu, qu, qu, qu, qu, qu, qu, qi v21, qu, qi v23, qi v24, qu, qu, qu, qu, qu]) (S' := [.int v24, .ref 1, .int r247, .int r246, .int r245]) (H' := (qa scr :: bk0 zah zt zu zr zw zy zz zaf zag zv zx zaa zs zae zab zad zac [])) rfl ?_
          obtain ⟨r248, hq192, h⟩ := bnd h
          refine OEndsQ.call0 hm_0 rfl rfl (by decide) rfl (as := [.ref 1, .int v24]) (rest := [.int r247, .int r246, .int r245]) rfl rfl (ok_stayNights hq192) ?_
          show OEndsQ own_P 0 840 [qr 0, qu, qu, qu, qi v4, qi v5, qi v6, qr 1, qi v8, qi v9, qu, qu, qu, qu, qu, qu, qu, qu, qu, qu, qu, qi v21, qu, qi v23, qi v24, qu, qu, qu, qu, qu] [.int r248, .int r247, .int r246, .int r245] (qa scr :: bk0 zah zt zu zr zw zy zz zaf zag zv zx zaa zs zae zab zad zac []) _
          obtain ⟨r249, hq193, h⟩ := bnd h
          refine OEndsQ.call0 hm_0 rfl rfl (by decide) rfl (as := [.int r245, .int r246, .int r247, .int r248]) (rest := []) rfl rfl (ok_L_overlap hq193) ?_
          show OEndsQ own_P 0 843 [qr 0, qu, qu, qu, qi v4, qi v5, qi v6, qr 1, qi v8, qi v9, qu, qu, qu, qu, qu, qu, qu, qu, qu, qu, qu, qi v21, qu, qi v23, qi v24, qu, qu, qu, qu, qu] [.int r249] (qa scr :: bk0 zah zt zu zr zw zy zz zaf zag zv zx zaa zs zae zab zad zac []) _
          by_cases hc194 : r249 = (0 : Int32)
          · simp only [if_pos hc194] at h
            refine OEndsQ.ifT hm_0 rfl (q := 848) rfl ((teq hc194).1) ?_
            refine OEndsQ.adv hm_0 2 (pc' := 780) (L' := [qr 0, qu, qu, qu, qi v4, qi v5, qi v6, qr 1, qi v8, qi v9, qu, qu, qu, qu, qu, qu, qu, qu, qu, qu, qu, qi v21, qu, qi v23, qi (v24 + (1 : Int32)), qu, qu, qu, qu, qu]) (S' := []) (H' := (qa scr :: bk0 zah zt zu zr zw zy zz zaf zag zv zx zaa zs zae zab zad zac [])) rfl ?_
            exact ih h
          · simp only [if_neg hc194] at h
            refine OEndsQ.ifF hm_0 rfl ((feq hc194).1) ?_
            refine OEndsQ.adv hm_0 1 (pc' := 847) (L' := [qr 0, qu, qu, qu, qi v4, qi v5, qi v6, qr 1, qi v8, qi v9, qu, qu, qu, qu, qu, qu, qu, qu, qu, qu, qu, qi v21, qu, qi v23, qi v24, qu, qu, qu, qu, qu]) (S' := [.int 0]) (H' := (qa scr :: bk0 zah zt zu zr zw zy zz zaf zag zv zx zaa zs zae zab zad zac [])) rfl ?_
            cases h
            exact OEndsQ.iret hm_0 rfl rfl
        · simp only [if_neg hc188] at h
          refine OEndsQ.icmpF hm_0 rfl ((feq hc188).1) ?_
          refine OEndsQ.adv hm_0 3 (pc' := 780) (L' := [qr 0, qu, qu, qu, qi v4, qi v5, qi v6, qr 1, qi v8, qi v9, qu, qu, qu, qu, qu, qu, qu, qu, qu, qu, qu, qi v21, qu, qi v23, qi (v24 + (1 : Int32)), qu, qu, qu, qu, qu]) (S' := []) (H' := (qa scr :: bk0 zah zt zu zr zw zy zz zaf zag zv zx zaa zs zae zab zad zac [])) rfl ?_
          exact ih h
    · simp only [if_neg hc184] at h
      refine OEndsQ.icmpT hm_0 rfl (q := 854) rfl ((flt hc184).2.1) ?_
      refine OEndsQ.adv hm_0 2 (pc' := 719) (L' := [qr 0, qu, qu, qu, qi v4, qi v5, qi v6, qr 1, qi v8, qi v9, qu, qu, qu, qu, qu, qu, qu, qu, qu, qu, qu, qi (v21 + (1 : Int32)), qu, qi v23, qi v24, qu, qu, qu, qu, qu]) (S' := []) (H' := (qa scr :: bk0 zah zt zu zr zw zy zz zaf zag zv zx zaa zs zae zab zad zac [])) rfl ?_
      exact hk719 h
theorem ok_L_law_719 {scr : List Int32} {k863 : List Int32 → List Int32 → List Int32 → List Int32 → List Int32 → List Int32 → List Int32 → List Int32 → List Int32 → List Int32 → List Int32 → Int32 → Int32 → Int32 → Int32 → Int32 → Int32 → Int32 → Int32 → Int32 → Int32 → Int32 → Option (Int32)} (hk863 : ∀ {zt zu zr zw zy zz zaf zag zv zx zaa : List Int32} {zs zae zab zad zac v4 v5 v6 v8 v9 v21 : Int32} {zah : List Int32} {d1 d2 d3 d10 d11 d12 d13 d14 d15 d16 d17 d18 d19 d20 d22 d23 d24 d25 d26 d27 d28 d29 : Slot} {res : Int32}, k863 zt zu zr zw zy zz zaf zag zv zx zaa zs zae zab zad zac v4 v5 v6 v8 v9 v21 = some res → OEndsQ own_P 0 863 [qr 0, d1, d2, d3, qi v4, qi v5, qi v6, qr 1, qi v8, qi v9, d10, d11, d12, d13, d14, d15, d16, d17, d18, d19, d20, qi v21, d22, d23, d24, d25, d26, d27, d28, d29] [] (qa scr :: bk0 zah zt zu zr zw zy zz zaf zag zv zx zaa zs zae zab zad zac []) (LawQ res 0 0)) : ∀ (n : Nat), ∀ {zt zu zr zw zy zz zaf zag zv zx zaa : List Int32} {zs zae zab zad zac v4 v5 v6 v8 v9 v21 : Int32} {zah : List Int32} {d1 d2 d3 d10 d11 d12 d13 d14 d15 d16 d17 d18 d19 d20 d22 d23 d24 d25 d26 d27 d28 d29 : Slot} {res : Int32}, f_L_law_719 k863 scr n zt zu zr zw zy zz zaf zag zv zx zaa zs zae zab zad zac v4 v5 v6 v8 v9 v21 = some res → OEndsQ own_P 0 719 [qr 0, d1, d2, d3, qi v4, qi v5, qi v6, qr 1, qi v8, qi v9, d10, d11, d12, d13, d14, d15, d16, d17, d18, d19, d20, qi v21, d22, d23, d24, d25, d26, d27, d28, d29] [] (qa scr :: bk0 zah zt zu zr zw zy zz zaf zag zv zx zaa zs zae zab zad zac []) (LawQ res 0 0) := by
  intro n
  induction n with
  | zero => intro zt zu zr zw zy zz zaf zag zv zx zaa zs zae zab zad zac v4 v5 v6 v8 v9 v21 zah d1 d2 d3 d10 d11 d12 d13 d14 d15 d16 d17 d18 d19 d20 d22 d23 d24 d25 d26 d27 d28 d29 res h; cases h
  | succ n ih =>
    intro zt zu zr zw zy zz zaf zag zv zx zaa zs zae zab zad zac v4 v5 v6 v8 v9 v21 zah d1 d2 d3 d10 d11 d12 d13 d14 d15 d16 d17 d18 d19 d20 d22 d23 d24 d25 d26 d27 d28 d29 res h
    unfold f_L_law_719 at h
    refine OEndsQ.adv hm_0 2 (pc' := 723) (L' := [qr 0, qu, qu, qu, qi v4, qi v5, qi v6, qr 1, qi v8, qi v9, qu, qu, qu, qu, qu, qu, qu, qu, qu, qu, qu, qi v21, qu, qu, qu, qu, qu, qu, qu, qu]) (S' := [.int 32, .int v21]) (H' := (qa scr :: bk0 zah zt zu zr zw zy zz zaf zag zv zx zaa zs zae zab zad zac [])) rfl ?_
    by_cases hc195 : v21 < (32 : Int32)
    · simp only [if_pos hc195] at h
      refine OEndsQ.icmpF hm_0 rfl ((tlt hc195).2.1) ?_
      refine OEndsQ.adv hm_0 2 (pc' := 730) (L' := [qr 0, qu, qu, qu, qi v4, qi v5, qi v6, qr 1, qi v8, qi v9, qu, qu, qu, qu, qu, qu, qu, qu, qu, qu, qu, qi v21, qu, qu, qu, qu, qu, qu, qu, qu]) (S' := [.int v21, .ref 1]) (H' := (qa scr :: bk0 zah zt zu zr zw zy zz zaf zag zv zx zaa zs zae zab zad zac [])) rfl ?_
      obtain ⟨r240, hq196, h⟩ := bnd h
      refine OEndsQ.call0 hm_0 rfl rfl (by decide) rfl (as := [.ref 1, .int v21]) (rest := []) rfl rfl (ok_stayType hq196) ?_
      refine OEndsQ.adv hm_0 2 (pc' := 737) (L' := [qr 0, qu, qu, qu, qi v4, qi v5, qi v6, qr 1, qi v8, qi v9, qu, qu, qu, qu, qu, qu, qu, qu, qu, qu, qu, qi v21, qi r240, qu, qu, qu, qu, qu, qu, qu]) (S' := [.int r240]) (H' := (qa scr :: bk0 zah zt zu zr zw zy zz zaf zag zv zx zaa zs zae zab zad zac [])) rfl ?_
      by_cases hc197 : r240 < (0 : Int32)
      · simp only [if_pos hc197] at h
        refine OEndsQ.ifF hm_0 rfl ((tlt hc197).2.1) ?_
        refine OEndsQ.adv hm_0 3 (pc' := 719) (L' := [qr 0, qu, qu, qu, qi v4, qi v5, qi v6, qr 1, qi v8, qi v9, qu, qu, qu, qu, qu, qu, qu, qu, qu, qu, qu, qi (v21 + (1 : Int32)), qi r240, qu, qu, qu, qu, qu, qu, qu]) (S' := []) (H' := (qa scr :: bk0 zah zt zu zr zw zy zz zaf zag zv zx zaa zs zae zab zad zac [])) rfl ?_
        exact ih h
      · simp only [if_neg hc197] at h
        refine OEndsQ.ifT hm_0 rfl (q := 743) rfl ((flt hc197).2.1) ?_
        refine OEndsQ.adv hm_0 2 (pc' := 747) (L' := [qr 0, qu, qu, qu, qi v4, qi v5, qi v6, qr 1, qi v8, qi v9, qu, qu, qu, qu, qu, qu, qu, qu, qu, qu, qu, qi v21, qi r240, qu, qu, qu, qu, qu, qu, qu]) (S' := [.int v21, .ref 1]) (H' := (qa scr :: bk0 zah zt zu zr zw zy zz zaf zag zv zx zaa zs zae zab zad zac [])) rfl ?_
        obtain ⟨r241, hq198, h⟩ := bnd h
        refine OEndsQ.call0 hm_0 rfl rfl (by decide) rfl (as := [.ref 1, .int v21]) (rest := []) rfl rfl (ok_roomOf hq198) ?_
        refine OEndsQ.adv hm_0 2 (pc' := 754) (L' := [qr 0, qu, qu, qu, qi v4, qi v5, qi v6, qr 1, qi v8, qi v9, qu, qu, qu, qu, qu, qu, qu, qu, qu, qu, qu, qi v21, qi r240, qi r241, qu, qu, qu, qu, qu, qu]) (S' := [.int r241]) (H' := (qa scr :: bk0 zah zt zu zr zw zy zz zaf zag zv zx zaa zs zae zab zad zac [])) rfl ?_
        by_cases hc199 : r241 < (0 : Int32)
        · simp only [if_pos hc199] at h
          refine OEndsQ.ifF hm_0 rfl ((tlt hc199).2.1) ?_
          refine OEndsQ.adv hm_0 3 (pc' := 719) (L' := [qr 0, qu, qu, qu, qi v4, qi v5, qi v6, qr 1, qi v8, qi v9, qu, qu, qu, qu, qu, qu, qu, qu, qu, qu, qu, qi (v21 + (1 : Int32)), qi r240, qi r241, qu, qu, qu, qu, qu, qu]) (S' := []) (H' := (qa scr :: bk0 zah zt zu zr zw zy zz zaf zag zv zx zaa zs zae zab zad zac [])) rfl ?_
          exact ih h
        · simp only [if_neg hc199] at h
          refine OEndsQ.ifT hm_0 rfl (q := 760) rfl ((flt hc199).2.1) ?_
          refine OEndsQ.adv hm_0 2 (pc' := 764) (L' := [qr 0, qu, qu, qu, qi v4, qi v5, qi v6, qr 1, qi v8, qi v9, qu, qu, qu, qu, qu, qu, qu, qu, qu, qu, qu, qi v21, qi r240, qi r241, qu, qu, qu, qu, qu, qu]) (S' := [.int r241, .ref 1]) (H' := (qa scr :: bk0 zah zt zu zr zw zy zz zaf zag zv zx zaa zs zae zab zad zac [])) rfl ?_
          obtain ⟨r242, hq200, h⟩ := bnd h
          refine OEndsQ.call0 hm_0 rfl rfl (by decide) rfl (as := [.ref 1, .int r241]) (rest := []) rfl rfl (ok_roomType hq200) ?_
          refine OEndsQ.adv hm_0 1 (pc' := 769) (L' := [qr 0, qu, qu, qu, qi v4, qi v5, qi v6, qr 1, qi v8, qi v9, qu, qu, qu, qu, qu, qu, qu, qu, qu, qu, qu, qi v21, qi r240, qi r241, qu, qu, qu, qu, qu, qu]) (S' := [.int r240, .int r242]) (H' := (qa scr :: bk0 zah zt zu zr zw zy zz zaf zag zv zx zaa zs zae zab zad zac [])) rfl ?_
          by_cases hc201 : r242 < r240
          · simp only [if_pos hc201] at h
            refine OEndsQ.icmpF hm_0 rfl ((tlt hc201).2.1) ?_
            refine OEndsQ.adv hm_0 1 (pc' := 773) (L' := [qr 0, qu, qu, qu, qi v4, qi v5, qi v6, qr 1, qi v8, qi v9, qu, qu, qu, qu, qu, qu, qu, qu, qu, qu, qu, qi v21, qi r240, qi r241, qu, qu, qu, qu, qu, qu]) (S' := [.int 0]) (H' := (qa scr :: bk0 zah zt zu zr zw zy zz zaf zag zv zx zaa zs zae zab zad zac [])) rfl ?_
            cases h
            exact OEndsQ.iret hm_0 rfl rfl
          · simp only [if_neg hc201] at h
            refine OEndsQ.icmpT hm_0 rfl (q := 774) rfl ((flt hc201).2.1) ?_
            refine OEndsQ.adv hm_0 4 (pc' := 780) (L' := [qr 0, qu, qu, qu, qi v4, qi v5, qi v6, qr 1, qi v8, qi v9, qu, qu, qu, qu, qu, qu, qu, qu, qu, qu, qu, qi v21, qi r240, qi r241, qi (v21 + (1 : Int32)), qu, qu, qu, qu, qu]) (S' := []) (H' := (qa scr :: bk0 zah zt zu zr zw zy zz zaf zag zv zx zaa zs zae zab zad zac [])) rfl ?_
            exact ok_L_law_780 (k719 := f_L_law_719 k863 scr n) ih 100000 h
    · simp only [if_neg hc195] at h
      refine OEndsQ.icmpT hm_0 rfl (q := 860) rfl ((flt hc195).2.1) ?_
      refine OEndsQ.adv hm_0 2 (pc' := 863) (L' := [qr 0, qu, qu, qu, qi v4, qi v5, qi v6, qr 1, qi v8, qi v9, qu, qu, qu, qu, qu, qu, qu, qu, qu, qu, qu, qi 0, qu, qu, qu, qu, qu, qu, qu, qu]) (S' := []) (H' := (qa scr :: bk0 zah zt zu zr zw zy zz zaf zag zv zx zaa zs zae zab zad zac [])) rfl ?_
      exact hk863 h
theorem ok_L_law_708 {scr : List Int32} {kb : List Int32 → List Int32 → List Int32 → List Int32 → List Int32 → List Int32 → List Int32 → List Int32 → List Int32 → List Int32 → List Int32 → Int32 → Int32 → Int32 → Int32 → Int32 → Int32 → Int32 → Int32 → Int32 → Int32 → Option (Int32)} (hkb : ∀ {zt zu zr zw zy zz zaf zag zv zx zaa : List Int32} {zs zae zab zad zac v4 v5 v6 v8 v9 : Int32} {zah : List Int32} {d1 d2 d3 d10 d11 d12 d13 d14 d15 d16 d17 d18 d19 d20 d21 d22 d23 d24 d25 d26 d27 d28 d29 : Slot} {res : Int32}, kb zt zu zr zw zy zz zaf zag zv zx zaa zs zae zab zad zac v4 v5 v6 v8 v9 = some res → OEndsQ own_P 0 84 [qr 0, d1, d2, d3, qi v4, qi v5, qi v6, qr 1, qi v8, qi v9, d10, d11, d12, d13, d14, d15, d16, d17, d18, d19, d20, d21, d22, d23, d24, d25, d26, d27, d28, d29] [] (qa scr :: bk0 zah zt zu zr zw zy zz zaf zag zv zx zaa zs zae zab zad zac []) (LawQ res 0 0)) : ∀ {zt zu zr zw zy zz zaf zag zv zx zaa : List Int32} {zs zae zab zad zac v4 v5 v6 v8 v9 : Int32} {zah : List Int32} {d1 d2 d3 d10 d11 d12 d13 d14 d15 d16 d17 d18 d19 d20 d21 d22 d23 d24 d25 d26 d27 d28 d29 : Slot} {res : Int32}, f_L_law_708 kb scr zt zu zr zw zy zz zaf zag zv zx zaa zs zae zab zad zac v4 v5 v6 v8 v9 = some res → OEndsQ own_P 0 708 [qr 0, d1, d2, d3, qi v4, qi v5, qi v6, qr 1, qi v8, qi v9, d10, d11, d12, d13, d14, d15, d16, d17, d18, d19, d20, d21, d22, d23, d24, d25, d26, d27, d28, d29] [] (qa scr :: bk0 zah zt zu zr zw zy zz zaf zag zv zx zaa zs zae zab zad zac []) (LawQ res 0 0) := by
  intro zt zu zr zw zy zz zaf zag zv zx zaa zs zae zab zad zac v4 v5 v6 v8 v9 zah d1 d2 d3 d10 d11 d12 d13 d14 d15 d16 d17 d18 d19 d20 d21 d22 d23 d24 d25 d26 d27 d28 d29 res h
  unfold f_L_law_708 at h
  refine OEndsQ.adv hm_0 1 (pc' := 710) (L' := [qr 0, qu, qu, qu, qi v4, qi v5, qi v6, qr 1, qi v8, qi v9, qu, qu, qu, qu, qu, qu, qu, qu, qu, qu, qu, qu, qu, qu, qu, qu, qu, qu, qu, qu]) (S' := [.ref 1]) (H' := (qa scr :: bk0 zah zt zu zr zw zy zz zaf zag zv zx zaa zs zae zab zad zac [])) rfl ?_
  obtain ⟨r239, hq202, h⟩ := bnd h
  refine OEndsQ.call0 hm_0 rfl rfl (by decide) rfl (as := [.ref 1]) (rest := []) rfl rfl (ok_isAssigned hq202) ?_
  show OEndsQ own_P 0 713 [qr 0, qu, qu, qu, qi v4, qi v5, qi v6, qr 1, qi v8, qi v9, qu, qu, qu, qu, qu, qu, qu, qu, qu, qu, qu, qu, qu, qu, qu, qu, qu, qu, qu, qu] [.int r239] (qa scr :: bk0 zah zt zu zr zw zy zz zaf zag zv zx zaa zs zae zab zad zac []) _
  by_cases hc203 : r239 = (0 : Int32)
  · simp only [if_pos hc203] at h
    refine OEndsQ.ifT hm_0 rfl (q := 1022) rfl ((teq hc203).1) ?_
    refine OEndsQ.adv hm_0 2 (pc' := 84) (L' := [qr 0, qu, qu, qu, qi v4, qi v5, qi v6, qr 1, qi v8, qi (v9 + (1 : Int32)), qu, qu, qu, qu, qu, qu, qu, qu, qu, qu, qu, qu, qu, qu, qu, qu, qu, qu, qu, qu]) (S' := []) (H' := (qa scr :: bk0 zah zt zu zr zw zy zz zaf zag zv zx zaa zs zae zab zad zac [])) rfl ?_
    exact hkb h
  · simp only [if_neg hc203] at h
    refine OEndsQ.ifF hm_0 rfl ((feq hc203).1) ?_
    refine OEndsQ.adv hm_0 2 (pc' := 719) (L' := [qr 0, qu, qu, qu, qi v4, qi v5, qi v6, qr 1, qi v8, qi v9, qu, qu, qu, qu, qu, qu, qu, qu, qu, qu, qu, qi 0, qu, qu, qu, qu, qu, qu, qu, qu]) (S' := []) (H' := (qa scr :: bk0 zah zt zu zr zw zy zz zaf zag zv zx zaa zs zae zab zad zac [])) rfl ?_
    exact ok_L_law_719 (k863 := f_L_law_863 kb scr 100000) (ok_L_law_863 (k84 := kb) hkb 100000) 100000 h
theorem ok_L_law_679 {scr : List Int32} {kb : List Int32 → List Int32 → List Int32 → List Int32 → List Int32 → List Int32 → List Int32 → List Int32 → List Int32 → List Int32 → List Int32 → Int32 → Int32 → Int32 → Int32 → Int32 → Int32 → Int32 → Int32 → Int32 → Int32 → Int32 → Option (Int32)} {k708 : List Int32 → List Int32 → List Int32 → List Int32 → List Int32 → List Int32 → List Int32 → List Int32 → List Int32 → List Int32 → List Int32 → Int32 → Int32 → Int32 → Int32 → Int32 → Int32 → Int32 → Int32 → Int32 → Int32 → Option (Int32)} (hkb : ∀ {zt zu zr zw zy zz zaf zag zv zx zaa : List Int32} {zs zae zab zad zac v4 v5 v6 v8 v9 v21 : Int32} {zah : List Int32} {d1 d2 d3 d10 d11 d12 d13 d14 d15 d16 d17 d18 d19 d20 d22 d23 d24 d25 d26 d27 d28 d29 : Slot} {res : Int32}, kb zt zu zr zw zy zz zaf zag zv zx zaa zs zae zab zad zac v4 v5 v6 v8 v9 v21 = some res → OEndsQ own_P 0 587 [qr 0, d1, d2, d3, qi v4, qi v5, qi v6, qr 1, qi v8, qi v9, d10, d11, d12, d13, d14, d15, d16, d17, d18, d19, d20, qi v21, d22, d23, d24, d25, d26, d27, d28, d29] [] (qa scr :: bk0 zah zt zu zr zw zy zz zaf zag zv zx zaa zs zae zab zad zac []) (LawQ res 0 0)) (hk708 : ∀ {zt zu zr zw zy zz zaf zag zv zx zaa : List Int32} {zs zae zab zad zac v4 v5 v6 v8 v9 : Int32} {zah : List Int32} {d1 d2 d3 d10 d11 d12 d13 d14 d15 d16 d17 d18 d19 d20 d21 d22 d23 d24 d25 d26 d27 d28 d29 : Slot} {res : Int32}, k708 zt zu zr zw zy zz zaf zag zv zx zaa zs zae zab zad zac v4 v5 v6 v8 v9 = some res → OEndsQ own_P 0 708 [qr 0, d1, d2, d3, qi v4, qi v5, qi v6, qr 1, qi v8, qi v9, d10, d11, d12, d13, d14, d15, d16, d17, d18, d19, d20, d21, d22, d23, d24, d25, d26, d27, d28, d29] [] (qa scr :: bk0 zah zt zu zr zw zy zz zaf zag zv zx zaa zs zae zab zad zac []) (LawQ res 0 0)) : ∀ {zt zu zr zw zy zz zaf zag zv zx zaa : List Int32} {zs zae zab zad zac v4 v5 v6 v8 v9 v21 v22 v23 v24 : Int32} {zah : List Int32} {d1 d2 d3 d10 d11 d12 d13 d14 d15 d16 d17 d18 d19 d20 d25 d26 d27 d28 d29 : Slot} {res : Int32}, f_L_law_679 kb k708 scr zt zu zr zw zy zz zaf zag zv zx zaa zs zae zab zad zac v4 v5 v6 v8 v9 v21 v22 v23 v24 = some res → OEndsQ own_P 0 679 [qr 0, d1, d2, d3, qi v4, qi v5, qi v6, qr 1, qi v8, qi v9, d10, d11, d12, d13, d14, d15, d16, d17, d18, d19, d20, qi v21, qi v22, qi v23, qi v24, d25, d26, d27, d28, d29] [] (qa scr :: bk0 zah zt zu zr zw zy zz zaf zag zv zx zaa zs zae zab zad zac []) (LawQ res 0 0) := by
  intro zt zu zr zw zy zz zaf zag zv zx zaa zs zae zab zad zac v4 v5 v6 v8 v9 v21 v22 v23 v24 zah d1 d2 d3 d10 d11 d12 d13 d14 d15 d16 d17 d18 d19 d20 d25 d26 d27 d28 d29 res h
  unfold f_L_law_679 at h
  refine OEndsQ.adv hm_0 2 (pc' := 683) (L' := [qr 0, qu, qu, qu, qi v4, qi v5, qi v6, qr 1, qi v8, qi v9, qu, qu, qu, qu, qu, qu, qu, qu, qu, qu, qu, qi v21, qi v22, qi v23, qi v24, qu, qu, qu, qu, qu]) (S' := [.int v4, .int v22]) (H' := (qa scr :: bk0 zah zt zu zr zw zy zz zaf zag zv zx zaa zs zae zab zad zac [])) rfl ?_
  by_cases hc204 : v4 < v22
  · simp only [if_pos hc204] at h
    refine OEndsQ.icmpT hm_0 rfl (q := 700) rfl ((tlt hc204).2.2.1) ?_
    refine OEndsQ.adv hm_0 1 (pc' := 701) (L' := [qr 0, qu, qu, qu, qi v4, qi v5, qi v6, qr 1, qi v8, qi v9, qu, qu, qu, qu, qu, qu, qu, qu, qu, qu, qu, qi v21, qi v22, qi v23, qi v24, qu, qu, qu, qu, qu]) (S' := [.int 0]) (H' := (qa scr :: bk0 zah zt zu zr zw zy zz zaf zag zv zx zaa zs zae zab zad zac [])) rfl ?_
    cases h
    exact OEndsQ.iret hm_0 rfl rfl
  · simp only [if_neg hc204] at h
    refine OEndsQ.icmpF hm_0 rfl ((flt hc204).2.2.1) ?_
    refine OEndsQ.adv hm_0 2 (pc' := 690) (L' := [qr 0, qu, qu, qu, qi v4, qi v5, qi v6, qr 1, qi v8, qi v9, qu, qu, qu, qu, qu, qu, qu, qu, qu, qu, qu, qi v21, qi v22, qi v23, qi v24, qu, qu, qu, qu, qu]) (S' := [.int v5, .int v23]) (H' := (qa scr :: bk0 zah zt zu zr zw zy zz zaf zag zv zx zaa zs zae zab zad zac [])) rfl ?_
    by_cases hc205 : v5 < v23
    · simp only [if_pos hc205] at h
      refine OEndsQ.icmpT hm_0 rfl (q := 700) rfl ((tlt hc205).2.2.1) ?_
      refine OEndsQ.adv hm_0 1 (pc' := 701) (L' := [qr 0, qu, qu, qu, qi v4, qi v5, qi v6, qr 1, qi v8, qi v9, qu, qu, qu, qu, qu, qu, qu, qu, qu, qu, qu, qi v21, qi v22, qi v23, qi v24, qu, qu, qu, qu, qu]) (S' := [.int 0]) (H' := (qa scr :: bk0 zah zt zu zr zw zy zz zaf zag zv zx zaa zs zae zab zad zac [])) rfl ?_
      cases h
      exact OEndsQ.iret hm_0 rfl rfl
    · simp only [if_neg hc205] at h
      refine OEndsQ.icmpF hm_0 rfl ((flt hc205).2.2.1) ?_
      refine OEndsQ.adv hm_0 2 (pc' := 697) (L' := [qr 0, qu, qu, qu, qi v4, qi v5, qi v6, qr 1, qi v8, qi v9, qu, qu, qu, qu, qu, qu, qu, qu, qu, qu, qu, qi v21, qi v22, qi v23, qi v24, qu, qu, qu, qu, qu]) (S' := [.int v6, .int v24]) (H' := (qa scr :: bk0 zah zt zu zr zw zy zz zaf zag zv zx zaa zs zae zab zad zac [])) rfl ?_
      by_cases hc206 : v6 < v24
      · simp only [if_pos hc206] at h
        refine OEndsQ.icmpF hm_0 rfl ((tlt hc206).2.2.2) ?_
        refine OEndsQ.adv hm_0 1 (pc' := 701) (L' := [qr 0, qu, qu, qu, qi v4, qi v5, qi v6, qr 1, qi v8, qi v9, qu, qu, qu, qu, qu, qu, qu, qu, qu, qu, qu, qi v21, qi v22, qi v23, qi v24, qu, qu, qu, qu, qu]) (S' := [.int 0]) (H' := (qa scr :: bk0 zah zt zu zr zw zy zz zaf zag zv zx zaa zs zae zab zad zac [])) rfl ?_
        cases h
        exact OEndsQ.iret hm_0 rfl rfl
      · simp only [if_neg hc206] at h
        refine OEndsQ.icmpT hm_0 rfl (q := 702) rfl ((flt hc206).2.2.2) ?_
        refine OEndsQ.adv hm_0 2 (pc' := 587) (L' := [qr 0, qu, qu, qu, qi v4, qi v5, qi v6, qr 1, qi v8, qi v9, qu, qu, qu, qu, qu, qu, qu, qu, qu, qu, qu, qi (v21 + (1 : Int32)), qi v22, qi v23, qi v24, qu, qu, qu, qu, qu]) (S' := []) (H' := (qa scr :: bk0 zah zt zu zr zw zy zz zaf zag zv zx zaa zs zae zab zad zac [])) rfl ?_
        exact hkb h
theorem ok_L_law_664 {scr : List Int32} {kb : List Int32 → List Int32 → List Int32 → List Int32 → List Int32 → List Int32 → List Int32 → List Int32 → List Int32 → List Int32 → List Int32 → Int32 → Int32 → Int32 → Int32 → Int32 → Int32 → Int32 → Int32 → Int32 → Int32 → Int32 → Int32 → Int32 → Int32 → Int32 → Option (Int32)} {k679 : List Int32 → List Int32 → List Int32 → List Int32 → List Int32 → List Int32 → List Int32 → List Int32 → List Int32 → List Int32 → List Int32 → Int32 → Int32 → Int32 → Int32 → Int32 → Int32 → Int32 → Int32 → Int32 → Int32 → Int32 → Int32 → Int32 → Int32 → Option (Int32)} (hkb : ∀ {zt zu zr zw zy zz zaf zag zv zx zaa : List Int32} {zs zae zab zad zac v4 v5 v6 v8 v9 v21 v22 v23 v24 v25 : Int32} {zah : List Int32} {d1 d2 d3 d10 d11 d12 d13 d14 d15 d16 d17 d18 d19 d20 d26 d27 d28 d29 : Slot} {res : Int32}, kb zt zu zr zw zy zz zaf zag zv zx zaa zs zae zab zad zac v4 v5 v6 v8 v9 v21 v22 v23 v24 v25 = some res → OEndsQ own_P 0 606 [qr 0, d1, d2, d3, qi v4, qi v5, qi v6, qr 1, qi v8, qi v9, d10, d11, d12, d13, d14, d15, d16, d17, d18, d19, d20, qi v21, qi v22, qi v23, qi v24, qi v25, d26, d27, d28, d29] [] (qa scr :: bk0 zah zt zu zr zw zy zz zaf zag zv zx zaa zs zae zab zad zac []) (LawQ res 0 0)) (hk679 : ∀ {zt zu zr zw zy zz zaf zag zv zx zaa : List Int32} {zs zae zab zad zac v4 v5 v6 v8 v9 v21 v22 v23 v24 : Int32} {zah : List Int32} {d1 d2 d3 d10 d11 d12 d13 d14 d15 d16 d17 d18 d19 d20 d25 d26 d27 d28 d29 : Slot} {res : Int32}, k679 zt zu zr zw zy zz zaf zag zv zx zaa zs zae zab zad zac v4 v5 v6 v8 v9 v21 v22 v23 v24 = some res → OEndsQ own_P 0 679 [qr 0, d1, d2, d3, qi v4, qi v5, qi v6, qr 1, qi v8, qi v9, d10, d11, d12, d13, d14, d15, d16, d17, d18, d19, d20, qi v21, qi v22, qi v23, qi v24, d25, d26, d27, d28, d29] [] (qa scr :: bk0 zah zt zu zr zw zy zz zaf zag zv zx zaa zs zae zab zad zac []) (LawQ res 0 0)) : ∀ {zt zu zr zw zy zz zaf zag zv zx zaa : List Int32} {zs zae zab zad zac v4 v5 v6 v8 v9 v21 v22 v23 v24 v25 v26 : Int32} {zah : List Int32} {d1 d2 d3 d10 d11 d12 d13 d14 d15 d16 d17 d18 d19 d20 d27 d28 d29 : Slot} {res : Int32}, f_L_law_664 kb k679 scr zt zu zr zw zy zz zaf zag zv zx zaa zs zae zab zad zac v4 v5 v6 v8 v9 v21 v22 v23 v24 v25 v26 = some res → OEndsQ own_P 0 664 [qr 0, d1, d2, d3, qi v4, qi v5, qi v6, qr 1, qi v8, qi v9, d10, d11, d12, d13, d14, d15, d16, d17, d18, d19, d20, qi v21, qi v22, qi v23, qi v24, qi v25, qi v26, d27, d28, d29] [] (qa scr :: bk0 zah zt zu zr zw zy zz zaf zag zv zx zaa zs zae zab zad zac []) (LawQ res 0 0) := by
  intro zt zu zr zw zy zz zaf zag zv zx zaa zs zae zab zad zac v4 v5 v6 v8 v9 v21 v22 v23 v24 v25 v26 zah d1 d2 d3 d10 d11 d12 d13 d14 d15 d16 d17 d18 d19 d20 d27 d28 d29 res h
  unfold f_L_law_664 at h
  refine OEndsQ.adv hm_0 2 (pc' := 667) (L' := [qr 0, qu, qu, qu, qi v4, qi v5, qi v6, qr 1, qi v8, qi v9, qu, qu, qu, qu, qu, qu, qu, qu, qu, qu, qu, qi v21, qi v22, qi v23, qi v24, qi v25, qi v26, qu, qu, qu]) (S' := [.int 2, .int v26]) (H' := (qa scr :: bk0 zah zt zu zr zw zy zz zaf zag zv zx zaa zs zae zab zad zac [])) rfl ?_
  by_cases hc207 : v26 < (2 : Int32)
  · simp only [if_pos hc207] at h
    refine OEndsQ.icmpT hm_0 rfl (q := 673) rfl ((tlt hc207).1) ?_
    refine OEndsQ.adv hm_0 2 (pc' := 606) (L' := [qr 0, qu, qu, qu, qi v4, qi v5, qi v6, qr 1, qi v8, qi v9, qu, qu, qu, qu, qu, qu, qu, qu, qu, qu, qu, qi v21, qi v22, qi v23, qi v24, qi (v25 + (1 : Int32)), qi v26, qu, qu, qu]) (S' := []) (H' := (qa scr :: bk0 zah zt zu zr zw zy zz zaf zag zv zx zaa zs zae zab zad zac [])) rfl ?_
    exact hkb h
  · simp only [if_neg hc207] at h
    refine OEndsQ.icmpF hm_0 rfl ((flt hc207).1) ?_
    refine OEndsQ.adv hm_0 3 (pc' := 606) (L' := [qr 0, qu, qu, qu, qi v4, qi v5, qi v6, qr 1, qi v8, qi v9, qu, qu, qu, qu, qu, qu, qu, qu, qu, qu, qu, qi v21, qi v22, qi v23, qi (v24 + (1 : Int32)), qi (v25 + (1 : Int32)), qi v26, qu, qu, qu]) (S' := []) (H' := (qa scr :: bk0 zah zt zu zr zw zy zz zaf zag zv zx zaa zs zae zab zad zac [])) rfl ?_
    exact hkb h
theorem ok_L_law_606 {scr : List Int32} {k679 : List Int32 → List Int32 → List Int32 → List Int32 → List Int32 → List Int32 → List Int32 → List Int32 → List Int32 → List Int32 → List Int32 → Int32 → Int32 → Int32 → Int32 → Int32 → Int32 → Int32 → Int32 → Int32 → Int32 → Int32 → Int32 → Int32 → Int32 → Option (Int32)} (hk679 : ∀ {zt zu zr zw zy zz zaf zag zv zx zaa : List Int32} {zs zae zab zad zac v4 v5 v6 v8 v9 v21 v22 v23 v24 : Int32} {zah : List Int32} {d1 d2 d3 d10 d11 d12 d13 d14 d15 d16 d17 d18 d19 d20 d25 d26 d27 d28 d29 : Slot} {res : Int32}, k679 zt zu zr zw zy zz zaf zag zv zx zaa zs zae zab zad zac v4 v5 v6 v8 v9 v21 v22 v23 v24 = some res → OEndsQ own_P 0 679 [qr 0, d1, d2, d3, qi v4, qi v5, qi v6, qr 1, qi v8, qi v9, d10, d11, d12, d13, d14, d15, d16, d17, d18, d19, d20, qi v21, qi v22, qi v23, qi v24, d25, d26, d27, d28, d29] [] (qa scr :: bk0 zah zt zu zr zw zy zz zaf zag zv zx zaa zs zae zab zad zac []) (LawQ res 0 0)) : ∀ (n : Nat), ∀ {zt zu zr zw zy zz zaf zag zv zx zaa : List Int32} {zs zae zab zad zac v4 v5 v6 v8 v9 v21 v22 v23 v24 v25 : Int32} {zah : List Int32} {d1 d2 d3 d10 d11 d12 d13 d14 d15 d16 d17 d18 d19 d20 d26 d27 d28 d29 : Slot} {res : Int32}, f_L_law_606 k679 scr n zt zu zr zw zy zz zaf zag zv zx zaa zs zae zab zad zac v4 v5 v6 v8 v9 v21 v22 v23 v24 v25 = some res → OEndsQ own_P 0 606 [qr 0, d1, d2, d3, qi v4, qi v5, qi v6, qr 1, qi v8, qi v9, d10, d11, d12, d13, d14, d15, d16, d17, d18, d19, d20, qi v21, qi v22, qi v23, qi v24, qi v25, d26, d27, d28, d29] [] (qa scr :: bk0 zah zt zu zr zw zy zz zaf zag zv zx zaa zs zae zab zad zac []) (LawQ res 0 0) := by
  intro n
  induction n with
  | zero => intro zt zu zr zw zy zz zaf zag zv zx zaa zs zae zab zad zac v4 v5 v6 v8 v9 v21 v22 v23 v24 v25 zah d1 d2 d3 d10 d11 d12 d13 d14 d15 d16 d17 d18 d19 d20 d26 d27 d28 d29 res h; cases h
  | succ n ih =>
    intro zt zu zr zw zy zz zaf zag zv zx zaa zs zae zab zad zac v4 v5 v6 v8 v9 v21 v22 v23 v24 v25 zah d1 d2 d3 d10 d11 d12 d13 d14 d15 d16 d17 d18 d19 d20 d26 d27 d28 d29 res h
    unfold f_L_law_606 at h
    refine OEndsQ.adv hm_0 2 (pc' := 610) (L' := [qr 0, qu, qu, qu, qi v4, qi v5, qi v6, qr 1, qi v8, qi v9, qu, qu, qu, qu, qu, qu, qu, qu, qu, qu, qu, qi v21, qi v22, qi v23, qi v24, qi v25, qu, qu, qu, qu]) (S' := [.int 32, .int v25]) (H' := (qa scr :: bk0 zah zt zu zr zw zy zz zaf zag zv zx zaa zs zae zab zad zac [])) rfl ?_
    by_cases hc208 : v25 < (32 : Int32)
    · simp only [if_pos hc208] at h
      refine OEndsQ.icmpF hm_0 rfl ((tlt hc208).2.1) ?_
      refine OEndsQ.adv hm_0 2 (pc' := 617) (L' := [qr 0, qu, qu, qu, qi v4, qi v5, qi v6, qr 1, qi v8, qi v9, qu, qu, qu, qu, qu, qu, qu, qu, qu, qu, qu, qi v21, qi v22, qi v23, qi v24, qi v25, qu, qu, qu, qu]) (S' := [.int v25, .ref 1]) (H' := (qa scr :: bk0 zah zt zu zr zw zy zz zaf zag zv zx zaa zs zae zab zad zac [])) rfl ?_
      obtain ⟨r235, hq209, h⟩ := bnd h
      refine OEndsQ.call0 hm_0 rfl rfl (by decide) rfl (as := [.ref 1, .int v25]) (rest := []) rfl rfl (ok_stayType hq209) ?_
      refine OEndsQ.adv hm_0 2 (pc' := 624) (L' := [qr 0, qu, qu, qu, qi v4, qi v5, qi v6, qr 1, qi v8, qi v9, qu, qu, qu, qu, qu, qu, qu, qu, qu, qu, qu, qi v21, qi v22, qi v23, qi v24, qi v25, qi r235, qu, qu, qu]) (S' := [.int r235]) (H' := (qa scr :: bk0 zah zt zu zr zw zy zz zaf zag zv zx zaa zs zae zab zad zac [])) rfl ?_
      by_cases hc210 : r235 < (0 : Int32)
      · simp only [if_pos hc210] at h
        refine OEndsQ.ifF hm_0 rfl ((tlt hc210).2.1) ?_
        refine OEndsQ.adv hm_0 3 (pc' := 606) (L' := [qr 0, qu, qu, qu, qi v4, qi v5, qi v6, qr 1, qi v8, qi v9, qu, qu, qu, qu, qu, qu, qu, qu, qu, qu, qu, qi v21, qi v22, qi v23, qi v24, qi (v25 + (1 : Int32)), qi r235, qu, qu, qu]) (S' := []) (H' := (qa scr :: bk0 zah zt zu zr zw zy zz zaf zag zv zx zaa zs zae zab zad zac [])) rfl ?_
        exact ih h
      · simp only [if_neg hc210] at h
        refine OEndsQ.ifT hm_0 rfl (q := 630) rfl ((flt hc210).2.1) ?_
        refine OEndsQ.adv hm_0 2 (pc' := 634) (L' := [qr 0, qu, qu, qu, qi v4, qi v5, qi v6, qr 1, qi v8, qi v9, qu, qu, qu, qu, qu, qu, qu, qu, qu, qu, qu, qi v21, qi v22, qi v23, qi v24, qi v25, qi r235, qu, qu, qu]) (S' := [.int v25, .ref 1]) (H' := (qa scr :: bk0 zah zt zu zr zw zy zz zaf zag zv zx zaa zs zae zab zad zac [])) rfl ?_
        obtain ⟨r236, hq211, h⟩ := bnd h
        refine OEndsQ.call0 hm_0 rfl rfl (by decide) rfl (as := [.ref 1, .int v25]) (rest := []) rfl rfl (ok_stayArrive hq211) ?_
        refine OEndsQ.adv hm_0 2 (pc' := 641) (L' := [qr 0, qu, qu, qu, qi v4, qi v5, qi v6, qr 1, qi v8, qi v9, qu, qu, qu, qu, qu, qu, qu, qu, qu, qu, qu, qi v21, qi v22, qi v23, qi v24, qi v25, qi r235, qu, qu, qu]) (S' := [.int v25, .ref 1, .int r236]) (H' := (qa scr :: bk0 zah zt zu zr zw zy zz zaf zag zv zx zaa zs zae zab zad zac [])) rfl ?_
        obtain ⟨r237, hq212, h⟩ := bnd h
        refine OEndsQ.call0 hm_0 rfl rfl (by decide) rfl (as := [.ref 1, .int v25]) (rest := [.int r236]) rfl rfl (ok_stayNights hq212) ?_
        refine OEndsQ.adv hm_0 1 (pc' := 646) (L' := [qr 0, qu, qu, qu, qi v4, qi v5, qi v6, qr 1, qi v8, qi v9, qu, qu, qu, qu, qu, qu, qu, qu, qu, qu, qu, qi v21, qi v22, qi v23, qi v24, qi v25, qi r235, qu, qu, qu]) (S' := [.int v21, .int r237, .int r236]) (H' := (qa scr :: bk0 zah zt zu zr zw zy zz zaf zag zv zx zaa zs zae zab zad zac [])) rfl ?_
        obtain ⟨r238, hq213, h⟩ := bnd h
        refine OEndsQ.call0 hm_0 rfl rfl (by decide) rfl (as := [.int r236, .int r237, .int v21]) (rest := []) rfl rfl (ok_L_covers hq213) ?_
        show OEndsQ own_P 0 649 [qr 0, qu, qu, qu, qi v4, qi v5, qi v6, qr 1, qi v8, qi v9, qu, qu, qu, qu, qu, qu, qu, qu, qu, qu, qu, qi v21, qi v22, qi v23, qi v24, qi v25, qi r235, qu, qu, qu] [.int r238] (qa scr :: bk0 zah zt zu zr zw zy zz zaf zag zv zx zaa zs zae zab zad zac []) _
        by_cases hc214 : r238 = (0 : Int32)
        · simp only [if_pos hc214] at h
          refine OEndsQ.ifT hm_0 rfl (q := 673) rfl ((teq hc214).1) ?_
          refine OEndsQ.adv hm_0 2 (pc' := 606) (L' := [qr 0, qu, qu, qu, qi v4, qi v5, qi v6, qr 1, qi v8, qi v9, qu, qu, qu, qu, qu, qu, qu, qu, qu, qu, qu, qi v21, qi v22, qi v23, qi v24, qi (v25 + (1 : Int32)), qi r235, qu, qu, qu]) (S' := []) (H' := (qa scr :: bk0 zah zt zu zr zw zy zz zaf zag zv zx zaa zs zae zab zad zac [])) rfl ?_
          exact ih h
        · simp only [if_neg hc214] at h
          refine OEndsQ.ifF hm_0 rfl ((feq hc214).1) ?_
          refine OEndsQ.adv hm_0 3 (pc' := 658) (L' := [qr 0, qu, qu, qu, qi v4, qi v5, qi v6, qr 1, qi v8, qi v9, qu, qu, qu, qu, qu, qu, qu, qu, qu, qu, qu, qi v21, qi (v22 + (1 : Int32)), qi v23, qi v24, qi v25, qi r235, qu, qu, qu]) (S' := [.int 1, .int r235]) (H' := (qa scr :: bk0 zah zt zu zr zw zy zz zaf zag zv zx zaa zs zae zab zad zac [])) rfl ?_
          by_cases hc215 : r235 < (1 : Int32)
          · simp only [if_pos hc215] at h
            refine OEndsQ.icmpT hm_0 rfl (q := 664) rfl ((tlt hc215).1) ?_
            show OEndsQ own_P 0 664 [qr 0, qu, qu, qu, qi v4, qi v5, qi v6, qr 1, qi v8, qi v9, qu, qu, qu, qu, qu, qu, qu, qu, qu, qu, qu, qi v21, qi (v22 + (1 : Int32)), qi v23, qi v24, qi v25, qi r235, qu, qu, qu] [] (qa scr :: bk0 zah zt zu zr zw zy zz zaf zag zv zx zaa zs zae zab zad zac []) _
            exact ok_L_law_664 ih hk679 h
          · simp only [if_neg hc215] at h
            refine OEndsQ.icmpF hm_0 rfl ((flt hc215).1) ?_
            refine OEndsQ.adv hm_0 1 (pc' := 664) (L' := [qr 0, qu, qu, qu, qi v4, qi v5, qi v6, qr 1, qi v8, qi v9, qu, qu, qu, qu, qu, qu, qu, qu, qu, qu, qu, qi v21, qi (v22 + (1 : Int32)), qi (v23 + (1 : Int32)), qi v24, qi v25, qi r235, qu, qu, qu]) (S' := []) (H' := (qa scr :: bk0 zah zt zu zr zw zy zz zaf zag zv zx zaa zs zae zab zad zac [])) rfl ?_
            exact ok_L_law_664 ih hk679 h
    · simp only [if_neg hc208] at h
      refine OEndsQ.icmpT hm_0 rfl (q := 679) rfl ((flt hc208).2.1) ?_
      show OEndsQ own_P 0 679 [qr 0, qu, qu, qu, qi v4, qi v5, qi v6, qr 1, qi v8, qi v9, qu, qu, qu, qu, qu, qu, qu, qu, qu, qu, qu, qi v21, qi v22, qi v23, qi v24, qi v25, qu, qu, qu, qu] [] (qa scr :: bk0 zah zt zu zr zw zy zz zaf zag zv zx zaa zs zae zab zad zac []) _
      exact hk679 h
theorem ok_L_law_587 {scr : List Int32} {k708 : List Int32 → List Int32 → List Int32 → List Int32 → List Int32 → List Int32 → List Int32 → List Int32 → List Int32 → List Int32 → List Int32 → Int32 → Int32 → Int32 → Int32 → Int32 → Int32 → Int32 → Int32 → Int32 → Int32 → Option (Int32)} (hk708 : ∀ {zt zu zr zw zy zz zaf zag zv zx zaa : List Int32} {zs zae zab zad zac v4 v5 v6 v8 v9 : Int32} {zah : List Int32} {d1 d2 d3 d10 d11 d12 d13 d14 d15 d16 d17 d18 d19 d20 d21 d22 d23 d24 d25 d26 d27 d28 d29 : Slot} {res : Int32}, k708 zt zu zr zw zy zz zaf zag zv zx zaa zs zae zab zad zac v4 v5 v6 v8 v9 = some res → OEndsQ own_P 0 708 [qr 0, d1, d2, d3, qi v4, qi v5, qi v6, qr 1, qi v8, qi v9, d10, d11, d12, d13, d14, d15, d16, d17, d18, d19, d20, d21, d22, d23, d24, d25, d26, d27, d28, d29] [] (qa scr :: bk0 zah zt zu zr zw zy zz zaf zag zv zx zaa zs zae zab zad zac []) (LawQ res 0 0)) : ∀ (n : Nat), ∀ {zt zu zr zw zy zz zaf zag zv zx zaa : List Int32} {zs zae zab zad zac v4 v5 v6 v8 v9 v21 : Int32} {zah : List Int32} {d1 d2 d3 d10 d11 d12 d13 d14 d15 d16 d17 d18 d19 d20 d22 d23 d24 d25 d26 d27 d28 d29 : Slot} {res : Int32}, f_L_law_587 k708 scr n zt zu zr zw zy zz zaf zag zv zx zaa zs zae zab zad zac v4 v5 v6 v8 v9 v21 = some res → OEndsQ own_P 0 587 [qr 0, d1, d2, d3, qi v4, qi v5, qi v6, qr 1, qi v8, qi v9, d10, d11, d12, d13, d14, d15, d16, d17, d18, d19, d20, qi v21, d22, d23, d24, d25, d26, d27, d28, d29] [] (qa scr :: bk0 zah zt zu zr zw zy zz zaf zag zv zx zaa zs zae zab zad zac []) (LawQ res 0 0) := by
  intro n
  induction n with
  | zero => intro zt zu zr zw zy zz zaf zag zv zx zaa zs zae zab zad zac v4 v5 v6 v8 v9 v21 zah d1 d2 d3 d10 d11 d12 d13 d14 d15 d16 d17 d18 d19 d20 d22 d23 d24 d25 d26 d27 d28 d29 res h; cases h
  | succ n ih =>
    intro zt zu zr zw zy zz zaf zag zv zx zaa zs zae zab zad zac v4 v5 v6 v8 v9 v21 zah d1 d2 d3 d10 d11 d12 d13 d14 d15 d16 d17 d18 d19 d20 d22 d23 d24 d25 d26 d27 d28 d29 res h
    unfold f_L_law_587 at h
    refine OEndsQ.adv hm_0 2 (pc' := 591) (L' := [qr 0, qu, qu, qu, qi v4, qi v5, qi v6, qr 1, qi v8, qi v9, qu, qu, qu, qu, qu, qu, qu, qu, qu, qu, qu, qi v21, qu, qu, qu, qu, qu, qu, qu, qu]) (S' := [.int 32, .int v21]) (H' := (qa scr :: bk0 zah zt zu zr zw zy zz zaf zag zv zx zaa zs zae zab zad zac [])) rfl ?_
    by_cases hc216 : v21 < (32 : Int32)
    · simp only [if_pos hc216] at h
      refine OEndsQ.icmpF hm_0 rfl ((tlt hc216).2.1) ?_
      refine OEndsQ.adv hm_0 8 (pc' := 606) (L' := [qr 0, qu, qu, qu, qi v4, qi v5, qi v6, qr 1, qi v8, qi v9, qu, qu, qu, qu, qu, qu, qu, qu, qu, qu, qu, qi v21, qi 0, qi 0, qi 0, qi 0, qu, qu, qu, qu]) (S' := []) (H' := (qa scr :: bk0 zah zt zu zr zw zy zz zaf zag zv zx zaa zs zae zab zad zac [])) rfl ?_
      exact ok_L_law_606 (k679 := f_L_law_679 (f_L_law_587 k708 scr n) k708 scr) (ok_L_law_679 ih hk708) 100000 h
    · simp only [if_neg hc216] at h
      refine OEndsQ.icmpT hm_0 rfl (q := 708) rfl ((flt hc216).2.1) ?_
      show OEndsQ own_P 0 708 [qr 0, qu, qu, qu, qi v4, qi v5, qi v6, qr 1, qi v8, qi v9, qu, qu, qu, qu, qu, qu, qu, qu, qu, qu, qu, qi v21, qu, qu, qu, qu, qu, qu, qu, qu] [] (qa scr :: bk0 zah zt zu zr zw zy zz zaf zag zv zx zaa zs zae zab zad zac []) _
      exact hk708 h
theorem ok_L_law_554 {scr : List Int32} {kb : List Int32 → List Int32 → List Int32 → List Int32 → List Int32 → List Int32 → List Int32 → List Int32 → List Int32 → List Int32 → List Int32 → Int32 → Int32 → Int32 → Int32 → Int32 → Int32 → Int32 → Int32 → Int32 → Int32 → Option (Int32)} (hkb : ∀ {zt zu zr zw zy zz zaf zag zv zx zaa : List Int32} {zs zae zab zad zac v4 v5 v6 v8 v9 : Int32} {zah : List Int32} {d1 d2 d3 d10 d11 d12 d13 d14 d15 d16 d17 d18 d19 d20 d21 d22 d23 d24 d25 d26 d27 d28 d29 : Slot} {res : Int32}, kb zt zu zr zw zy zz zaf zag zv zx zaa zs zae zab zad zac v4 v5 v6 v8 v9 = some res → OEndsQ own_P 0 84 [qr 0, d1, d2, d3, qi v4, qi v5, qi v6, qr 1, qi v8, qi v9, d10, d11, d12, d13, d14, d15, d16, d17, d18, d19, d20, d21, d22, d23, d24, d25, d26, d27, d28, d29] [] (qa scr :: bk0 zah zt zu zr zw zy zz zaf zag zv zx zaa zs zae zab zad zac []) (LawQ res 0 0)) : ∀ {zt zu zr zw zy zz zaf zag zv zx zaa : List Int32} {zs zae zab zad zac v4 v5 v6 v8 v9 v20 t0 : Int32} {zah : List Int32} {d1 d2 d3 d10 d11 d12 d13 d14 d15 d16 d17 d18 d19 d21 d22 d23 d24 d25 d26 d27 d28 d29 : Slot} {res : Int32}, f_L_law_554 kb scr zt zu zr zw zy zz zaf zag zv zx zaa zs zae zab zad zac v4 v5 v6 v8 v9 v20 t0 = some res → OEndsQ own_P 0 554 [qr 0, d1, d2, d3, qi v4, qi v5, qi v6, qr 1, qi v8, qi v9, d10, d11, d12, d13, d14, d15, d16, d17, d18, d19, qi v20, d21, d22, d23, d24, d25, d26, d27, d28, d29] [.int t0] (qa scr :: bk0 zah zt zu zr zw zy zz zaf zag zv zx zaa zs zae zab zad zac []) (LawQ res 0 0) := by
  intro zt zu zr zw zy zz zaf zag zv zx zaa zs zae zab zad zac v4 v5 v6 v8 v9 v20 t0 zah d1 d2 d3 d10 d11 d12 d13 d14 d15 d16 d17 d18 d19 d21 d22 d23 d24 d25 d26 d27 d28 d29 res h
  unfold f_L_law_554 at h
  refine OEndsQ.adv hm_0 1 (pc' := 556) (L' := [qr 0, qu, qu, qu, qi v4, qi v5, qi v6, qr 1, qi v8, qi v9, qu, qu, qu, qu, qu, qu, qu, qu, qu, qu, qi v20, qu, qu, qu, qu, qu, qu, qu, qu, qu]) (S' := [.int v20, .int t0]) (H' := (qa scr :: bk0 zah zt zu zr zw zy zz zaf zag zv zx zaa zs zae zab zad zac [])) rfl ?_
  by_cases hc217 : t0 = v20
  · simp only [if_pos hc217] at h
    refine OEndsQ.icmpT hm_0 rfl (q := 584) rfl ((teq hc217).1) ?_
    refine OEndsQ.adv hm_0 2 (pc' := 587) (L' := [qr 0, qu, qu, qu, qi v4, qi v5, qi v6, qr 1, qi v8, qi v9, qu, qu, qu, qu, qu, qu, qu, qu, qu, qu, qi v20, qi 0, qu, qu, qu, qu, qu, qu, qu, qu]) (S' := []) (H' := (qa scr :: bk0 zah zt zu zr zw zy zz zaf zag zv zx zaa zs zae zab zad zac [])) rfl ?_
    exact ok_L_law_587 (k708 := f_L_law_708 kb scr) (ok_L_law_708 hkb) 100000 h
  · simp only [if_neg hc217] at h
    refine OEndsQ.icmpF hm_0 rfl ((feq hc217).1) ?_
    refine OEndsQ.adv hm_0 1 (pc' := 560) (L' := [qr 0, qu, qu, qu, qi v4, qi v5, qi v6, qr 1, qi v8, qi v9, qu, qu, qu, qu, qu, qu, qu, qu, qu, qu, qi v20, qu, qu, qu, qu, qu, qu, qu, qu, qu]) (S' := [.int 0]) (H' := (qa scr :: bk0 zah zt zu zr zw zy zz zaf zag zv zx zaa zs zae zab zad zac [])) rfl ?_
    cases h
    exact OEndsQ.iret hm_0 rfl rfl
theorem ok_L_law_520 {scr : List Int32} {kb : List Int32 → List Int32 → List Int32 → List Int32 → List Int32 → List Int32 → List Int32 → List Int32 → List Int32 → List Int32 → List Int32 → Int32 → Int32 → Int32 → Int32 → Int32 → Int32 → Int32 → Int32 → Int32 → Int32 → Option (Int32)} (hkb : ∀ {zt zu zr zw zy zz zaf zag zv zx zaa : List Int32} {zs zae zab zad zac v4 v5 v6 v8 v9 : Int32} {zah : List Int32} {d1 d2 d3 d10 d11 d12 d13 d14 d15 d16 d17 d18 d19 d20 d21 d22 d23 d24 d25 d26 d27 d28 d29 : Slot} {res : Int32}, kb zt zu zr zw zy zz zaf zag zv zx zaa zs zae zab zad zac v4 v5 v6 v8 v9 = some res → OEndsQ own_P 0 84 [qr 0, d1, d2, d3, qi v4, qi v5, qi v6, qr 1, qi v8, qi v9, d10, d11, d12, d13, d14, d15, d16, d17, d18, d19, d20, d21, d22, d23, d24, d25, d26, d27, d28, d29] [] (qa scr :: bk0 zah zt zu zr zw zy zz zaf zag zv zx zaa zs zae zab zad zac []) (LawQ res 0 0)) : ∀ {zt zu zr zw zy zz zaf zag zv zx zaa : List Int32} {zs zae zab zad zac v4 v5 v6 v8 v9 v20 t0 : Int32} {zah : List Int32} {d1 d2 d3 d10 d11 d12 d13 d14 d15 d16 d17 d18 d19 d21 d22 d23 d24 d25 d26 d27 d28 d29 : Slot} {res : Int32}, f_L_law_520 kb scr zt zu zr zw zy zz zaf zag zv zx zaa zs zae zab zad zac v4 v5 v6 v8 v9 v20 t0 = some res → OEndsQ own_P 0 520 [qr 0, d1, d2, d3, qi v4, qi v5, qi v6, qr 1, qi v8, qi v9, d10, d11, d12, d13, d14, d15, d16, d17, d18, d19, qi v20, d21, d22, d23, d24, d25, d26, d27, d28, d29] [.int t0] (qa scr :: bk0 zah zt zu zr zw zy zz zaf zag zv zx zaa zs zae zab zad zac []) (LawQ res 0 0) := by
  intro zt zu zr zw zy zz zaf zag zv zx zaa zs zae zab zad zac v4 v5 v6 v8 v9 v20 t0 zah d1 d2 d3 d10 d11 d12 d13 d14 d15 d16 d17 d18 d19 d21 d22 d23 d24 d25 d26 d27 d28 d29 res h
  unfold f_L_law_520 at h
  refine OEndsQ.adv hm_0 1 (pc' := 522) (L' := [qr 0, qu, qu, qu, qi v4, qi v5, qi v6, qr 1, qi v8, qi v9, qu, qu, qu, qu, qu, qu, qu, qu, qu, qu, qi v20, qu, qu, qu, qu, qu, qu, qu, qu, qu]) (S' := [.int v20, .int t0]) (H' := (qa scr :: bk0 zah zt zu zr zw zy zz zaf zag zv zx zaa zs zae zab zad zac [])) rfl ?_
  by_cases hc218 : t0 = v20
  · simp only [if_pos hc218] at h
    refine OEndsQ.icmpT hm_0 rfl (q := 584) rfl ((teq hc218).1) ?_
    refine OEndsQ.adv hm_0 2 (pc' := 587) (L' := [qr 0, qu, qu, qu, qi v4, qi v5, qi v6, qr 1, qi v8, qi v9, qu, qu, qu, qu, qu, qu, qu, qu, qu, qu, qi v20, qi 0, qu, qu, qu, qu, qu, qu, qu, qu]) (S' := []) (H' := (qa scr :: bk0 zah zt zu zr zw zy zz zaf zag zv zx zaa zs zae zab zad zac [])) rfl ?_
    exact ok_L_law_587 (k708 := f_L_law_708 kb scr) (ok_L_law_708 hkb) 100000 h
  · simp only [if_neg hc218] at h
    refine OEndsQ.icmpF hm_0 rfl ((feq hc218).1) ?_
    refine OEndsQ.adv hm_0 1 (pc' := 526) (L' := [qr 0, qu, qu, qu, qi v4, qi v5, qi v6, qr 1, qi v8, qi v9, qu, qu, qu, qu, qu, qu, qu, qu, qu, qu, qi v20, qu, qu, qu, qu, qu, qu, qu, qu, qu]) (S' := [.int 0]) (H' := (qa scr :: bk0 zah zt zu zr zw zy zz zaf zag zv zx zaa zs zae zab zad zac [])) rfl ?_
    cases h
    exact OEndsQ.iret hm_0 rfl rfl
theorem ok_L_law_495 {scr : List Int32} {kb : List Int32 → List Int32 → List Int32 → List Int32 → List Int32 → List Int32 → List Int32 → List Int32 → List Int32 → List Int32 → List Int32 → Int32 → Int32 → Int32 → Int32 → Int32 → Int32 → Int32 → Int32 → Int32 → Int32 → Option (Int32)} (hkb : ∀ {zt zu zr zw zy zz zaf zag zv zx zaa : List Int32} {zs zae zab zad zac v4 v5 v6 v8 v9 : Int32} {zah : List Int32} {d1 d2 d3 d10 d11 d12 d13 d14 d15 d16 d17 d18 d19 d20 d21 d22 d23 d24 d25 d26 d27 d28 d29 : Slot} {res : Int32}, kb zt zu zr zw zy zz zaf zag zv zx zaa zs zae zab zad zac v4 v5 v6 v8 v9 = some res → OEndsQ own_P 0 84 [qr 0, d1, d2, d3, qi v4, qi v5, qi v6, qr 1, qi v8, qi v9, d10, d11, d12, d13, d14, d15, d16, d17, d18, d19, d20, d21, d22, d23, d24, d25, d26, d27, d28, d29] [] (qa scr :: bk0 zah zt zu zr zw zy zz zaf zag zv zx zaa zs zae zab zad zac []) (LawQ res 0 0)) : ∀ {zt zu zr zw zy zz zaf zag zv zx zaa : List Int32} {zs zae zab zad zac v4 v5 v6 v8 v9 v11 v15 v16 v17 v18 v20 : Int32} {zah : List Int32} {d1 d2 d3 d10 d12 d13 d14 d19 d21 d22 d23 d24 d25 d26 d27 d28 d29 : Slot} {res : Int32}, f_L_law_495 kb scr zt zu zr zw zy zz zaf zag zv zx zaa zs zae zab zad zac v4 v5 v6 v8 v9 v11 v15 v16 v17 v18 v20 = some res → OEndsQ own_P 0 495 [qr 0, d1, d2, d3, qi v4, qi v5, qi v6, qr 1, qi v8, qi v9, d10, qi v11, d12, d13, d14, qi v15, qi v16, qi v17, qi v18, d19, qi v20, d21, d22, d23, d24, d25, d26, d27, d28, d29] [] (qa scr :: bk0 zah zt zu zr zw zy zz zaf zag zv zx zaa zs zae zab zad zac []) (LawQ res 0 0) := by
  intro zt zu zr zw zy zz zaf zag zv zx zaa zs zae zab zad zac v4 v5 v6 v8 v9 v11 v15 v16 v17 v18 v20 zah d1 d2 d3 d10 d12 d13 d14 d19 d21 d22 d23 d24 d25 d26 d27 d28 d29 res h
  unfold f_L_law_495 at h
  refine OEndsQ.adv hm_0 2 (pc' := 498) (L' := [qr 0, qu, qu, qu, qi v4, qi v5, qi v6, qr 1, qi v8, qi v9, qu, qi v11, qu, qu, qu, qi v15, qi v16, qi v17, qi v18, qu, qi v20, qu, qu, qu, qu, qu, qu, qu, qu, qu]) (S' := [.int 3, .int v11]) (H' := (qa scr :: bk0 zah zt zu zr zw zy zz zaf zag zv zx zaa zs zae zab zad zac [])) rfl ?_
  by_cases hc219 : (3 : Int32) < v11
  · simp only [if_pos hc219] at h
    refine OEndsQ.icmpT hm_0 rfl (q := 527) rfl ((tlt hc219).2.2.1) ?_
    refine OEndsQ.adv hm_0 2 (pc' := 530) (L' := [qr 0, qu, qu, qu, qi v4, qi v5, qi v6, qr 1, qi v8, qi v9, qu, qi v11, qu, qu, qu, qi v15, qi v16, qi v17, qi v18, qu, qi v20, qu, qu, qu, qu, qu, qu, qu, qu, qu]) (S' := [.int 4, .int v11]) (H' := (qa scr :: bk0 zah zt zu zr zw zy zz zaf zag zv zx zaa zs zae zab zad zac [])) rfl ?_
    by_cases hc220 : v11 = (4 : Int32)
    · simp only [if_pos hc220] at h
      refine OEndsQ.icmpF hm_0 rfl ((teq hc220).2) ?_
      refine OEndsQ.adv hm_0 5 (pc' := 543) (L' := [qr 0, qu, qu, qu, qi v4, qi v5, qi v6, qr 1, qi v8, qi v9, qu, qi v11, qu, qu, qu, qi v15, qi v16, qi v17, qi v18, qu, qi v20, qu, qu, qu, qu, qu, qu, qu, qu, qu]) (S' := [.int v17, .int v16, .int v15, .int v18, .ref 1]) (H' := (qa scr :: bk0 zah zt zu zr zw zy zz zaf zag zv zx zaa zs zae zab zad zac [])) rfl ?_
      obtain ⟨⟨r219, s220, s221, s222, s223, s224, s225⟩, hq221, h⟩ := bnd h
      refine OEndsQ.call0 hm_0 rfl rfl (by decide) rfl (as := [.ref 1, .int v18, .int v15, .int v16, .int v17]) (rest := []) rfl rfl (ok_amend hq221) ?_
      show OEndsQ own_P 0 546 [qr 0, qu, qu, qu, qi v4, qi v5, qi v6, qr 1, qi v8, qi v9, qu, qi v11, qu, qu, qu, qi v15, qi v16, qi v17, qi v18, qu, qi v20, qu, qu, qu, qu, qu, qu, qu, qu, qu] [.int r219] (qa scr :: bk0 zah zt zu zr s220 s221 s222 s223 s224 zv zx zaa zs zae zab s225 zac []) _
      by_cases hc222 : r219 = (0 : Int32)
      · simp only [if_pos hc222] at h
        refine OEndsQ.ifF hm_0 rfl ((teq hc222).2) ?_
        refine OEndsQ.adv hm_0 2 (pc' := 554) (L' := [qr 0, qu, qu, qu, qi v4, qi v5, qi v6, qr 1, qi v8, qi v9, qu, qi v11, qu, qu, qu, qi v15, qi v16, qi v17, qi v18, qu, qi v20, qu, qu, qu, qu, qu, qu, qu, qu, qu]) (S' := [.int 1]) (H' := (qa scr :: bk0 zah zt zu zr s220 s221 s222 s223 s224 zv zx zaa zs zae zab s225 zac [])) rfl ?_
        exact ok_L_law_554 hkb h
      · simp only [if_neg hc222] at h
        refine OEndsQ.ifT hm_0 rfl (q := 553) rfl ((feq hc222).2) ?_
        refine OEndsQ.adv hm_0 1 (pc' := 554) (L' := [qr 0, qu, qu, qu, qi v4, qi v5, qi v6, qr 1, qi v8, qi v9, qu, qi v11, qu, qu, qu, qi v15, qi v16, qi v17, qi v18, qu, qi v20, qu, qu, qu, qu, qu, qu, qu, qu, qu]) (S' := [.int 0]) (H' := (qa scr :: bk0 zah zt zu zr s220 s221 s222 s223 s224 zv zx zaa zs zae zab s225 zac [])) rfl ?_
        exact ok_L_law_554 hkb h
    · simp only [if_neg hc220] at h
      refine OEndsQ.icmpT hm_0 rfl (q := 561) rfl ((feq hc220).2) ?_
      refine OEndsQ.adv hm_0 2 (pc' := 564) (L' := [qr 0, qu, qu, qu, qi v4, qi v5, qi v6, qr 1, qi v8, qi v9, qu, qi v11, qu, qu, qu, qi v15, qi v16, qi v17, qi v18, qu, qi v20, qu, qu, qu, qu, qu, qu, qu, qu, qu]) (S' := [.int 5, .int v11]) (H' := (qa scr :: bk0 zah zt zu zr zw zy zz zaf zag zv zx zaa zs zae zab zad zac [])) rfl ?_
      by_cases hc223 : v11 = (5 : Int32)
      · simp only [if_pos hc223] at h
        refine OEndsQ.icmpF hm_0 rfl ((teq hc223).2) ?_
        refine OEndsQ.adv hm_0 2 (pc' := 571) (L' := [qr 0, qu, qu, qu, qi v4, qi v5, qi v6, qr 1, qi v8, qi v9, qu, qi v11, qu, qu, qu, qi v15, qi v16, qi v17, qi v18, qu, qi v20, qu, qu, qu, qu, qu, qu, qu, qu, qu]) (S' := [.int v18, .ref 1]) (H' := (qa scr :: bk0 zah zt zu zr zw zy zz zaf zag zv zx zaa zs zae zab zad zac [])) rfl ?_
        obtain ⟨⟨r210, s211, s212, s213, s214, s215, s216, s217, s218⟩, hq224, h⟩ := bnd h
        refine OEndsQ.call0 hm_0 rfl rfl (by decide) rfl (as := [.ref 1, .int v18]) (rest := []) rfl rfl (ok_cancel hq224) ?_
        refine OEndsQ.adv hm_0 4 (pc' := 587) (L' := [qr 0, qu, qu, qu, qi v4, qi v5, qi v6, qr 1, qi v8, qi v9, qu, qi v11, qu, qu, qu, qi v15, qi v16, qi v17, qi v18, qu, qi v20, qi 0, qu, qu, qu, qu, qu, qu, qu, qu]) (S' := []) (H' := (qa scr :: bk0 zah zt zu s211 s212 s213 s214 s215 s216 zv zx zaa zs s217 zab s218 zac [])) rfl ?_
        exact ok_L_law_587 (k708 := f_L_law_708 kb scr) (ok_L_law_708 hkb) 100000 h
      · simp only [if_neg hc223] at h
        refine OEndsQ.icmpT hm_0 rfl (q := 578) rfl ((feq hc223).2) ?_
        refine OEndsQ.adv hm_0 1 (pc' := 580) (L' := [qr 0, qu, qu, qu, qi v4, qi v5, qi v6, qr 1, qi v8, qi v9, qu, qi v11, qu, qu, qu, qi v15, qi v16, qi v17, qi v18, qu, qi v20, qu, qu, qu, qu, qu, qu, qu, qu, qu]) (S' := [.ref 1]) (H' := (qa scr :: bk0 zah zt zu zr zw zy zz zaf zag zv zx zaa zs zae zab zad zac [])) rfl ?_
        obtain ⟨⟨r203, s204, s205, s206, s207, s208, s209⟩, hq225, h⟩ := bnd h
        refine OEndsQ.call0 hm_0 rfl rfl (by decide) rfl (as := [.ref 1]) (rest := []) rfl rfl (ok_assign hq225) ?_
        refine OEndsQ.adv hm_0 3 (pc' := 587) (L' := [qr 0, qu, qu, qu, qi v4, qi v5, qi v6, qr 1, qi v8, qi v9, qu, qi v11, qu, qu, qu, qi v15, qi v16, qi v17, qi v18, qu, qi v20, qi 0, qu, qu, qu, qu, qu, qu, qu, qu]) (S' := []) (H' := (qa scr :: bk0 zah zt zu zr zw zy zz zaf zag s204 s205 s206 zs zae s207 s208 s209 [])) rfl ?_
        exact ok_L_law_587 (k708 := f_L_law_708 kb scr) (ok_L_law_708 hkb) 100000 h
  · simp only [if_neg hc219] at h
    refine OEndsQ.icmpF hm_0 rfl ((flt hc219).2.2.1) ?_
    refine OEndsQ.adv hm_0 4 (pc' := 509) (L' := [qr 0, qu, qu, qu, qi v4, qi v5, qi v6, qr 1, qi v8, qi v9, qu, qi v11, qu, qu, qu, qi v15, qi v16, qi v17, qi v18, qu, qi v20, qu, qu, qu, qu, qu, qu, qu, qu, qu]) (S' := [.int v17, .int v16, .int v15, .ref 1]) (H' := (qa scr :: bk0 zah zt zu zr zw zy zz zaf zag zv zx zaa zs zae zab zad zac [])) rfl ?_
    obtain ⟨⟨r226, s227, s228, s229, s230, s231, s232, s233, s234⟩, hq226, h⟩ := bnd h
    refine OEndsQ.call0 hm_0 rfl rfl (by decide) rfl (as := [.ref 1, .int v15, .int v16, .int v17]) (rest := []) rfl rfl (ok_book hq226) ?_
    show OEndsQ own_P 0 512 [qr 0, qu, qu, qu, qi v4, qi v5, qi v6, qr 1, qi v8, qi v9, qu, qi v11, qu, qu, qu, qi v15, qi v16, qi v17, qi v18, qu, qi v20, qu, qu, qu, qu, qu, qu, qu, qu, qu] [.int r226] (qa scr :: bk0 zah zt zu s227 s228 s229 s230 s231 s232 zv zx zaa zs s233 zab s234 zac []) _
    by_cases hc227 : r226 < (0 : Int32)
    · simp only [if_pos hc227] at h
      refine OEndsQ.ifT hm_0 rfl (q := 519) rfl ((tlt hc227).1) ?_
      refine OEndsQ.adv hm_0 1 (pc' := 520) (L' := [qr 0, qu, qu, qu, qi v4, qi v5, qi v6, qr 1, qi v8, qi v9, qu, qi v11, qu, qu, qu, qi v15, qi v16, qi v17, qi v18, qu, qi v20, qu, qu, qu, qu, qu, qu, qu, qu, qu]) (S' := [.int 0]) (H' := (qa scr :: bk0 zah zt zu s227 s228 s229 s230 s231 s232 zv zx zaa zs s233 zab s234 zac [])) rfl ?_
      exact ok_L_law_520 hkb h
    · simp only [if_neg hc227] at h
      refine OEndsQ.ifF hm_0 rfl ((flt hc227).1) ?_
      refine OEndsQ.adv hm_0 2 (pc' := 520) (L' := [qr 0, qu, qu, qu, qi v4, qi v5, qi v6, qr 1, qi v8, qi v9, qu, qi v11, qu, qu, qu, qi v15, qi v16, qi v17, qi v18, qu, qi v20, qu, qu, qu, qu, qu, qu, qu, qu, qu]) (S' := [.int 1]) (H' := (qa scr :: bk0 zah zt zu s227 s228 s229 s230 s231 s232 zv zx zaa zs s233 zab s234 zac [])) rfl ?_
      exact ok_L_law_520 hkb h
theorem ok_L_law_423 {scr : List Int32} {kb : List Int32 → List Int32 → List Int32 → List Int32 → List Int32 → List Int32 → List Int32 → List Int32 → List Int32 → List Int32 → List Int32 → Int32 → Int32 → Int32 → Int32 → Int32 → Int32 → Int32 → Int32 → Int32 → Int32 → Option (Int32)} (hkb : ∀ {zt zu zr zw zy zz zaf zag zv zx zaa : List Int32} {zs zae zab zad zac v4 v5 v6 v8 v9 : Int32} {zah : List Int32} {d1 d2 d3 d10 d11 d12 d13 d14 d15 d16 d17 d18 d19 d20 d21 d22 d23 d24 d25 d26 d27 d28 d29 : Slot} {res : Int32}, kb zt zu zr zw zy zz zaf zag zv zx zaa zs zae zab zad zac v4 v5 v6 v8 v9 = some res → OEndsQ own_P 0 84 [qr 0, d1, d2, d3, qi v4, qi v5, qi v6, qr 1, qi v8, qi v9, d10, d11, d12, d13, d14, d15, d16, d17, d18, d19, d20, d21, d22, d23, d24, d25, d26, d27, d28, d29] [] (qa scr :: bk0 zah zt zu zr zw zy zz zaf zag zv zx zaa zs zae zab zad zac []) (LawQ res 0 0)) : ∀ {zt zu zr zw zy zz zaf zag zv zx zaa : List Int32} {zs zae zab zad zac v4 v5 v6 v8 v9 v11 v15 v16 v17 v18 v19 v22 v23 : Int32} {zah : List Int32} {d1 d2 d3 d10 d12 d13 d14 d20 d21 d24 d25 d26 d27 d28 d29 : Slot} {res : Int32}, f_L_law_423 kb scr zt zu zr zw zy zz zaf zag zv zx zaa zs zae zab zad zac v4 v5 v6 v8 v9 v11 v15 v16 v17 v18 v19 v22 v23 = some res → OEndsQ own_P 0 423 [qr 0, d1, d2, d3, qi v4, qi v5, qi v6, qr 1, qi v8, qi v9, d10, qi v11, d12, d13, d14, qi v15, qi v16, qi v17, qi v18, qi v19, d20, d21, qi v22, qi v23, d24, d25, d26, d27, d28, d29] [] (qa scr :: bk0 zah zt zu zr zw zy zz zaf zag zv zx zaa zs zae zab zad zac []) (LawQ res 0 0) := by
  intro zt zu zr zw zy zz zaf zag zv zx zaa zs zae zab zad zac v4 v5 v6 v8 v9 v11 v15 v16 v17 v18 v19 v22 v23 zah d1 d2 d3 d10 d12 d13 d14 d20 d21 d24 d25 d26 d27 d28 d29 res h
  unfold f_L_law_423 at h
  refine OEndsQ.adv hm_0 2 (pc' := 426) (L' := [qr 0, qu, qu, qu, qi v4, qi v5, qi v6, qr 1, qi v8, qi v9, qu, qi v11, qu, qu, qu, qi v15, qi v16, qi v17, qi v18, qi v19, qu, qu, qi v22, qi v23, qu, qu, qu, qu, qu, qu]) (S' := [.int 3, .int v11]) (H' := (qa scr :: bk0 zah zt zu zr zw zy zz zaf zag zv zx zaa zs zae zab zad zac [])) rfl ?_
  by_cases hc228 : (3 : Int32) < v11
  · simp only [if_pos hc228] at h
    refine OEndsQ.icmpT hm_0 rfl (q := 456) rfl ((tlt hc228).2.2.1) ?_
    refine OEndsQ.adv hm_0 1 (pc' := 458) (L' := [qr 0, qu, qu, qu, qi v4, qi v5, qi v6, qr 1, qi v8, qi v9, qu, qi v11, qu, qu, qu, qi v15, qi v16, qi v17, qi v18, qi v19, qu, qu, qi v22, qi v23, qu, qu, qu, qu, qu, qu]) (S' := [.int v18]) (H' := (qa scr :: bk0 zah zt zu zr zw zy zz zaf zag zv zx zaa zs zae zab zad zac [])) rfl ?_
    by_cases hc229 : v18 < (0 : Int32)
    · simp only [if_pos hc229] at h
      refine OEndsQ.ifT hm_0 rfl (q := 492) rfl ((tlt hc229).1) ?_
      refine OEndsQ.adv hm_0 2 (pc' := 495) (L' := [qr 0, qu, qu, qu, qi v4, qi v5, qi v6, qr 1, qi v8, qi v9, qu, qi v11, qu, qu, qu, qi v15, qi v16, qi v17, qi v18, qi v19, qi 0, qu, qi v22, qi v23, qu, qu, qu, qu, qu, qu]) (S' := []) (H' := (qa scr :: bk0 zah zt zu zr zw zy zz zaf zag zv zx zaa zs zae zab zad zac [])) rfl ?_
      exact ok_L_law_495 hkb h
    · simp only [if_neg hc229] at h
      refine OEndsQ.ifF hm_0 rfl ((flt hc229).1) ?_
      refine OEndsQ.adv hm_0 2 (pc' := 465) (L' := [qr 0, qu, qu, qu, qi v4, qi v5, qi v6, qr 1, qi v8, qi v9, qu, qi v11, qu, qu, qu, qi v15, qi v16, qi v17, qi v18, qi v19, qu, qu, qi v22, qi v23, qu, qu, qu, qu, qu, qu]) (S' := [.int 31, .int v18]) (H' := (qa scr :: bk0 zah zt zu zr zw zy zz zaf zag zv zx zaa zs zae zab zad zac [])) rfl ?_
      by_cases hc230 : (31 : Int32) < v18
      · simp only [if_pos hc230] at h
        refine OEndsQ.icmpT hm_0 rfl (q := 492) rfl ((tlt hc230).2.2.1) ?_
        refine OEndsQ.adv hm_0 2 (pc' := 495) (L' := [qr 0, qu, qu, qu, qi v4, qi v5, qi v6, qr 1, qi v8, qi v9, qu, qi v11, qu, qu, qu, qi v15, qi v16, qi v17, qi v18, qi v19, qi 0, qu, qi v22, qi v23, qu, qu, qu, qu, qu, qu]) (S' := []) (H' := (qa scr :: bk0 zah zt zu zr zw zy zz zaf zag zv zx zaa zs zae zab zad zac [])) rfl ?_
        exact ok_L_law_495 hkb h
      · simp only [if_neg hc230] at h
        refine OEndsQ.icmpF hm_0 rfl ((flt hc230).2.2.1) ?_
        refine OEndsQ.adv hm_0 2 (pc' := 472) (L' := [qr 0, qu, qu, qu, qi v4, qi v5, qi v6, qr 1, qi v8, qi v9, qu, qi v11, qu, qu, qu, qi v15, qi v16, qi v17, qi v18, qi v19, qu, qu, qi v22, qi v23, qu, qu, qu, qu, qu, qu]) (S' := [.int v18, .ref 1]) (H' := (qa scr :: bk0 zah zt zu zr zw zy zz zaf zag zv zx zaa zs zae zab zad zac [])) rfl ?_
        obtain ⟨r202, hq231, h⟩ := bnd h
        refine OEndsQ.call0 hm_0 rfl rfl (by decide) rfl (as := [.ref 1, .int v18]) (rest := []) rfl rfl (ok_stayType hq231) ?_
        show OEndsQ own_P 0 475 [qr 0, qu, qu, qu, qi v4, qi v5, qi v6, qr 1, qi v8, qi v9, qu, qi v11, qu, qu, qu, qi v15, qi v16, qi v17, qi v18, qi v19, qu, qu, qi v22, qi v23, qu, qu, qu, qu, qu, qu] [.int r202] (qa scr :: bk0 zah zt zu zr zw zy zz zaf zag zv zx zaa zs zae zab zad zac []) _
        by_cases hc232 : r202 < (0 : Int32)
        · simp only [if_pos hc232] at h
          refine OEndsQ.ifT hm_0 rfl (q := 492) rfl ((tlt hc232).1) ?_
          refine OEndsQ.adv hm_0 2 (pc' := 495) (L' := [qr 0, qu, qu, qu, qi v4, qi v5, qi v6, qr 1, qi v8, qi v9, qu, qi v11, qu, qu, qu, qi v15, qi v16, qi v17, qi v18, qi v19, qi 0, qu, qi v22, qi v23, qu, qu, qu, qu, qu, qu]) (S' := []) (H' := (qa scr :: bk0 zah zt zu zr zw zy zz zaf zag zv zx zaa zs zae zab zad zac [])) rfl ?_
          exact ok_L_law_495 hkb h
        · simp only [if_neg hc232] at h
          refine OEndsQ.ifF hm_0 rfl ((flt hc232).1) ?_
          refine OEndsQ.adv hm_0 1 (pc' := 480) (L' := [qr 0, qu, qu, qu, qi v4, qi v5, qi v6, qr 1, qi v8, qi v9, qu, qi v11, qu, qu, qu, qi v15, qi v16, qi v17, qi v18, qi v19, qu, qu, qi v22, qi v23, qu, qu, qu, qu, qu, qu]) (S' := [.int v19]) (H' := (qa scr :: bk0 zah zt zu zr zw zy zz zaf zag zv zx zaa zs zae zab zad zac [])) rfl ?_
          by_cases hc233 : v19 = (0 : Int32)
          · simp only [if_pos hc233] at h
            refine OEndsQ.ifT hm_0 rfl (q := 492) rfl ((teq hc233).1) ?_
            refine OEndsQ.adv hm_0 2 (pc' := 495) (L' := [qr 0, qu, qu, qu, qi v4, qi v5, qi v6, qr 1, qi v8, qi v9, qu, qi v11, qu, qu, qu, qi v15, qi v16, qi v17, qi v18, qi v19, qi 0, qu, qi v22, qi v23, qu, qu, qu, qu, qu, qu]) (S' := []) (H' := (qa scr :: bk0 zah zt zu zr zw zy zz zaf zag zv zx zaa zs zae zab zad zac [])) rfl ?_
            exact ok_L_law_495 hkb h
          · simp only [if_neg hc233] at h
            refine OEndsQ.ifF hm_0 rfl ((feq hc233).1) ?_
            refine OEndsQ.adv hm_0 1 (pc' := 485) (L' := [qr 0, qu, qu, qu, qi v4, qi v5, qi v6, qr 1, qi v8, qi v9, qu, qi v11, qu, qu, qu, qi v15, qi v16, qi v17, qi v18, qi v19, qu, qu, qi v22, qi v23, qu, qu, qu, qu, qu, qu]) (S' := [.int v23]) (H' := (qa scr :: bk0 zah zt zu zr zw zy zz zaf zag zv zx zaa zs zae zab zad zac [])) rfl ?_
            by_cases hc234 : v23 = (0 : Int32)
            · simp only [if_pos hc234] at h
              refine OEndsQ.ifT hm_0 rfl (q := 492) rfl ((teq hc234).1) ?_
              refine OEndsQ.adv hm_0 2 (pc' := 495) (L' := [qr 0, qu, qu, qu, qi v4, qi v5, qi v6, qr 1, qi v8, qi v9, qu, qi v11, qu, qu, qu, qi v15, qi v16, qi v17, qi v18, qi v19, qi 0, qu, qi v22, qi v23, qu, qu, qu, qu, qu, qu]) (S' := []) (H' := (qa scr :: bk0 zah zt zu zr zw zy zz zaf zag zv zx zaa zs zae zab zad zac [])) rfl ?_
              exact ok_L_law_495 hkb h
            · simp only [if_neg hc234] at h
              refine OEndsQ.ifF hm_0 rfl ((feq hc234).1) ?_
              refine OEndsQ.adv hm_0 3 (pc' := 495) (L' := [qr 0, qu, qu, qu, qi v4, qi v5, qi v6, qr 1, qi v8, qi v9, qu, qi v11, qu, qu, qu, qi v15, qi v16, qi v17, qi v18, qi v19, qi 1, qu, qi v22, qi v23, qu, qu, qu, qu, qu, qu]) (S' := []) (H' := (qa scr :: bk0 zah zt zu zr zw zy zz zaf zag zv zx zaa zs zae zab zad zac [])) rfl ?_
              exact ok_L_law_495 hkb h
  · simp only [if_neg hc228] at h
    refine OEndsQ.icmpF hm_0 rfl ((flt hc228).2.2.1) ?_
    refine OEndsQ.adv hm_0 1 (pc' := 431) (L' := [qr 0, qu, qu, qu, qi v4, qi v5, qi v6, qr 1, qi v8, qi v9, qu, qi v11, qu, qu, qu, qi v15, qi v16, qi v17, qi v18, qi v19, qu, qu, qi v22, qi v23, qu, qu, qu, qu, qu, qu]) (S' := [.int v19]) (H' := (qa scr :: bk0 zah zt zu zr zw zy zz zaf zag zv zx zaa zs zae zab zad zac [])) rfl ?_
    by_cases hc235 : v19 = (0 : Int32)
    · simp only [if_pos hc235] at h
      refine OEndsQ.ifT hm_0 rfl (q := 450) rfl ((teq hc235).1) ?_
      refine OEndsQ.adv hm_0 3 (pc' := 495) (L' := [qr 0, qu, qu, qu, qi v4, qi v5, qi v6, qr 1, qi v8, qi v9, qu, qi v11, qu, qu, qu, qi v15, qi v16, qi v17, qi v18, qi v19, qi 0, qu, qi v22, qi v23, qu, qu, qu, qu, qu, qu]) (S' := []) (H' := (qa scr :: bk0 zah zt zu zr zw zy zz zaf zag zv zx zaa zs zae zab zad zac [])) rfl ?_
      exact ok_L_law_495 hkb h
    · simp only [if_neg hc235] at h
      refine OEndsQ.ifF hm_0 rfl ((feq hc235).1) ?_
      refine OEndsQ.adv hm_0 2 (pc' := 438) (L' := [qr 0, qu, qu, qu, qi v4, qi v5, qi v6, qr 1, qi v8, qi v9, qu, qi v11, qu, qu, qu, qi v15, qi v16, qi v17, qi v18, qi v19, qu, qu, qi v22, qi v23, qu, qu, qu, qu, qu, qu]) (S' := [.int 32, .int v22]) (H' := (qa scr :: bk0 zah zt zu zr zw zy zz zaf zag zv zx zaa zs zae zab zad zac [])) rfl ?_
      by_cases hc236 : v22 < (32 : Int32)
      · simp only [if_pos hc236] at h
        refine OEndsQ.icmpF hm_0 rfl ((tlt hc236).2.1) ?_
        refine OEndsQ.adv hm_0 1 (pc' := 443) (L' := [qr 0, qu, qu, qu, qi v4, qi v5, qi v6, qr 1, qi v8, qi v9, qu, qi v11, qu, qu, qu, qi v15, qi v16, qi v17, qi v18, qi v19, qu, qu, qi v22, qi v23, qu, qu, qu, qu, qu, qu]) (S' := [.int v23]) (H' := (qa scr :: bk0 zah zt zu zr zw zy zz zaf zag zv zx zaa zs zae zab zad zac [])) rfl ?_
        by_cases hc237 : v23 = (0 : Int32)
        · simp only [if_pos hc237] at h
          refine OEndsQ.ifT hm_0 rfl (q := 450) rfl ((teq hc237).1) ?_
          refine OEndsQ.adv hm_0 3 (pc' := 495) (L' := [qr 0, qu, qu, qu, qi v4, qi v5, qi v6, qr 1, qi v8, qi v9, qu, qi v11, qu, qu, qu, qi v15, qi v16, qi v17, qi v18, qi v19, qi 0, qu, qi v22, qi v23, qu, qu, qu, qu, qu, qu]) (S' := []) (H' := (qa scr :: bk0 zah zt zu zr zw zy zz zaf zag zv zx zaa zs zae zab zad zac [])) rfl ?_
          exact ok_L_law_495 hkb h
        · simp only [if_neg hc237] at h
          refine OEndsQ.ifF hm_0 rfl ((feq hc237).1) ?_
          refine OEndsQ.adv hm_0 4 (pc' := 495) (L' := [qr 0, qu, qu, qu, qi v4, qi v5, qi v6, qr 1, qi v8, qi v9, qu, qi v11, qu, qu, qu, qi v15, qi v16, qi v17, qi v18, qi v19, qi 1, qu, qi v22, qi v23, qu, qu, qu, qu, qu, qu]) (S' := []) (H' := (qa scr :: bk0 zah zt zu zr zw zy zz zaf zag zv zx zaa zs zae zab zad zac [])) rfl ?_
          exact ok_L_law_495 hkb h
      · simp only [if_neg hc236] at h
        refine OEndsQ.icmpT hm_0 rfl (q := 450) rfl ((flt hc236).2.1) ?_
        refine OEndsQ.adv hm_0 3 (pc' := 495) (L' := [qr 0, qu, qu, qu, qi v4, qi v5, qi v6, qr 1, qi v8, qi v9, qu, qi v11, qu, qu, qu, qi v15, qi v16, qi v17, qi v18, qi v19, qi 0, qu, qi v22, qi v23, qu, qu, qu, qu, qu, qu]) (S' := []) (H' := (qa scr :: bk0 zah zt zu zr zw zy zz zaf zag zv zx zaa zs zae zab zad zac [])) rfl ?_
        exact ok_L_law_495 hkb h
theorem ok_L_law_393 {scr : List Int32} {kb : List Int32 → List Int32 → List Int32 → List Int32 → List Int32 → List Int32 → List Int32 → List Int32 → List Int32 → List Int32 → List Int32 → Int32 → Int32 → Int32 → Int32 → Int32 → Int32 → Int32 → Int32 → Int32 → Int32 → Int32 → Int32 → Int32 → Int32 → Int32 → Int32 → Int32 → Int32 → Int32 → Int32 → Option (Int32)} {k423 : List Int32 → List Int32 → List Int32 → List Int32 → List Int32 → List Int32 → List Int32 → List Int32 → List Int32 → List Int32 → List Int32 → Int32 → Int32 → Int32 → Int32 → Int32 → Int32 → Int32 → Int32 → Int32 → Int32 → Int32 → Int32 → Int32 → Int32 → Int32 → Int32 → Int32 → Int32 → Option (Int32)} (hkb : ∀ {zt zu zr zw zy zz zaf zag zv zx zaa : List Int32} {zs zae zab zad zac v4 v5 v6 v8 v9 v11 v15 v16 v17 v18 v19 v21 v22 v23 v24 : Int32} {zah : List Int32} {d1 d2 d3 d10 d12 d13 d14 d20 d25 d26 d27 d28 d29 : Slot} {res : Int32}, kb zt zu zr zw zy zz zaf zag zv zx zaa zs zae zab zad zac v4 v5 v6 v8 v9 v11 v15 v16 v17 v18 v19 v21 v22 v23 v24 = some res → OEndsQ own_P 0 245 [qr 0, d1, d2, d3, qi v4, qi v5, qi v6, qr 1, qi v8, qi v9, d10, qi v11, d12, d13, d14, qi v15, qi v16, qi v17, qi v18, qi v19, d20, qi v21, qi v22, qi v23, qi v24, d25, d26, d27, d28, d29] [] (qa scr :: bk0 zah zt zu zr zw zy zz zaf zag zv zx zaa zs zae zab zad zac []) (LawQ res 0 0)) (hk423 : ∀ {zt zu zr zw zy zz zaf zag zv zx zaa : List Int32} {zs zae zab zad zac v4 v5 v6 v8 v9 v11 v15 v16 v17 v18 v19 v22 v23 : Int32} {zah : List Int32} {d1 d2 d3 d10 d12 d13 d14 d20 d21 d24 d25 d26 d27 d28 d29 : Slot} {res : Int32}, k423 zt zu zr zw zy zz zaf zag zv zx zaa zs zae zab zad zac v4 v5 v6 v8 v9 v11 v15 v16 v17 v18 v19 v22 v23 = some res → OEndsQ own_P 0 423 [qr 0, d1, d2, d3, qi v4, qi v5, qi v6, qr 1, qi v8, qi v9, d10, qi v11, d12, d13, d14, qi v15, qi v16, qi v17, qi v18, qi v19, d20, d21, qi v22, qi v23, d24, d25, d26, d27, d28, d29] [] (qa scr :: bk0 zah zt zu zr zw zy zz zaf zag zv zx zaa zs zae zab zad zac []) (LawQ res 0 0)) : ∀ {zt zu zr zw zy zz zaf zag zv zx zaa : List Int32} {zs zae zab zad zac v4 v5 v6 v8 v9 v11 v15 v16 v17 v18 v19 v21 v22 v23 v24 v25 v26 v27 : Int32} {zah : List Int32} {d1 d2 d3 d10 d12 d13 d14 d20 d28 d29 : Slot} {res : Int32}, f_L_law_393 kb k423 scr zt zu zr zw zy zz zaf zag zv zx zaa zs zae zab zad zac v4 v5 v6 v8 v9 v11 v15 v16 v17 v18 v19 v21 v22 v23 v24 v25 v26 v27 = some res → OEndsQ own_P 0 393 [qr 0, d1, d2, d3, qi v4, qi v5, qi v6, qr 1, qi v8, qi v9, d10, qi v11, d12, d13, d14, qi v15, qi v16, qi v17, qi v18, qi v19, d20, qi v21, qi v22, qi v23, qi v24, qi v25, qi v26, qi v27, d28, d29] [] (qa scr :: bk0 zah zt zu zr zw zy zz zaf zag zv zx zaa zs zae zab zad zac []) (LawQ res 0 0) := by
  intro zt zu zr zw zy zz zaf zag zv zx zaa zs zae zab zad zac v4 v5 v6 v8 v9 v11 v15 v16 v17 v18 v19 v21 v22 v23 v24 v25 v26 v27 zah d1 d2 d3 d10 d12 d13 d14 d20 d28 d29 res h
  unfold f_L_law_393 at h
  refine OEndsQ.adv hm_0 2 (pc' := 397) (L' := [qr 0, qu, qu, qu, qi v4, qi v5, qi v6, qr 1, qi v8, qi v9, qu, qi v11, qu, qu, qu, qi v15, qi v16, qi v17, qi v18, qi v19, qu, qi v21, qi v22, qi v23, qi v24, qi v25, qi v26, qi v27, qu, qu]) (S' := [.int v4, .int v25]) (H' := (qa scr :: bk0 zah zt zu zr zw zy zz zaf zag zv zx zaa zs zae zab zad zac [])) rfl ?_
  by_cases hc238 : v4 < v25
  · simp only [if_pos hc238] at h
    refine OEndsQ.icmpT hm_0 rfl (q := 414) rfl ((tlt hc238).2.2.1) ?_
    refine OEndsQ.adv hm_0 4 (pc' := 245) (L' := [qr 0, qu, qu, qu, qi v4, qi v5, qi v6, qr 1, qi v8, qi v9, qu, qi v11, qu, qu, qu, qi v15, qi v16, qi v17, qi v18, qi v19, qu, qi v21, qi v22, qi 0, qi (v24 + (1 : Int32)), qi v25, qi v26, qi v27, qu, qu]) (S' := []) (H' := (qa scr :: bk0 zah zt zu zr zw zy zz zaf zag zv zx zaa zs zae zab zad zac [])) rfl ?_
    exact hkb h
  · simp only [if_neg hc238] at h
    refine OEndsQ.icmpF hm_0 rfl ((flt hc238).2.2.1) ?_
    refine OEndsQ.adv hm_0 2 (pc' := 404) (L' := [qr 0, qu, qu, qu, qi v4, qi v5, qi v6, qr 1, qi v8, qi v9, qu, qi v11, qu, qu, qu, qi v15, qi v16, qi v17, qi v18, qi v19, qu, qi v21, qi v22, qi v23, qi v24, qi v25, qi v26, qi v27, qu, qu]) (S' := [.int v5, .int v26]) (H' := (qa scr :: bk0 zah zt zu zr zw zy zz zaf zag zv zx zaa zs zae zab zad zac [])) rfl ?_
    by_cases hc239 : v5 < v26
    · simp only [if_pos hc239] at h
      refine OEndsQ.icmpT hm_0 rfl (q := 414) rfl ((tlt hc239).2.2.1) ?_
      refine OEndsQ.adv hm_0 4 (pc' := 245) (L' := [qr 0, qu, qu, qu, qi v4, qi v5, qi v6, qr 1, qi v8, qi v9, qu, qi v11, qu, qu, qu, qi v15, qi v16, qi v17, qi v18, qi v19, qu, qi v21, qi v22, qi 0, qi (v24 + (1 : Int32)), qi v25, qi v26, qi v27, qu, qu]) (S' := []) (H' := (qa scr :: bk0 zah zt zu zr zw zy zz zaf zag zv zx zaa zs zae zab zad zac [])) rfl ?_
      exact hkb h
    · simp only [if_neg hc239] at h
      refine OEndsQ.icmpF hm_0 rfl ((flt hc239).2.2.1) ?_
      refine OEndsQ.adv hm_0 2 (pc' := 411) (L' := [qr 0, qu, qu, qu, qi v4, qi v5, qi v6, qr 1, qi v8, qi v9, qu, qi v11, qu, qu, qu, qi v15, qi v16, qi v17, qi v18, qi v19, qu, qi v21, qi v22, qi v23, qi v24, qi v25, qi v26, qi v27, qu, qu]) (S' := [.int v6, .int v27]) (H' := (qa scr :: bk0 zah zt zu zr zw zy zz zaf zag zv zx zaa zs zae zab zad zac [])) rfl ?_
      by_cases hc240 : v6 < v27
      · simp only [if_pos hc240] at h
        refine OEndsQ.icmpF hm_0 rfl ((tlt hc240).2.2.2) ?_
        refine OEndsQ.adv hm_0 4 (pc' := 245) (L' := [qr 0, qu, qu, qu, qi v4, qi v5, qi v6, qr 1, qi v8, qi v9, qu, qi v11, qu, qu, qu, qi v15, qi v16, qi v17, qi v18, qi v19, qu, qi v21, qi v22, qi 0, qi (v24 + (1 : Int32)), qi v25, qi v26, qi v27, qu, qu]) (S' := []) (H' := (qa scr :: bk0 zah zt zu zr zw zy zz zaf zag zv zx zaa zs zae zab zad zac [])) rfl ?_
        exact hkb h
      · simp only [if_neg hc240] at h
        refine OEndsQ.icmpT hm_0 rfl (q := 417) rfl ((flt hc240).2.2.2) ?_
        refine OEndsQ.adv hm_0 2 (pc' := 245) (L' := [qr 0, qu, qu, qu, qi v4, qi v5, qi v6, qr 1, qi v8, qi v9, qu, qi v11, qu, qu, qu, qi v15, qi v16, qi v17, qi v18, qi v19, qu, qi v21, qi v22, qi v23, qi (v24 + (1 : Int32)), qi v25, qi v26, qi v27, qu, qu]) (S' := []) (H' := (qa scr :: bk0 zah zt zu zr zw zy zz zaf zag zv zx zaa zs zae zab zad zac [])) rfl ?_
        exact hkb h
theorem ok_L_law_384 {scr : List Int32} {kb : List Int32 → List Int32 → List Int32 → List Int32 → List Int32 → List Int32 → List Int32 → List Int32 → List Int32 → List Int32 → List Int32 → Int32 → Int32 → Int32 → Int32 → Int32 → Int32 → Int32 → Int32 → Int32 → Int32 → Int32 → Int32 → Int32 → Int32 → Int32 → Int32 → Int32 → Int32 → Int32 → Int32 → Option (Int32)} {k423 : List Int32 → List Int32 → List Int32 → List Int32 → List Int32 → List Int32 → List Int32 → List Int32 → List Int32 → List Int32 → List Int32 → Int32 → Int32 → Int32 → Int32 → Int32 → Int32 → Int32 → Int32 → Int32 → Int32 → Int32 → Int32 → Int32 → Int32 → Int32 → Int32 → Int32 → Int32 → Option (Int32)} (hkb : ∀ {zt zu zr zw zy zz zaf zag zv zx zaa : List Int32} {zs zae zab zad zac v4 v5 v6 v8 v9 v11 v15 v16 v17 v18 v19 v21 v22 v23 v24 : Int32} {zah : List Int32} {d1 d2 d3 d10 d12 d13 d14 d20 d25 d26 d27 d28 d29 : Slot} {res : Int32}, kb zt zu zr zw zy zz zaf zag zv zx zaa zs zae zab zad zac v4 v5 v6 v8 v9 v11 v15 v16 v17 v18 v19 v21 v22 v23 v24 = some res → OEndsQ own_P 0 245 [qr 0, d1, d2, d3, qi v4, qi v5, qi v6, qr 1, qi v8, qi v9, d10, qi v11, d12, d13, d14, qi v15, qi v16, qi v17, qi v18, qi v19, d20, qi v21, qi v22, qi v23, qi v24, d25, d26, d27, d28, d29] [] (qa scr :: bk0 zah zt zu zr zw zy zz zaf zag zv zx zaa zs zae zab zad zac []) (LawQ res 0 0)) (hk423 : ∀ {zt zu zr zw zy zz zaf zag zv zx zaa : List Int32} {zs zae zab zad zac v4 v5 v6 v8 v9 v11 v15 v16 v17 v18 v19 v22 v23 : Int32} {zah : List Int32} {d1 d2 d3 d10 d12 d13 d14 d20 d21 d24 d25 d26 d27 d28 d29 : Slot} {res : Int32}, k423 zt zu zr zw zy zz zaf zag zv zx zaa zs zae zab zad zac v4 v5 v6 v8 v9 v11 v15 v16 v17 v18 v19 v22 v23 = some res → OEndsQ own_P 0 423 [qr 0, d1, d2, d3, qi v4, qi v5, qi v6, qr 1, qi v8, qi v9, d10, qi v11, d12, d13, d14, qi v15, qi v16, qi v17, qi v18, qi v19, d20, d21, qi v22, qi v23, d24, d25, d26, d27, d28, d29] [] (qa scr :: bk0 zah zt zu zr zw zy zz zaf zag zv zx zaa zs zae zab zad zac []) (LawQ res 0 0)) : ∀ {zt zu zr zw zy zz zaf zag zv zx zaa : List Int32} {zs zae zab zad zac v4 v5 v6 v8 v9 v11 v15 v16 v17 v18 v19 v21 v22 v23 v24 v25 v26 v27 : Int32} {zah : List Int32} {d1 d2 d3 d10 d12 d13 d14 d20 d28 d29 : Slot} {res : Int32}, f_L_law_384 kb k423 scr zt zu zr zw zy zz zaf zag zv zx zaa zs zae zab zad zac v4 v5 v6 v8 v9 v11 v15 v16 v17 v18 v19 v21 v22 v23 v24 v25 v26 v27 = some res → OEndsQ own_P 0 384 [qr 0, d1, d2, d3, qi v4, qi v5, qi v6, qr 1, qi v8, qi v9, d10, qi v11, d12, d13, d14, qi v15, qi v16, qi v17, qi v18, qi v19, d20, qi v21, qi v22, qi v23, qi v24, qi v25, qi v26, qi v27, d28, d29] [] (qa scr :: bk0 zah zt zu zr zw zy zz zaf zag zv zx zaa zs zae zab zad zac []) (LawQ res 0 0) := by
  intro zt zu zr zw zy zz zaf zag zv zx zaa zs zae zab zad zac v4 v5 v6 v8 v9 v11 v15 v16 v17 v18 v19 v21 v22 v23 v24 v25 v26 v27 zah d1 d2 d3 d10 d12 d13 d14 d20 d28 d29 res h
  unfold f_L_law_384 at h
  refine OEndsQ.adv hm_0 2 (pc' := 387) (L' := [qr 0, qu, qu, qu, qi v4, qi v5, qi v6, qr 1, qi v8, qi v9, qu, qi v11, qu, qu, qu, qi v15, qi v16, qi v17, qi v18, qi v19, qu, qi v21, qi v22, qi v23, qi v24, qi v25, qi v26, qi v27, qu, qu]) (S' := [.int 2, .int v15]) (H' := (qa scr :: bk0 zah zt zu zr zw zy zz zaf zag zv zx zaa zs zae zab zad zac [])) rfl ?_
  by_cases hc241 : v15 < (2 : Int32)
  · simp only [if_pos hc241] at h
    refine OEndsQ.icmpT hm_0 rfl (q := 393) rfl ((tlt hc241).1) ?_
    show OEndsQ own_P 0 393 [qr 0, qu, qu, qu, qi v4, qi v5, qi v6, qr 1, qi v8, qi v9, qu, qi v11, qu, qu, qu, qi v15, qi v16, qi v17, qi v18, qi v19, qu, qi v21, qi v22, qi v23, qi v24, qi v25, qi v26, qi v27, qu, qu] [] (qa scr :: bk0 zah zt zu zr zw zy zz zaf zag zv zx zaa zs zae zab zad zac []) _
    exact ok_L_law_393 hkb hk423 h
  · simp only [if_neg hc241] at h
    refine OEndsQ.icmpF hm_0 rfl ((flt hc241).1) ?_
    refine OEndsQ.adv hm_0 1 (pc' := 393) (L' := [qr 0, qu, qu, qu, qi v4, qi v5, qi v6, qr 1, qi v8, qi v9, qu, qi v11, qu, qu, qu, qi v15, qi v16, qi v17, qi v18, qi v19, qu, qi v21, qi v22, qi v23, qi v24, qi v25, qi v26, qi (v27 + (1 : Int32)), qu, qu]) (S' := []) (H' := (qa scr :: bk0 zah zt zu zr zw zy zz zaf zag zv zx zaa zs zae zab zad zac [])) rfl ?_
    exact ok_L_law_393 hkb hk423 h
theorem ok_L_law_355 {scr : List Int32} {kb : List Int32 → List Int32 → List Int32 → List Int32 → List Int32 → List Int32 → List Int32 → List Int32 → List Int32 → List Int32 → List Int32 → Int32 → Int32 → Int32 → Int32 → Int32 → Int32 → Int32 → Int32 → Int32 → Int32 → Int32 → Int32 → Int32 → Int32 → Int32 → Int32 → Int32 → Int32 → Int32 → Int32 → Option (Int32)} {k423 : List Int32 → List Int32 → List Int32 → List Int32 → List Int32 → List Int32 → List Int32 → List Int32 → List Int32 → List Int32 → List Int32 → Int32 → Int32 → Int32 → Int32 → Int32 → Int32 → Int32 → Int32 → Int32 → Int32 → Int32 → Int32 → Int32 → Int32 → Int32 → Int32 → Int32 → Int32 → Option (Int32)} (hkb : ∀ {zt zu zr zw zy zz zaf zag zv zx zaa : List Int32} {zs zae zab zad zac v4 v5 v6 v8 v9 v11 v15 v16 v17 v18 v19 v21 v22 v23 v24 : Int32} {zah : List Int32} {d1 d2 d3 d10 d12 d13 d14 d20 d25 d26 d27 d28 d29 : Slot} {res : Int32}, kb zt zu zr zw zy zz zaf zag zv zx zaa zs zae zab zad zac v4 v5 v6 v8 v9 v11 v15 v16 v17 v18 v19 v21 v22 v23 v24 = some res → OEndsQ own_P 0 245 [qr 0, d1, d2, d3, qi v4, qi v5, qi v6, qr 1, qi v8, qi v9, d10, qi v11, d12, d13, d14, qi v15, qi v16, qi v17, qi v18, qi v19, d20, qi v21, qi v22, qi v23, qi v24, d25, d26, d27, d28, d29] [] (qa scr :: bk0 zah zt zu zr zw zy zz zaf zag zv zx zaa zs zae zab zad zac []) (LawQ res 0 0)) (hk423 : ∀ {zt zu zr zw zy zz zaf zag zv zx zaa : List Int32} {zs zae zab zad zac v4 v5 v6 v8 v9 v11 v15 v16 v17 v18 v19 v22 v23 : Int32} {zah : List Int32} {d1 d2 d3 d10 d12 d13 d14 d20 d21 d24 d25 d26 d27 d28 d29 : Slot} {res : Int32}, k423 zt zu zr zw zy zz zaf zag zv zx zaa zs zae zab zad zac v4 v5 v6 v8 v9 v11 v15 v16 v17 v18 v19 v22 v23 = some res → OEndsQ own_P 0 423 [qr 0, d1, d2, d3, qi v4, qi v5, qi v6, qr 1, qi v8, qi v9, d10, qi v11, d12, d13, d14, qi v15, qi v16, qi v17, qi v18, qi v19, d20, d21, qi v22, qi v23, d24, d25, d26, d27, d28, d29] [] (qa scr :: bk0 zah zt zu zr zw zy zz zaf zag zv zx zaa zs zae zab zad zac []) (LawQ res 0 0)) : ∀ {zt zu zr zw zy zz zaf zag zv zx zaa : List Int32} {zs zae zab zad zac v4 v5 v6 v8 v9 v11 v15 v16 v17 v18 v19 v21 v22 v23 v24 v25 v26 v27 : Int32} {zah : List Int32} {d1 d2 d3 d10 d12 d13 d14 d20 d28 d29 : Slot} {res : Int32}, f_L_law_355 kb k423 scr zt zu zr zw zy zz zaf zag zv zx zaa zs zae zab zad zac v4 v5 v6 v8 v9 v11 v15 v16 v17 v18 v19 v21 v22 v23 v24 v25 v26 v27 = some res → OEndsQ own_P 0 355 [qr 0, d1, d2, d3, qi v4, qi v5, qi v6, qr 1, qi v8, qi v9, d10, qi v11, d12, d13, d14, qi v15, qi v16, qi v17, qi v18, qi v19, d20, qi v21, qi v22, qi v23, qi v24, qi v25, qi v26, qi v27, d28, d29] [] (qa scr :: bk0 zah zt zu zr zw zy zz zaf zag zv zx zaa zs zae zab zad zac []) (LawQ res 0 0) := by
  intro zt zu zr zw zy zz zaf zag zv zx zaa zs zae zab zad zac v4 v5 v6 v8 v9 v11 v15 v16 v17 v18 v19 v21 v22 v23 v24 v25 v26 v27 zah d1 d2 d3 d10 d12 d13 d14 d20 d28 d29 res h
  unfold f_L_law_355 at h
  refine OEndsQ.adv hm_0 1 (pc' := 357) (L' := [qr 0, qu, qu, qu, qi v4, qi v5, qi v6, qr 1, qi v8, qi v9, qu, qi v11, qu, qu, qu, qi v15, qi v16, qi v17, qi v18, qi v19, qu, qi v21, qi v22, qi v23, qi v24, qi v25, qi v26, qi v27, qu, qu]) (S' := [.int v19]) (H' := (qa scr :: bk0 zah zt zu zr zw zy zz zaf zag zv zx zaa zs zae zab zad zac [])) rfl ?_
  by_cases hc242 : v19 = (0 : Int32)
  · simp only [if_pos hc242] at h
    refine OEndsQ.ifT hm_0 rfl (q := 393) rfl ((teq hc242).1) ?_
    show OEndsQ own_P 0 393 [qr 0, qu, qu, qu, qi v4, qi v5, qi v6, qr 1, qi v8, qi v9, qu, qi v11, qu, qu, qu, qi v15, qi v16, qi v17, qi v18, qi v19, qu, qi v21, qi v22, qi v23, qi v24, qi v25, qi v26, qi v27, qu, qu] [] (qa scr :: bk0 zah zt zu zr zw zy zz zaf zag zv zx zaa zs zae zab zad zac []) _
    exact ok_L_law_393 hkb hk423 h
  · simp only [if_neg hc242] at h
    refine OEndsQ.ifF hm_0 rfl ((feq hc242).1) ?_
    refine OEndsQ.adv hm_0 3 (pc' := 366) (L' := [qr 0, qu, qu, qu, qi v4, qi v5, qi v6, qr 1, qi v8, qi v9, qu, qi v11, qu, qu, qu, qi v15, qi v16, qi v17, qi v18, qi v19, qu, qi v21, qi v22, qi v23, qi v24, qi v25, qi v26, qi v27, qu, qu]) (S' := [.int v24, .int v17, .int v16]) (H' := (qa scr :: bk0 zah zt zu zr zw zy zz zaf zag zv zx zaa zs zae zab zad zac [])) rfl ?_
    obtain ⟨r201, hq243, h⟩ := bnd h
    refine OEndsQ.call0 hm_0 rfl rfl (by decide) rfl (as := [.int v16, .int v17, .int v24]) (rest := []) rfl rfl (ok_L_covers hq243) ?_
    show OEndsQ own_P 0 369 [qr 0, qu, qu, qu, qi v4, qi v5, qi v6, qr 1, qi v8, qi v9, qu, qi v11, qu, qu, qu, qi v15, qi v16, qi v17, qi v18, qi v19, qu, qi v21, qi v22, qi v23, qi v24, qi v25, qi v26, qi v27, qu, qu] [.int r201] (qa scr :: bk0 zah zt zu zr zw zy zz zaf zag zv zx zaa zs zae zab zad zac []) _
    by_cases hc244 : r201 = (0 : Int32)
    · simp only [if_pos hc244] at h
      refine OEndsQ.ifT hm_0 rfl (q := 393) rfl ((teq hc244).1) ?_
      show OEndsQ own_P 0 393 [qr 0, qu, qu, qu, qi v4, qi v5, qi v6, qr 1, qi v8, qi v9, qu, qi v11, qu, qu, qu, qi v15, qi v16, qi v17, qi v18, qi v19, qu, qi v21, qi v22, qi v23, qi v24, qi v25, qi v26, qi v27, qu, qu] [] (qa scr :: bk0 zah zt zu zr zw zy zz zaf zag zv zx zaa zs zae zab zad zac []) _
      exact ok_L_law_393 hkb hk423 h
    · simp only [if_neg hc244] at h
      refine OEndsQ.ifF hm_0 rfl ((feq hc244).1) ?_
      refine OEndsQ.adv hm_0 3 (pc' := 378) (L' := [qr 0, qu, qu, qu, qi v4, qi v5, qi v6, qr 1, qi v8, qi v9, qu, qi v11, qu, qu, qu, qi v15, qi v16, qi v17, qi v18, qi v19, qu, qi v21, qi v22, qi v23, qi v24, qi (v25 + (1 : Int32)), qi v26, qi v27, qu, qu]) (S' := [.int 1, .int v15]) (H' := (qa scr :: bk0 zah zt zu zr zw zy zz zaf zag zv zx zaa zs zae zab zad zac [])) rfl ?_
      by_cases hc245 : v15 < (1 : Int32)
      · simp only [if_pos hc245] at h
        refine OEndsQ.icmpT hm_0 rfl (q := 384) rfl ((tlt hc245).1) ?_
        show OEndsQ own_P 0 384 [qr 0, qu, qu, qu, qi v4, qi v5, qi v6, qr 1, qi v8, qi v9, qu, qi v11, qu, qu, qu, qi v15, qi v16, qi v17, qi v18, qi v19, qu, qi v21, qi v22, qi v23, qi v24, qi (v25 + (1 : Int32)), qi v26, qi v27, qu, qu] [] (qa scr :: bk0 zah zt zu zr zw zy zz zaf zag zv zx zaa zs zae zab zad zac []) _
        exact ok_L_law_384 hkb hk423 h
      · simp only [if_neg hc245] at h
        refine OEndsQ.icmpF hm_0 rfl ((flt hc245).1) ?_
        refine OEndsQ.adv hm_0 1 (pc' := 384) (L' := [qr 0, qu, qu, qu, qi v4, qi v5, qi v6, qr 1, qi v8, qi v9, qu, qi v11, qu, qu, qu, qi v15, qi v16, qi v17, qi v18, qi v19, qu, qi v21, qi v22, qi v23, qi v24, qi (v25 + (1 : Int32)), qi (v26 + (1 : Int32)), qi v27, qu, qu]) (S' := []) (H' := (qa scr :: bk0 zah zt zu zr zw zy zz zaf zag zv zx zaa zs zae zab zad zac [])) rfl ?_
        exact ok_L_law_384 hkb hk423 h
theorem ok_L_law_340 {scr : List Int32} {kb : List Int32 → List Int32 → List Int32 → List Int32 → List Int32 → List Int32 → List Int32 → List Int32 → List Int32 → List Int32 → List Int32 → Int32 → Int32 → Int32 → Int32 → Int32 → Int32 → Int32 → Int32 → Int32 → Int32 → Int32 → Int32 → Int32 → Int32 → Int32 → Int32 → Int32 → Int32 → Int32 → Int32 → Int32 → Int32 → Int32 → Int32 → Option (Int32)} {k355 : List Int32 → List Int32 → List Int32 → List Int32 → List Int32 → List Int32 → List Int32 → List Int32 → List Int32 → List Int32 → List Int32 → Int32 → Int32 → Int32 → Int32 → Int32 → Int32 → Int32 → Int32 → Int32 → Int32 → Int32 → Int32 → Int32 → Int32 → Int32 → Int32 → Int32 → Int32 → Int32 → Int32 → Int32 → Int32 → Int32 → Option (Int32)} (hkb : ∀ {zt zu zr zw zy zz zaf zag zv zx zaa : List Int32} {zs zae zab zad zac v4 v5 v6 v8 v9 v11 v15 v16 v17 v18 v19 v21 v22 v23 v24 v25 v26 v27 v28 : Int32} {zah : List Int32} {d1 d2 d3 d10 d12 d13 d14 d20 d29 : Slot} {res : Int32}, kb zt zu zr zw zy zz zaf zag zv zx zaa zs zae zab zad zac v4 v5 v6 v8 v9 v11 v15 v16 v17 v18 v19 v21 v22 v23 v24 v25 v26 v27 v28 = some res → OEndsQ own_P 0 264 [qr 0, d1, d2, d3, qi v4, qi v5, qi v6, qr 1, qi v8, qi v9, d10, qi v11, d12, d13, d14, qi v15, qi v16, qi v17, qi v18, qi v19, d20, qi v21, qi v22, qi v23, qi v24, qi v25, qi v26, qi v27, qi v28, d29] [] (qa scr :: bk0 zah zt zu zr zw zy zz zaf zag zv zx zaa zs zae zab zad zac []) (LawQ res 0 0)) (hk355 : ∀ {zt zu zr zw zy zz zaf zag zv zx zaa : List Int32} {zs zae zab zad zac v4 v5 v6 v8 v9 v11 v15 v16 v17 v18 v19 v21 v22 v23 v24 v25 v26 v27 : Int32} {zah : List Int32} {d1 d2 d3 d10 d12 d13 d14 d20 d28 d29 : Slot} {res : Int32}, k355 zt zu zr zw zy zz zaf zag zv zx zaa zs zae zab zad zac v4 v5 v6 v8 v9 v11 v15 v16 v17 v18 v19 v21 v22 v23 v24 v25 v26 v27 = some res → OEndsQ own_P 0 355 [qr 0, d1, d2, d3, qi v4, qi v5, qi v6, qr 1, qi v8, qi v9, d10, qi v11, d12, d13, d14, qi v15, qi v16, qi v17, qi v18, qi v19, d20, qi v21, qi v22, qi v23, qi v24, qi v25, qi v26, qi v27, d28, d29] [] (qa scr :: bk0 zah zt zu zr zw zy zz zaf zag zv zx zaa zs zae zab zad zac []) (LawQ res 0 0)) : ∀ {zt zu zr zw zy zz zaf zag zv zx zaa : List Int32} {zs zae zab zad zac v4 v5 v6 v8 v9 v11 v15 v16 v17 v18 v19 v21 v22 v23 v24 v25 v26 v27 v28 v29 : Int32} {zah : List Int32} {d1 d2 d3 d10 d12 d13 d14 d20 : Slot} {res : Int32}, f_L_law_340 kb k355 scr zt zu zr zw zy zz zaf zag zv zx zaa zs zae zab zad zac v4 v5 v6 v8 v9 v11 v15 v16 v17 v18 v19 v21 v22 v23 v24 v25 v26 v27 v28 v29 = some res → OEndsQ own_P 0 340 [qr 0, d1, d2, d3, qi v4, qi v5, qi v6, qr 1, qi v8, qi v9, d10, qi v11, d12, d13, d14, qi v15, qi v16, qi v17, qi v18, qi v19, d20, qi v21, qi v22, qi v23, qi v24, qi v25, qi v26, qi v27, qi v28, qi v29] [] (qa scr :: bk0 zah zt zu zr zw zy zz zaf zag zv zx zaa zs zae zab zad zac []) (LawQ res 0 0) := by
  intro zt zu zr zw zy zz zaf zag zv zx zaa zs zae zab zad zac v4 v5 v6 v8 v9 v11 v15 v16 v17 v18 v19 v21 v22 v23 v24 v25 v26 v27 v28 v29 zah d1 d2 d3 d10 d12 d13 d14 d20 res h
  unfold f_L_law_340 at h
  refine OEndsQ.adv hm_0 2 (pc' := 343) (L' := [qr 0, qu, qu, qu, qi v4, qi v5, qi v6, qr 1, qi v8, qi v9, qu, qi v11, qu, qu, qu, qi v15, qi v16, qi v17, qi v18, qi v19, qu, qi v21, qi v22, qi v23, qi v24, qi v25, qi v26, qi v27, qi v28, qi v29]) (S' := [.int 2, .int v29]) (H' := (qa scr :: bk0 zah zt zu zr zw zy zz zaf zag zv zx zaa zs zae zab zad zac [])) rfl ?_
  by_cases hc246 : v29 < (2 : Int32)
  · simp only [if_pos hc246] at h
    refine OEndsQ.icmpT hm_0 rfl (q := 349) rfl ((tlt hc246).1) ?_
    refine OEndsQ.adv hm_0 2 (pc' := 264) (L' := [qr 0, qu, qu, qu, qi v4, qi v5, qi v6, qr 1, qi v8, qi v9, qu, qi v11, qu, qu, qu, qi v15, qi v16, qi v17, qi v18, qi v19, qu, qi v21, qi v22, qi v23, qi v24, qi v25, qi v26, qi v27, qi (v28 + (1 : Int32)), qi v29]) (S' := []) (H' := (qa scr :: bk0 zah zt zu zr zw zy zz zaf zag zv zx zaa zs zae zab zad zac [])) rfl ?_
    exact hkb h
  · simp only [if_neg hc246] at h
    refine OEndsQ.icmpF hm_0 rfl ((flt hc246).1) ?_
    refine OEndsQ.adv hm_0 3 (pc' := 264) (L' := [qr 0, qu, qu, qu, qi v4, qi v5, qi v6, qr 1, qi v8, qi v9, qu, qi v11, qu, qu, qu, qi v15, qi v16, qi v17, qi v18, qi v19, qu, qi v21, qi v22, qi v23, qi v24, qi v25, qi v26, qi (v27 + (1 : Int32)), qi (v28 + (1 : Int32)), qi v29]) (S' := []) (H' := (qa scr :: bk0 zah zt zu zr zw zy zz zaf zag zv zx zaa zs zae zab zad zac [])) rfl ?_
    exact hkb h
theorem ok_L_law_296 {scr : List Int32} {kb : List Int32 → List Int32 → List Int32 → List Int32 → List Int32 → List Int32 → List Int32 → List Int32 → List Int32 → List Int32 → List Int32 → Int32 → Int32 → Int32 → Int32 → Int32 → Int32 → Int32 → Int32 → Int32 → Int32 → Int32 → Int32 → Int32 → Int32 → Int32 → Int32 → Int32 → Int32 → Int32 → Int32 → Int32 → Int32 → Int32 → Int32 → Option (Int32)} {k355 : List Int32 → List Int32 → List Int32 → List Int32 → List Int32 → List Int32 → List Int32 → List Int32 → List Int32 → List Int32 → List Int32 → Int32 → Int32 → Int32 → Int32 → Int32 → Int32 → Int32 → Int32 → Int32 → Int32 → Int32 → Int32 → Int32 → Int32 → Int32 → Int32 → Int32 → Int32 → Int32 → Int32 → Int32 → Int32 → Int32 → Option (Int32)} (hkb : ∀ {zt zu zr zw zy zz zaf zag zv zx zaa : List Int32} {zs zae zab zad zac v4 v5 v6 v8 v9 v11 v15 v16 v17 v18 v19 v21 v22 v23 v24 v25 v26 v27 v28 : Int32} {zah : List Int32} {d1 d2 d3 d10 d12 d13 d14 d20 d29 : Slot} {res : Int32}, kb zt zu zr zw zy zz zaf zag zv zx zaa zs zae zab zad zac v4 v5 v6 v8 v9 v11 v15 v16 v17 v18 v19 v21 v22 v23 v24 v25 v26 v27 v28 = some res → OEndsQ own_P 0 264 [qr 0, d1, d2, d3, qi v4, qi v5, qi v6, qr 1, qi v8, qi v9, d10, qi v11, d12, d13, d14, qi v15, qi v16, qi v17, qi v18, qi v19, d20, qi v21, qi v22, qi v23, qi v24, qi v25, qi v26, qi v27, qi v28, d29] [] (qa scr :: bk0 zah zt zu zr zw zy zz zaf zag zv zx zaa zs zae zab zad zac []) (LawQ res 0 0)) (hk355 : ∀ {zt zu zr zw zy zz zaf zag zv zx zaa : List Int32} {zs zae zab zad zac v4 v5 v6 v8 v9 v11 v15 v16 v17 v18 v19 v21 v22 v23 v24 v25 v26 v27 : Int32} {zah : List Int32} {d1 d2 d3 d10 d12 d13 d14 d20 d28 d29 : Slot} {res : Int32}, k355 zt zu zr zw zy zz zaf zag zv zx zaa zs zae zab zad zac v4 v5 v6 v8 v9 v11 v15 v16 v17 v18 v19 v21 v22 v23 v24 v25 v26 v27 = some res → OEndsQ own_P 0 355 [qr 0, d1, d2, d3, qi v4, qi v5, qi v6, qr 1, qi v8, qi v9, d10, qi v11, d12, d13, d14, qi v15, qi v16, qi v17, qi v18, qi v19, d20, qi v21, qi v22, qi v23, qi v24, qi v25, qi v26, qi v27, d28, d29] [] (qa scr :: bk0 zah zt zu zr zw zy zz zaf zag zv zx zaa zs zae zab zad zac []) (LawQ res 0 0)) : ∀ {zt zu zr zw zy zz zaf zag zv zx zaa : List Int32} {zs zae zab zad zac v4 v5 v6 v8 v9 v11 v15 v16 v17 v18 v19 v21 v22 v23 v24 v25 v26 v27 v28 v29 : Int32} {zah : List Int32} {d1 d2 d3 d10 d12 d13 d14 d20 : Slot} {res : Int32}, f_L_law_296 kb k355 scr zt zu zr zw zy zz zaf zag zv zx zaa zs zae zab zad zac v4 v5 v6 v8 v9 v11 v15 v16 v17 v18 v19 v21 v22 v23 v24 v25 v26 v27 v28 v29 = some res → OEndsQ own_P 0 296 [qr 0, d1, d2, d3, qi v4, qi v5, qi v6, qr 1, qi v8, qi v9, d10, qi v11, d12, d13, d14, qi v15, qi v16, qi v17, qi v18, qi v19, d20, qi v21, qi v22, qi v23, qi v24, qi v25, qi v26, qi v27, qi v28, qi v29] [] (qa scr :: bk0 zah zt zu zr zw zy zz zaf zag zv zx zaa zs zae zab zad zac []) (LawQ res 0 0) := by
  intro zt zu zr zw zy zz zaf zag zv zx zaa zs zae zab zad zac v4 v5 v6 v8 v9 v11 v15 v16 v17 v18 v19 v21 v22 v23 v24 v25 v26 v27 v28 v29 zah d1 d2 d3 d10 d12 d13 d14 d20 res h
  unfold f_L_law_296 at h
  refine OEndsQ.adv hm_0 2 (pc' := 300) (L' := [qr 0, qu, qu, qu, qi v4, qi v5, qi v6, qr 1, qi v8, qi v9, qu, qi v11, qu, qu, qu, qi v15, qi v16, qi v17, qi v18, qi v19, qu, qi v21, qi v22, qi v23, qi v24, qi v25, qi v26, qi v27, qi v28, qi v29]) (S' := [.int v21, .int v28]) (H' := (qa scr :: bk0 zah zt zu zr zw zy zz zaf zag zv zx zaa zs zae zab zad zac [])) rfl ?_
  by_cases hc247 : v28 = v21
  · simp only [if_pos hc247] at h
    refine OEndsQ.icmpF hm_0 rfl ((teq hc247).2) ?_
    refine OEndsQ.adv hm_0 3 (pc' := 264) (L' := [qr 0, qu, qu, qu, qi v4, qi v5, qi v6, qr 1, qi v8, qi v9, qu, qi v11, qu, qu, qu, qi v15, qi v16, qi v17, qi v18, qi v19, qu, qi v21, qi v22, qi v23, qi v24, qi v25, qi v26, qi v27, qi (v28 + (1 : Int32)), qi v29]) (S' := []) (H' := (qa scr :: bk0 zah zt zu zr zw zy zz zaf zag zv zx zaa zs zae zab zad zac [])) rfl ?_
    exact hkb h
  · simp only [if_neg hc247] at h
    refine OEndsQ.icmpT hm_0 rfl (q := 306) rfl ((feq hc247).2) ?_
    refine OEndsQ.adv hm_0 2 (pc' := 310) (L' := [qr 0, qu, qu, qu, qi v4, qi v5, qi v6, qr 1, qi v8, qi v9, qu, qi v11, qu, qu, qu, qi v15, qi v16, qi v17, qi v18, qi v19, qu, qi v21, qi v22, qi v23, qi v24, qi v25, qi v26, qi v27, qi v28, qi v29]) (S' := [.int v28, .ref 1]) (H' := (qa scr :: bk0 zah zt zu zr zw zy zz zaf zag zv zx zaa zs zae zab zad zac [])) rfl ?_
    obtain ⟨r198, hq248, h⟩ := bnd h
    refine OEndsQ.call0 hm_0 rfl rfl (by decide) rfl (as := [.ref 1, .int v28]) (rest := []) rfl rfl (ok_stayArrive hq248) ?_
    refine OEndsQ.adv hm_0 2 (pc' := 317) (L' := [qr 0, qu, qu, qu, qi v4, qi v5, qi v6, qr 1, qi v8, qi v9, qu, qi v11, qu, qu, qu, qi v15, qi v16, qi v17, qi v18, qi v19, qu, qi v21, qi v22, qi v23, qi v24, qi v25, qi v26, qi v27, qi v28, qi v29]) (S' := [.int v28, .ref 1, .int r198]) (H' := (qa scr :: bk0 zah zt zu zr zw zy zz zaf zag zv zx zaa zs zae zab zad zac [])) rfl ?_
    obtain ⟨r199, hq249, h⟩ := bnd h
    refine OEndsQ.call0 hm_0 rfl rfl (by decide) rfl (as := [.ref 1, .int v28]) (rest := [.int r198]) rfl rfl (ok_stayNights hq249) ?_
    refine OEndsQ.adv hm_0 1 (pc' := 322) (L' := [qr 0, qu, qu, qu, qi v4, qi v5, qi v6, qr 1, qi v8, qi v9, qu, qi v11, qu, qu, qu, qi v15, qi v16, qi v17, qi v18, qi v19, qu, qi v21, qi v22, qi v23, qi v24, qi v25, qi v26, qi v27, qi v28, qi v29]) (S' := [.int v24, .int r199, .int r198]) (H' := (qa scr :: bk0 zah zt zu zr zw zy zz zaf zag zv zx zaa zs zae zab zad zac [])) rfl ?_
    obtain ⟨r200, hq250, h⟩ := bnd h
    refine OEndsQ.call0 hm_0 rfl rfl (by decide) rfl (as := [.int r198, .int r199, .int v24]) (rest := []) rfl rfl (ok_L_covers hq250) ?_
    show OEndsQ own_P 0 325 [qr 0, qu, qu, qu, qi v4, qi v5, qi v6, qr 1, qi v8, qi v9, qu, qi v11, qu, qu, qu, qi v15, qi v16, qi v17, qi v18, qi v19, qu, qi v21, qi v22, qi v23, qi v24, qi v25, qi v26, qi v27, qi v28, qi v29] [.int r200] (qa scr :: bk0 zah zt zu zr zw zy zz zaf zag zv zx zaa zs zae zab zad zac []) _
    by_cases hc251 : r200 = (0 : Int32)
    · simp only [if_pos hc251] at h
      refine OEndsQ.ifT hm_0 rfl (q := 349) rfl ((teq hc251).1) ?_
      refine OEndsQ.adv hm_0 2 (pc' := 264) (L' := [qr 0, qu, qu, qu, qi v4, qi v5, qi v6, qr 1, qi v8, qi v9, qu, qi v11, qu, qu, qu, qi v15, qi v16, qi v17, qi v18, qi v19, qu, qi v21, qi v22, qi v23, qi v24, qi v25, qi v26, qi v27, qi (v28 + (1 : Int32)), qi v29]) (S' := []) (H' := (qa scr :: bk0 zah zt zu zr zw zy zz zaf zag zv zx zaa zs zae zab zad zac [])) rfl ?_
      exact hkb h
    · simp only [if_neg hc251] at h
      refine OEndsQ.ifF hm_0 rfl ((feq hc251).1) ?_
      refine OEndsQ.adv hm_0 3 (pc' := 334) (L' := [qr 0, qu, qu, qu, qi v4, qi v5, qi v6, qr 1, qi v8, qi v9, qu, qi v11, qu, qu, qu, qi v15, qi v16, qi v17, qi v18, qi v19, qu, qi v21, qi v22, qi v23, qi v24, qi (v25 + (1 : Int32)), qi v26, qi v27, qi v28, qi v29]) (S' := [.int 1, .int v29]) (H' := (qa scr :: bk0 zah zt zu zr zw zy zz zaf zag zv zx zaa zs zae zab zad zac [])) rfl ?_
      by_cases hc252 : v29 < (1 : Int32)
      · simp only [if_pos hc252] at h
        refine OEndsQ.icmpT hm_0 rfl (q := 340) rfl ((tlt hc252).1) ?_
        show OEndsQ own_P 0 340 [qr 0, qu, qu, qu, qi v4, qi v5, qi v6, qr 1, qi v8, qi v9, qu, qi v11, qu, qu, qu, qi v15, qi v16, qi v17, qi v18, qi v19, qu, qi v21, qi v22, qi v23, qi v24, qi (v25 + (1 : Int32)), qi v26, qi v27, qi v28, qi v29] [] (qa scr :: bk0 zah zt zu zr zw zy zz zaf zag zv zx zaa zs zae zab zad zac []) _
        exact ok_L_law_340 hkb hk355 h
      · simp only [if_neg hc252] at h
        refine OEndsQ.icmpF hm_0 rfl ((flt hc252).1) ?_
        refine OEndsQ.adv hm_0 1 (pc' := 340) (L' := [qr 0, qu, qu, qu, qi v4, qi v5, qi v6, qr 1, qi v8, qi v9, qu, qi v11, qu, qu, qu, qi v15, qi v16, qi v17, qi v18, qi v19, qu, qi v21, qi v22, qi v23, qi v24, qi (v25 + (1 : Int32)), qi (v26 + (1 : Int32)), qi v27, qi v28, qi v29]) (S' := []) (H' := (qa scr :: bk0 zah zt zu zr zw zy zz zaf zag zv zx zaa zs zae zab zad zac [])) rfl ?_
        exact ok_L_law_340 hkb hk355 h
theorem ok_L_law_264 {scr : List Int32} {k355 : List Int32 → List Int32 → List Int32 → List Int32 → List Int32 → List Int32 → List Int32 → List Int32 → List Int32 → List Int32 → List Int32 → Int32 → Int32 → Int32 → Int32 → Int32 → Int32 → Int32 → Int32 → Int32 → Int32 → Int32 → Int32 → Int32 → Int32 → Int32 → Int32 → Int32 → Int32 → Int32 → Int32 → Int32 → Int32 → Int32 → Option (Int32)} (hk355 : ∀ {zt zu zr zw zy zz zaf zag zv zx zaa : List Int32} {zs zae zab zad zac v4 v5 v6 v8 v9 v11 v15 v16 v17 v18 v19 v21 v22 v23 v24 v25 v26 v27 : Int32} {zah : List Int32} {d1 d2 d3 d10 d12 d13 d14 d20 d28 d29 : Slot} {res : Int32}, k355 zt zu zr zw zy zz zaf zag zv zx zaa zs zae zab zad zac v4 v5 v6 v8 v9 v11 v15 v16 v17 v18 v19 v21 v22 v23 v24 v25 v26 v27 = some res → OEndsQ own_P 0 355 [qr 0, d1, d2, d3, qi v4, qi v5, qi v6, qr 1, qi v8, qi v9, d10, qi v11, d12, d13, d14, qi v15, qi v16, qi v17, qi v18, qi v19, d20, qi v21, qi v22, qi v23, qi v24, qi v25, qi v26, qi v27, d28, d29] [] (qa scr :: bk0 zah zt zu zr zw zy zz zaf zag zv zx zaa zs zae zab zad zac []) (LawQ res 0 0)) : ∀ (n : Nat), ∀ {zt zu zr zw zy zz zaf zag zv zx zaa : List Int32} {zs zae zab zad zac v4 v5 v6 v8 v9 v11 v15 v16 v17 v18 v19 v21 v22 v23 v24 v25 v26 v27 v28 : Int32} {zah : List Int32} {d1 d2 d3 d10 d12 d13 d14 d20 d29 : Slot} {res : Int32}, f_L_law_264 k355 scr n zt zu zr zw zy zz zaf zag zv zx zaa zs zae zab zad zac v4 v5 v6 v8 v9 v11 v15 v16 v17 v18 v19 v21 v22 v23 v24 v25 v26 v27 v28 = some res → OEndsQ own_P 0 264 [qr 0, d1, d2, d3, qi v4, qi v5, qi v6, qr 1, qi v8, qi v9, d10, qi v11, d12, d13, d14, qi v15, qi v16, qi v17, qi v18, qi v19, d20, qi v21, qi v22, qi v23, qi v24, qi v25, qi v26, qi v27, qi v28, d29] [] (qa scr :: bk0 zah zt zu zr zw zy zz zaf zag zv zx zaa zs zae zab zad zac []) (LawQ res 0 0) := by
  intro n
  induction n with
  | zero => intro zt zu zr zw zy zz zaf zag zv zx zaa zs zae zab zad zac v4 v5 v6 v8 v9 v11 v15 v16 v17 v18 v19 v21 v22 v23 v24 v25 v26 v27 v28 zah d1 d2 d3 d10 d12 d13 d14 d20 d29 res h; cases h
  | succ n ih =>
    intro zt zu zr zw zy zz zaf zag zv zx zaa zs zae zab zad zac v4 v5 v6 v8 v9 v11 v15 v16 v17 v18 v19 v21 v22 v23 v24 v25 v26 v27 v28 zah d1 d2 d3 d10 d12 d13 d14 d20 d29 res h
    unfold f_L_law_264 at h
    refine OEndsQ.adv hm_0 2 (pc' := 268) (L' := [qr 0, qu, qu, qu, qi v4, qi v5, qi v6, qr 1, qi v8, qi v9, qu, qi v11, qu, qu, qu, qi v15, qi v16, qi v17, qi v18, qi v19, qu, qi v21, qi v22, qi v23, qi v24, qi v25, qi v26, qi v27, qi v28, qu]) (S' := [.int 32, .int v28]) (H' := (qa scr :: bk0 zah zt zu zr zw zy zz zaf zag zv zx zaa zs zae zab zad zac [])) rfl ?_
    by_cases hc253 : v28 < (32 : Int32)
    · simp only [if_pos hc253] at h
      refine OEndsQ.icmpF hm_0 rfl ((tlt hc253).2.1) ?_
      refine OEndsQ.adv hm_0 2 (pc' := 275) (L' := [qr 0, qu, qu, qu, qi v4, qi v5, qi v6, qr 1, qi v8, qi v9, qu, qi v11, qu, qu, qu, qi v15, qi v16, qi v17, qi v18, qi v19, qu, qi v21, qi v22, qi v23, qi v24, qi v25, qi v26, qi v27, qi v28, qu]) (S' := [.int v28, .ref 1]) (H' := (qa scr :: bk0 zah zt zu zr zw zy zz zaf zag zv zx zaa zs zae zab zad zac [])) rfl ?_
      obtain ⟨r197, hq254, h⟩ := bnd h
      refine OEndsQ.call0 hm_0 rfl rfl (by decide) rfl (as := [.ref 1, .int v28]) (rest := []) rfl rfl (ok_stayType hq254) ?_
      refine OEndsQ.adv hm_0 2 (pc' := 282) (L' := [qr 0, qu, qu, qu, qi v4, qi v5, qi v6, qr 1, qi v8, qi v9, qu, qi v11, qu, qu, qu, qi v15, qi v16, qi v17, qi v18, qi v19, qu, qi v21, qi v22, qi v23, qi v24, qi v25, qi v26, qi v27, qi v28, qi r197]) (S' := [.int r197]) (H' := (qa scr :: bk0 zah zt zu zr zw zy zz zaf zag zv zx zaa zs zae zab zad zac [])) rfl ?_
      by_cases hc255 : r197 < (0 : Int32)
      · simp only [if_pos hc255] at h
        refine OEndsQ.ifF hm_0 rfl ((tlt hc255).2.1) ?_
        refine OEndsQ.adv hm_0 3 (pc' := 264) (L' := [qr 0, qu, qu, qu, qi v4, qi v5, qi v6, qr 1, qi v8, qi v9, qu, qi v11, qu, qu, qu, qi v15, qi v16, qi v17, qi v18, qi v19, qu, qi v21, qi v22, qi v23, qi v24, qi v25, qi v26, qi v27, qi (v28 + (1 : Int32)), qi r197]) (S' := []) (H' := (qa scr :: bk0 zah zt zu zr zw zy zz zaf zag zv zx zaa zs zae zab zad zac [])) rfl ?_
        exact ih h
      · simp only [if_neg hc255] at h
        refine OEndsQ.ifT hm_0 rfl (q := 288) rfl ((flt hc255).2.1) ?_
        refine OEndsQ.adv hm_0 1 (pc' := 290) (L' := [qr 0, qu, qu, qu, qi v4, qi v5, qi v6, qr 1, qi v8, qi v9, qu, qi v11, qu, qu, qu, qi v15, qi v16, qi v17, qi v18, qi v19, qu, qi v21, qi v22, qi v23, qi v24, qi v25, qi v26, qi v27, qi v28, qi r197]) (S' := [.int v24]) (H' := (qa scr :: bk0 zah zt zu zr zw zy zz zaf zag zv zx zaa zs zae zab zad zac [])) rfl ?_
        by_cases hc256 : v24 = (0 : Int32)
        · simp only [if_pos hc256] at h
          refine OEndsQ.ifF hm_0 rfl ((teq hc256).2) ?_
          refine OEndsQ.adv hm_0 1 (pc' := 296) (L' := [qr 0, qu, qu, qu, qi v4, qi v5, qi v6, qr 1, qi v8, qi v9, qu, qi v11, qu, qu, qu, qi v15, qi v16, qi v17, qi v18, qi v19, qu, qi v21, qi (v22 + (1 : Int32)), qi v23, qi v24, qi v25, qi v26, qi v27, qi v28, qi r197]) (S' := []) (H' := (qa scr :: bk0 zah zt zu zr zw zy zz zaf zag zv zx zaa zs zae zab zad zac [])) rfl ?_
          exact ok_L_law_296 ih hk355 h
        · simp only [if_neg hc256] at h
          refine OEndsQ.ifT hm_0 rfl (q := 296) rfl ((feq hc256).2) ?_
          show OEndsQ own_P 0 296 [qr 0, qu, qu, qu, qi v4, qi v5, qi v6, qr 1, qi v8, qi v9, qu, qi v11, qu, qu, qu, qi v15, qi v16, qi v17, qi v18, qi v19, qu, qi v21, qi v22, qi v23, qi v24, qi v25, qi v26, qi v27, qi v28, qi r197] [] (qa scr :: bk0 zah zt zu zr zw zy zz zaf zag zv zx zaa zs zae zab zad zac []) _
          exact ok_L_law_296 ih hk355 h
    · simp only [if_neg hc253] at h
      refine OEndsQ.icmpT hm_0 rfl (q := 355) rfl ((flt hc253).2.1) ?_
      show OEndsQ own_P 0 355 [qr 0, qu, qu, qu, qi v4, qi v5, qi v6, qr 1, qi v8, qi v9, qu, qi v11, qu, qu, qu, qi v15, qi v16, qi v17, qi v18, qi v19, qu, qi v21, qi v22, qi v23, qi v24, qi v25, qi v26, qi v27, qi v28, qu] [] (qa scr :: bk0 zah zt zu zr zw zy zz zaf zag zv zx zaa zs zae zab zad zac []) _
      exact hk355 h
theorem ok_L_law_245 {scr : List Int32} {k423 : List Int32 → List Int32 → List Int32 → List Int32 → List Int32 → List Int32 → List Int32 → List Int32 → List Int32 → List Int32 → List Int32 → Int32 → Int32 → Int32 → Int32 → Int32 → Int32 → Int32 → Int32 → Int32 → Int32 → Int32 → Int32 → Int32 → Int32 → Int32 → Int32 → Int32 → Int32 → Option (Int32)} (hk423 : ∀ {zt zu zr zw zy zz zaf zag zv zx zaa : List Int32} {zs zae zab zad zac v4 v5 v6 v8 v9 v11 v15 v16 v17 v18 v19 v22 v23 : Int32} {zah : List Int32} {d1 d2 d3 d10 d12 d13 d14 d20 d21 d24 d25 d26 d27 d28 d29 : Slot} {res : Int32}, k423 zt zu zr zw zy zz zaf zag zv zx zaa zs zae zab zad zac v4 v5 v6 v8 v9 v11 v15 v16 v17 v18 v19 v22 v23 = some res → OEndsQ own_P 0 423 [qr 0, d1, d2, d3, qi v4, qi v5, qi v6, qr 1, qi v8, qi v9, d10, qi v11, d12, d13, d14, qi v15, qi v16, qi v17, qi v18, qi v19, d20, d21, qi v22, qi v23, d24, d25, d26, d27, d28, d29] [] (qa scr :: bk0 zah zt zu zr zw zy zz zaf zag zv zx zaa zs zae zab zad zac []) (LawQ res 0 0)) : ∀ (n : Nat), ∀ {zt zu zr zw zy zz zaf zag zv zx zaa : List Int32} {zs zae zab zad zac v4 v5 v6 v8 v9 v11 v15 v16 v17 v18 v19 v21 v22 v23 v24 : Int32} {zah : List Int32} {d1 d2 d3 d10 d12 d13 d14 d20 d25 d26 d27 d28 d29 : Slot} {res : Int32}, f_L_law_245 k423 scr n zt zu zr zw zy zz zaf zag zv zx zaa zs zae zab zad zac v4 v5 v6 v8 v9 v11 v15 v16 v17 v18 v19 v21 v22 v23 v24 = some res → OEndsQ own_P 0 245 [qr 0, d1, d2, d3, qi v4, qi v5, qi v6, qr 1, qi v8, qi v9, d10, qi v11, d12, d13, d14, qi v15, qi v16, qi v17, qi v18, qi v19, d20, qi v21, qi v22, qi v23, qi v24, d25, d26, d27, d28, d29] [] (qa scr :: bk0 zah zt zu zr zw zy zz zaf zag zv zx zaa zs zae zab zad zac []) (LawQ res 0 0) := by
  intro n
  induction n with
  | zero => intro zt zu zr zw zy zz zaf zag zv zx zaa zs zae zab zad zac v4 v5 v6 v8 v9 v11 v15 v16 v17 v18 v19 v21 v22 v23 v24 zah d1 d2 d3 d10 d12 d13 d14 d20 d25 d26 d27 d28 d29 res h; cases h
  | succ n ih =>
    intro zt zu zr zw zy zz zaf zag zv zx zaa zs zae zab zad zac v4 v5 v6 v8 v9 v11 v15 v16 v17 v18 v19 v21 v22 v23 v24 zah d1 d2 d3 d10 d12 d13 d14 d20 d25 d26 d27 d28 d29 res h
    unfold f_L_law_245 at h
    refine OEndsQ.adv hm_0 2 (pc' := 249) (L' := [qr 0, qu, qu, qu, qi v4, qi v5, qi v6, qr 1, qi v8, qi v9, qu, qi v11, qu, qu, qu, qi v15, qi v16, qi v17, qi v18, qi v19, qu, qi v21, qi v22, qi v23, qi v24, qu, qu, qu, qu, qu]) (S' := [.int 32, .int v24]) (H' := (qa scr :: bk0 zah zt zu zr zw zy zz zaf zag zv zx zaa zs zae zab zad zac [])) rfl ?_
    by_cases hc257 : v24 < (32 : Int32)
    · simp only [if_pos hc257] at h
      refine OEndsQ.icmpF hm_0 rfl ((tlt hc257).2.1) ?_
      refine OEndsQ.adv hm_0 8 (pc' := 264) (L' := [qr 0, qu, qu, qu, qi v4, qi v5, qi v6, qr 1, qi v8, qi v9, qu, qi v11, qu, qu, qu, qi v15, qi v16, qi v17, qi v18, qi v19, qu, qi v21, qi v22, qi v23, qi v24, qi 0, qi 0, qi 0, qi 0, qu]) (S' := []) (H' := (qa scr :: bk0 zah zt zu zr zw zy zz zaf zag zv zx zaa zs zae zab zad zac [])) rfl ?_
      exact ok_L_law_264 (k355 := f_L_law_355 (f_L_law_245 k423 scr n) k423 scr) (ok_L_law_355 ih hk423) 100000 h
    · simp only [if_neg hc257] at h
      refine OEndsQ.icmpT hm_0 rfl (q := 423) rfl ((flt hc257).2.1) ?_
      show OEndsQ own_P 0 423 [qr 0, qu, qu, qu, qi v4, qi v5, qi v6, qr 1, qi v8, qi v9, qu, qi v11, qu, qu, qu, qi v15, qi v16, qi v17, qi v18, qi v19, qu, qi v21, qi v22, qi v23, qi v24, qu, qu, qu, qu, qu] [] (qa scr :: bk0 zah zt zu zr zw zy zz zaf zag zv zx zaa zs zae zab zad zac []) _
      exact hk423 h
theorem ok_L_law_234 {scr : List Int32} {kb : List Int32 → List Int32 → List Int32 → List Int32 → List Int32 → List Int32 → List Int32 → List Int32 → List Int32 → List Int32 → List Int32 → Int32 → Int32 → Int32 → Int32 → Int32 → Int32 → Int32 → Int32 → Int32 → Int32 → Option (Int32)} (hkb : ∀ {zt zu zr zw zy zz zaf zag zv zx zaa : List Int32} {zs zae zab zad zac v4 v5 v6 v8 v9 : Int32} {zah : List Int32} {d1 d2 d3 d10 d11 d12 d13 d14 d15 d16 d17 d18 d19 d20 d21 d22 d23 d24 d25 d26 d27 d28 d29 : Slot} {res : Int32}, kb zt zu zr zw zy zz zaf zag zv zx zaa zs zae zab zad zac v4 v5 v6 v8 v9 = some res → OEndsQ own_P 0 84 [qr 0, d1, d2, d3, qi v4, qi v5, qi v6, qr 1, qi v8, qi v9, d10, d11, d12, d13, d14, d15, d16, d17, d18, d19, d20, d21, d22, d23, d24, d25, d26, d27, d28, d29] [] (qa scr :: bk0 zah zt zu zr zw zy zz zaf zag zv zx zaa zs zae zab zad zac []) (LawQ res 0 0)) : ∀ {zt zu zr zw zy zz zaf zag zv zx zaa : List Int32} {zs zae zab zad zac v4 v5 v6 v8 v9 v11 v15 v16 v17 v18 v19 t0 : Int32} {zah : List Int32} {d1 d2 d3 d10 d12 d13 d14 d20 d21 d22 d23 d24 d25 d26 d27 d28 d29 : Slot} {res : Int32}, f_L_law_234 kb scr zt zu zr zw zy zz zaf zag zv zx zaa zs zae zab zad zac v4 v5 v6 v8 v9 v11 v15 v16 v17 v18 v19 t0 = some res → OEndsQ own_P 0 234 [qr 0, d1, d2, d3, qi v4, qi v5, qi v6, qr 1, qi v8, qi v9, d10, qi v11, d12, d13, d14, qi v15, qi v16, qi v17, qi v18, qi v19, d20, d21, d22, d23, d24, d25, d26, d27, d28, d29] [.int t0] (qa scr :: bk0 zah zt zu zr zw zy zz zaf zag zv zx zaa zs zae zab zad zac []) (LawQ res 0 0) := by
  intro zt zu zr zw zy zz zaf zag zv zx zaa zs zae zab zad zac v4 v5 v6 v8 v9 v11 v15 v16 v17 v18 v19 t0 zah d1 d2 d3 d10 d12 d13 d14 d20 d21 d22 d23 d24 d25 d26 d27 d28 d29 res h
  unfold f_L_law_234 at h
  refine OEndsQ.adv hm_0 7 (pc' := 245) (L' := [qr 0, qu, qu, qu, qi v4, qi v5, qi v6, qr 1, qi v8, qi v9, qu, qi v11, qu, qu, qu, qi v15, qi v16, qi v17, qi v18, qi v19, qu, qi t0, qi 0, qi 1, qi 0, qu, qu, qu, qu, qu]) (S' := []) (H' := (qa scr :: bk0 zah zt zu zr zw zy zz zaf zag zv zx zaa zs zae zab zad zac [])) rfl ?_
  exact ok_L_law_245 (k423 := f_L_law_423 kb scr) (ok_L_law_423 hkb) 100000 h
theorem ok_L_law_174 {scr : List Int32} {kb : List Int32 → List Int32 → List Int32 → List Int32 → List Int32 → List Int32 → List Int32 → List Int32 → List Int32 → List Int32 → List Int32 → Int32 → Int32 → Int32 → Int32 → Int32 → Int32 → Int32 → Int32 → Int32 → Int32 → Option (Int32)} (hkb : ∀ {zt zu zr zw zy zz zaf zag zv zx zaa : List Int32} {zs zae zab zad zac v4 v5 v6 v8 v9 : Int32} {zah : List Int32} {d1 d2 d3 d10 d11 d12 d13 d14 d15 d16 d17 d18 d19 d20 d21 d22 d23 d24 d25 d26 d27 d28 d29 : Slot} {res : Int32}, kb zt zu zr zw zy zz zaf zag zv zx zaa zs zae zab zad zac v4 v5 v6 v8 v9 = some res → OEndsQ own_P 0 84 [qr 0, d1, d2, d3, qi v4, qi v5, qi v6, qr 1, qi v8, qi v9, d10, d11, d12, d13, d14, d15, d16, d17, d18, d19, d20, d21, d22, d23, d24, d25, d26, d27, d28, d29] [] (qa scr :: bk0 zah zt zu zr zw zy zz zaf zag zv zx zaa zs zae zab zad zac []) (LawQ res 0 0)) : ∀ {zt zu zr zw zy zz zaf zag zv zx zaa : List Int32} {zs zae zab zad zac v4 v5 v6 v8 v9 v11 v12 v13 v14 t0 : Int32} {zah : List Int32} {d1 d2 d3 d10 d15 d16 d17 d18 d19 d20 d21 d22 d23 d24 d25 d26 d27 d28 d29 : Slot} {res : Int32}, f_L_law_174 kb scr zt zu zr zw zy zz zaf zag zv zx zaa zs zae zab zad zac v4 v5 v6 v8 v9 v11 v12 v13 v14 t0 = some res → OEndsQ own_P 0 174 [qr 0, d1, d2, d3, qi v4, qi v5, qi v6, qr 1, qi v8, qi v9, d10, qi v11, qi v12, qi v13, qi v14, d15, d16, d17, d18, d19, d20, d21, d22, d23, d24, d25, d26, d27, d28, d29] [.int t0] (qa scr :: bk0 zah zt zu zr zw zy zz zaf zag zv zx zaa zs zae zab zad zac []) (LawQ res 0 0) := by
  intro zt zu zr zw zy zz zaf zag zv zx zaa zs zae zab zad zac v4 v5 v6 v8 v9 v11 v12 v13 v14 t0 zah d1 d2 d3 d10 d15 d16 d17 d18 d19 d20 d21 d22 d23 d24 d25 d26 d27 d28 d29 res h
  unfold f_L_law_174 at h
  refine OEndsQ.adv hm_0 20 (pc' := 208) (L' := [qr 0, qu, qu, qu, qi v4, qi v5, qi v6, qr 1, qi v8, qi v9, qu, qi v11, qi v12, qi v13, qi v14, qi t0, qi (v13 % (33 : Int32)), qi (v14 % (9 : Int32)), qi (((v12 / (7 : Int32)) % (34 : Int32)) - (1 : Int32)), qu, qu, qu, qu, qu, qu, qu, qu, qu, qu, qu]) (S' := [.int (v14 % (9 : Int32)), .int (v13 % (33 : Int32)), .int t0]) (H' := (qa scr :: bk0 zah zt zu zr zw zy zz zaf zag zv zx zaa zs zae zab zad zac [])) rfl ?_
  obtain ⟨r196, hq258, h⟩ := bnd h
  refine OEndsQ.call0 hm_0 rfl rfl (by decide) rfl (as := [.int t0, .int (v13 % (33 : Int32)), .int (v14 % (9 : Int32))]) (rest := []) rfl rfl (ok_L_valid hq258) ?_
  refine OEndsQ.adv hm_0 5 (pc' := 219) (L' := [qr 0, qu, qu, qu, qi v4, qi v5, qi v6, qr 1, qi v8, qi v9, qu, qi v11, qi v12, qi v13, qi v14, qi t0, qi (v13 % (33 : Int32)), qi (v14 % (9 : Int32)), qi (((v12 / (7 : Int32)) % (34 : Int32)) - (1 : Int32)), qi r196, qi 0, qu, qu, qu, qu, qu, qu, qu, qu, qu]) (S' := [.int 4, .int v11]) (H' := (qa scr :: bk0 zah zt zu zr zw zy zz zaf zag zv zx zaa zs zae zab zad zac [])) rfl ?_
  by_cases hc259 : (4 : Int32) < v11
  · simp only [if_pos hc259] at h
    refine OEndsQ.icmpT hm_0 rfl (q := 495) rfl ((tlt hc259).2.2.1) ?_
    show OEndsQ own_P 0 495 [qr 0, qu, qu, qu, qi v4, qi v5, qi v6, qr 1, qi v8, qi v9, qu, qi v11, qi v12, qi v13, qi v14, qi t0, qi (v13 % (33 : Int32)), qi (v14 % (9 : Int32)), qi (((v12 / (7 : Int32)) % (34 : Int32)) - (1 : Int32)), qi r196, qi 0, qu, qu, qu, qu, qu, qu, qu, qu, qu] [] (qa scr :: bk0 zah zt zu zr zw zy zz zaf zag zv zx zaa zs zae zab zad zac []) _
    exact ok_L_law_495 hkb h
  · simp only [if_neg hc259] at h
    refine OEndsQ.icmpF hm_0 rfl ((flt hc259).2.2.1) ?_
    refine OEndsQ.adv hm_0 2 (pc' := 225) (L' := [qr 0, qu, qu, qu, qi v4, qi v5, qi v6, qr 1, qi v8, qi v9, qu, qi v11, qi v12, qi v13, qi v14, qi t0, qi (v13 % (33 : Int32)), qi (v14 % (9 : Int32)), qi (((v12 / (7 : Int32)) % (34 : Int32)) - (1 : Int32)), qi r196, qi 0, qu, qu, qu, qu, qu, qu, qu, qu, qu]) (S' := [.int 4, .int v11]) (H' := (qa scr :: bk0 zah zt zu zr zw zy zz zaf zag zv zx zaa zs zae zab zad zac [])) rfl ?_
    by_cases hc260 : v11 = (4 : Int32)
    · simp only [if_pos hc260] at h
      refine OEndsQ.icmpF hm_0 rfl ((teq hc260).2) ?_
      refine OEndsQ.adv hm_0 2 (pc' := 234) (L' := [qr 0, qu, qu, qu, qi v4, qi v5, qi v6, qr 1, qi v8, qi v9, qu, qi v11, qi v12, qi v13, qi v14, qi t0, qi (v13 % (33 : Int32)), qi (v14 % (9 : Int32)), qi (((v12 / (7 : Int32)) % (34 : Int32)) - (1 : Int32)), qi r196, qi 0, qu, qu, qu, qu, qu, qu, qu, qu, qu]) (S' := [.int (((v12 / (7 : Int32)) % (34 : Int32)) - (1 : Int32))]) (H' := (qa scr :: bk0 zah zt zu zr zw zy zz zaf zag zv zx zaa zs zae zab zad zac [])) rfl ?_
      exact ok_L_law_234 hkb h
    · simp only [if_neg hc260] at h
      refine OEndsQ.icmpT hm_0 rfl (q := 233) rfl ((feq hc260).2) ?_
      refine OEndsQ.adv hm_0 1 (pc' := 234) (L' := [qr 0, qu, qu, qu, qi v4, qi v5, qi v6, qr 1, qi v8, qi v9, qu, qi v11, qi v12, qi v13, qi v14, qi t0, qi (v13 % (33 : Int32)), qi (v14 % (9 : Int32)), qi (((v12 / (7 : Int32)) % (34 : Int32)) - (1 : Int32)), qi r196, qi 0, qu, qu, qu, qu, qu, qu, qu, qu, qu]) (S' := [.int (-1)]) (H' := (qa scr :: bk0 zah zt zu zr zw zy zz zaf zag zv zx zaa zs zae zab zad zac [])) rfl ?_
      exact ok_L_law_234 hkb h
theorem ok_L_law_84 {scr : List Int32} : ∀ (n : Nat), ∀ {zt zu zr zw zy zz zaf zag zv zx zaa : List Int32} {zs zae zab zad zac v4 v5 v6 v8 v9 : Int32} {zah : List Int32} {d1 d2 d3 d10 d11 d12 d13 d14 d15 d16 d17 d18 d19 d20 d21 d22 d23 d24 d25 d26 d27 d28 d29 : Slot} {res : Int32}, f_L_law_84 scr n zt zu zr zw zy zz zaf zag zv zx zaa zs zae zab zad zac v4 v5 v6 v8 v9 = some res → OEndsQ own_P 0 84 [qr 0, d1, d2, d3, qi v4, qi v5, qi v6, qr 1, qi v8, qi v9, d10, d11, d12, d13, d14, d15, d16, d17, d18, d19, d20, d21, d22, d23, d24, d25, d26, d27, d28, d29] [] (qa scr :: bk0 zah zt zu zr zw zy zz zaf zag zv zx zaa zs zae zab zad zac []) (LawQ res 0 0) := by
  intro n
  induction n with
  | zero => intro zt zu zr zw zy zz zaf zag zv zx zaa zs zae zab zad zac v4 v5 v6 v8 v9 zah d1 d2 d3 d10 d11 d12 d13 d14 d15 d16 d17 d18 d19 d20 d21 d22 d23 d24 d25 d26 d27 d28 d29 res h; cases h
  | succ n ih =>
    intro zt zu zr zw zy zz zaf zag zv zx zaa zs zae zab zad zac v4 v5 v6 v8 v9 zah d1 d2 d3 d10 d11 d12 d13 d14 d15 d16 d17 d18 d19 d20 d21 d22 d23 d24 d25 d26 d27 d28 d29 res h
    unfold f_L_law_84 at h
    refine OEndsQ.adv hm_0 2 (pc' := 88) (L' := [qr 0, qu, qu, qu, qi v4, qi v5, qi v6, qr 1, qi v8, qi v9, qu, qu, qu, qu, qu, qu, qu, qu, qu, qu, qu, qu, qu, qu, qu, qu, qu, qu, qu, qu]) (S' := [.int v8, .int v9]) (H' := (qa scr :: bk0 zah zt zu zr zw zy zz zaf zag zv zx zaa zs zae zab zad zac [])) rfl ?_
    by_cases hc261 : v9 < v8
    · simp only [if_pos hc261] at h
      refine OEndsQ.icmpF hm_0 rfl ((tlt hc261).2.1) ?_
      refine OEndsQ.adv hm_0 8 (pc' := 102) (L' := [qr 0, qu, qu, qu, qi v4, qi v5, qi v6, qr 1, qi v8, qi v9, qi ((3 : Int32) + ((4 : Int32) * v9)), qu, qu, qu, qu, qu, qu, qu, qu, qu, qu, qu, qu, qu, qu, qu, qu, qu, qu, qu]) (S' := [.int ((3 : Int32) + ((4 : Int32) * v9)), .ref 0]) (H' := (qa scr :: bk0 zah zt zu zr zw zy zz zaf zag zv zx zaa zs zae zab zad zac [])) rfl ?_
      obtain ⟨r188, hq262, h⟩ := bnd h
      refine OEndsQ.call0 hm_0 rfl rfl (by decide) rfl (as := [.ref 0, .int ((3 : Int32) + ((4 : Int32) * v9))]) (rest := []) rfl rfl (ok_L_cell hq262) ?_
      show OEndsQ own_P 0 105 [qr 0, qu, qu, qu, qi v4, qi v5, qi v6, qr 1, qi v8, qi v9, qi ((3 : Int32) + ((4 : Int32) * v9)), qu, qu, qu, qu, qu, qu, qu, qu, qu, qu, qu, qu, qu, qu, qu, qu, qu, qu, qu] [.int r188] (qa scr :: bk0 zah zt zu zr zw zy zz zaf zag zv zx zaa zs zae zab zad zac []) _
      obtain ⟨r189, hq263, h⟩ := bnd h
      refine OEndsQ.call0 hm_0 rfl rfl (by decide) rfl (as := [.int r188]) (rest := []) rfl rfl (ok_L_m hq263) ?_
      refine OEndsQ.adv hm_0 7 (pc' := 118) (L' := [qr 0, qu, qu, qu, qi v4, qi v5, qi v6, qr 1, qi v8, qi v9, qi ((3 : Int32) + ((4 : Int32) * v9)), qi (r189 % (8 : Int32)), qu, qu, qu, qu, qu, qu, qu, qu, qu, qu, qu, qu, qu, qu, qu, qu, qu, qu]) (S' := [.int (((3 : Int32) + ((4 : Int32) * v9)) + (1 : Int32)), .ref 0]) (H' := (qa scr :: bk0 zah zt zu zr zw zy zz zaf zag zv zx zaa zs zae zab zad zac [])) rfl ?_
      obtain ⟨r190, hq264, h⟩ := bnd h
      refine OEndsQ.call0 hm_0 rfl rfl (by decide) rfl (as := [.ref 0, .int (((3 : Int32) + ((4 : Int32) * v9)) + (1 : Int32))]) (rest := []) rfl rfl (ok_L_cell hq264) ?_
      show OEndsQ own_P 0 121 [qr 0, qu, qu, qu, qi v4, qi v5, qi v6, qr 1, qi v8, qi v9, qi ((3 : Int32) + ((4 : Int32) * v9)), qi (r189 % (8 : Int32)), qu, qu, qu, qu, qu, qu, qu, qu, qu, qu, qu, qu, qu, qu, qu, qu, qu, qu] [.int r190] (qa scr :: bk0 zah zt zu zr zw zy zz zaf zag zv zx zaa zs zae zab zad zac []) _
      obtain ⟨r191, hq265, h⟩ := bnd h
      refine OEndsQ.call0 hm_0 rfl rfl (by decide) rfl (as := [.int r190]) (rest := []) rfl rfl (ok_L_m hq265) ?_
      refine OEndsQ.adv hm_0 5 (pc' := 131) (L' := [qr 0, qu, qu, qu, qi v4, qi v5, qi v6, qr 1, qi v8, qi v9, qi ((3 : Int32) + ((4 : Int32) * v9)), qi (r189 % (8 : Int32)), qi r191, qu, qu, qu, qu, qu, qu, qu, qu, qu, qu, qu, qu, qu, qu, qu, qu, qu]) (S' := [.int (((3 : Int32) + ((4 : Int32) * v9)) + (2 : Int32)), .ref 0]) (H' := (qa scr :: bk0 zah zt zu zr zw zy zz zaf zag zv zx zaa zs zae zab zad zac [])) rfl ?_
      obtain ⟨r192, hq266, h⟩ := bnd h
      refine OEndsQ.call0 hm_0 rfl rfl (by decide) rfl (as := [.ref 0, .int (((3 : Int32) + ((4 : Int32) * v9)) + (2 : Int32))]) (rest := []) rfl rfl (ok_L_cell hq266) ?_
      show OEndsQ own_P 0 134 [qr 0, qu, qu, qu, qi v4, qi v5, qi v6, qr 1, qi v8, qi v9, qi ((3 : Int32) + ((4 : Int32) * v9)), qi (r189 % (8 : Int32)), qi r191, qu, qu, qu, qu, qu, qu, qu, qu, qu, qu, qu, qu, qu, qu, qu, qu, qu] [.int r192] (qa scr :: bk0 zah zt zu zr zw zy zz zaf zag zv zx zaa zs zae zab zad zac []) _
      obtain ⟨r193, hq267, h⟩ := bnd h
      refine OEndsQ.call0 hm_0 rfl rfl (by decide) rfl (as := [.int r192]) (rest := []) rfl rfl (ok_L_m hq267) ?_
      refine OEndsQ.adv hm_0 5 (pc' := 144) (L' := [qr 0, qu, qu, qu, qi v4, qi v5, qi v6, qr 1, qi v8, qi v9, qi ((3 : Int32) + ((4 : Int32) * v9)), qi (r189 % (8 : Int32)), qi r191, qi r193, qu, qu, qu, qu, qu, qu, qu, qu, qu, qu, qu, qu, qu, qu, qu, qu]) (S' := [.int (((3 : Int32) + ((4 : Int32) * v9)) + (3 : Int32)), .ref 0]) (H' := (qa scr :: bk0 zah zt zu zr zw zy zz zaf zag zv zx zaa zs zae zab zad zac [])) rfl ?_
      obtain ⟨r194, hq268, h⟩ := bnd h
      refine OEndsQ.call0 hm_0 rfl rfl (by decide) rfl (as := [.ref 0, .int (((3 : Int32) + ((4 : Int32) * v9)) + (3 : Int32))]) (rest := []) rfl rfl (ok_L_cell hq268) ?_
      show OEndsQ own_P 0 147 [qr 0, qu, qu, qu, qi v4, qi v5, qi v6, qr 1, qi v8, qi v9, qi ((3 : Int32) + ((4 : Int32) * v9)), qi (r189 % (8 : Int32)), qi r191, qi r193, qu, qu, qu, qu, qu, qu, qu, qu, qu, qu, qu, qu, qu, qu, qu, qu] [.int r194] (qa scr :: bk0 zah zt zu zr zw zy zz zaf zag zv zx zaa zs zae zab zad zac []) _
      obtain ⟨r195, hq269, h⟩ := bnd h
      refine OEndsQ.call0 hm_0 rfl rfl (by decide) rfl (as := [.int r194]) (rest := []) rfl rfl (ok_L_m hq269) ?_
      refine OEndsQ.adv hm_0 7 (pc' := 163) (L' := [qr 0, qu, qu, qu, qi v4, qi v5, qi v6, qr 1, qi v8, qi v9, qi ((3 : Int32) + ((4 : Int32) * v9)), qi (r189 % (8 : Int32)), qi r191, qi r193, qi r195, qi (r191 % (7 : Int32)), qu, qu, qu, qu, qu, qu, qu, qu, qu, qu, qu, qu, qu, qu]) (S' := [.int 6, .int (r191 % (7 : Int32))]) (H' := (qa scr :: bk0 zah zt zu zr zw zy zz zaf zag zv zx zaa zs zae zab zad zac [])) rfl ?_
      by_cases hc270 : (r191 % (7 : Int32)) < (6 : Int32)
      · simp only [if_pos hc270] at h
        refine OEndsQ.icmpF hm_0 rfl ((tlt hc270).2.1) ?_
        refine OEndsQ.adv hm_0 4 (pc' := 174) (L' := [qr 0, qu, qu, qu, qi v4, qi v5, qi v6, qr 1, qi v8, qi v9, qi ((3 : Int32) + ((4 : Int32) * v9)), qi (r189 % (8 : Int32)), qi r191, qi r193, qi r195, qi (r191 % (7 : Int32)), qu, qu, qu, qu, qu, qu, qu, qu, qu, qu, qu, qu, qu, qu]) (S' := [.int ((r191 % (7 : Int32)) % (3 : Int32))]) (H' := (qa scr :: bk0 zah zt zu zr zw zy zz zaf zag zv zx zaa zs zae zab zad zac [])) rfl ?_
        exact ok_L_law_174 ih h
      · simp only [if_neg hc270] at h
        refine OEndsQ.icmpT hm_0 rfl (q := 173) rfl ((flt hc270).2.1) ?_
        refine OEndsQ.adv hm_0 1 (pc' := 174) (L' := [qr 0, qu, qu, qu, qi v4, qi v5, qi v6, qr 1, qi v8, qi v9, qi ((3 : Int32) + ((4 : Int32) * v9)), qi (r189 % (8 : Int32)), qi r191, qi r193, qi r195, qi (r191 % (7 : Int32)), qu, qu, qu, qu, qu, qu, qu, qu, qu, qu, qu, qu, qu, qu]) (S' := [.int 3]) (H' := (qa scr :: bk0 zah zt zu zr zw zy zz zaf zag zv zx zaa zs zae zab zad zac [])) rfl ?_
        exact ok_L_law_174 ih h
    · simp only [if_neg hc261] at h
      refine OEndsQ.icmpT hm_0 rfl (q := 1028) rfl ((flt hc261).2.1) ?_
      refine OEndsQ.adv hm_0 1 (pc' := 1029) (L' := [qr 0, qu, qu, qu, qi v4, qi v5, qi v6, qr 1, qi v8, qi v9, qu, qu, qu, qu, qu, qu, qu, qu, qu, qu, qu, qu, qu, qu, qu, qu, qu, qu, qu, qu]) (S' := [.int 1]) (H' := (qa scr :: bk0 zah zt zu zr zw zy zz zaf zag zv zx zaa zs zae zab zad zac [])) rfl ?_
      cases h
      exact OEndsQ.iret hm_0 rfl rfl
theorem ok_L_law {scr : List Int32} {res : Int32} (h : f_L_law scr = some res) : OEndsQ own_P 0 0 [qr 0, qu, qu, qu, qu, qu, qu, qu, qu, qu, qu, qu, qu, qu, qu, qu, qu, qu, qu, qu, qu, qu, qu, qu, qu, qu, qu, qu, qu, qu] [] (qa scr :: []) (LawQ res 13 1178) := by
  unfold f_L_law at h
  refine OEndsQ.adv hm_0 2 (pc' := 2) (L' := [qr 0, qu, qu, qu, qu, qu, qu, qu, qu, qu, qu, qu, qu, qu, qu, qu, qu, qu, qu, qu, qu, qu, qu, qu, qu, qu, qu, qu, qu, qu]) (S' := [.int 0, .ref 0]) (H' := (qa scr :: [])) rfl ?_
  obtain ⟨r165, hq271, h⟩ := bnd h
  refine OEndsQ.call0 hm_0 rfl rfl (by decide) rfl (as := [.ref 0, .int 0]) (rest := []) rfl rfl (ok_L_cell hq271) ?_
  show OEndsQ own_P 0 5 [qr 0, qu, qu, qu, qu, qu, qu, qu, qu, qu, qu, qu, qu, qu, qu, qu, qu, qu, qu, qu, qu, qu, qu, qu, qu, qu, qu, qu, qu, qu] [.int r165] (qa scr :: []) _
  obtain ⟨r166, hq272, h⟩ := bnd h
  refine OEndsQ.call0 hm_0 rfl rfl (by decide) rfl (as := [.int r165]) (rest := []) rfl rfl (ok_L_m hq272) ?_
  refine OEndsQ.adv hm_0 5 (pc' := 13) (L' := [qr 0, qi (r166 % (4 : Int32)), qu, qu, qu, qu, qu, qu, qu, qu, qu, qu, qu, qu, qu, qu, qu, qu, qu, qu, qu, qu, qu, qu, qu, qu, qu, qu, qu, qu]) (S' := [.int 1, .ref 0]) (H' := (qa scr :: [])) rfl ?_
  obtain ⟨r167, hq273, h⟩ := bnd h
  refine OEndsQ.call0 hm_0 rfl rfl (by decide) rfl (as := [.ref 0, .int 1]) (rest := []) rfl rfl (ok_L_cell hq273) ?_
  show OEndsQ own_P 0 16 [qr 0, qi (r166 % (4 : Int32)), qu, qu, qu, qu, qu, qu, qu, qu, qu, qu, qu, qu, qu, qu, qu, qu, qu, qu, qu, qu, qu, qu, qu, qu, qu, qu, qu, qu] [.int r167] (qa scr :: []) _
  obtain ⟨r168, hq274, h⟩ := bnd h
  refine OEndsQ.call0 hm_0 rfl rfl (by decide) rfl (as := [.int r167]) (rest := []) rfl rfl (ok_L_m hq274) ?_
  refine OEndsQ.adv hm_0 5 (pc' := 24) (L' := [qr 0, qi (r166 % (4 : Int32)), qi (r168 % (4 : Int32)), qu, qu, qu, qu, qu, qu, qu, qu, qu, qu, qu, qu, qu, qu, qu, qu, qu, qu, qu, qu, qu, qu, qu, qu, qu, qu, qu]) (S' := [.int 2, .ref 0]) (H' := (qa scr :: [])) rfl ?_
  obtain ⟨r169, hq275, h⟩ := bnd h
  refine OEndsQ.call0 hm_0 rfl rfl (by decide) rfl (as := [.ref 0, .int 2]) (rest := []) rfl rfl (ok_L_cell hq275) ?_
  show OEndsQ own_P 0 27 [qr 0, qi (r166 % (4 : Int32)), qi (r168 % (4 : Int32)), qu, qu, qu, qu, qu, qu, qu, qu, qu, qu, qu, qu, qu, qu, qu, qu, qu, qu, qu, qu, qu, qu, qu, qu, qu, qu, qu] [.int r169] (qa scr :: []) _
  obtain ⟨r170, hq276, h⟩ := bnd h
  refine OEndsQ.call0 hm_0 rfl rfl (by decide) rfl (as := [.int r169]) (rest := []) rfl rfl (ok_L_m hq276) ?_
  refine OEndsQ.adv hm_0 15 (pc' := 48) (L' := [qr 0, qi (r166 % (4 : Int32)), qi (r168 % (4 : Int32)), qi (r170 % (4 : Int32)), qi (((r166 % (4 : Int32)) + (r168 % (4 : Int32))) + (r170 % (4 : Int32))), qi ((r168 % (4 : Int32)) + (r170 % (4 : Int32))), qi (r170 % (4 : Int32)), qu, qu, qu, qu, qu, qu, qu, qu, qu, qu, qu, qu, qu, qu, qu, qu, qu, qu, qu, qu, qu, qu, qu]) (S' := []) (H' := (qa scr :: [])) rfl ?_
  refine OEndsQ.made hm_0 rfl rfl (ks := 17) (c0 := 12) (s0 := 1161) rfl (Nat.le_of_ble_eq_true rfl) (Nat.le_of_ble_eq_true rfl) ?_
  refine OEndsQ.adv hm_0 4 (pc' := 55) (L' := [qr 0, qi (r166 % (4 : Int32)), qi (r168 % (4 : Int32)), qi (r170 % (4 : Int32)), qi (((r166 % (4 : Int32)) + (r168 % (4 : Int32))) + (r170 % (4 : Int32))), qi ((r168 % (4 : Int32)) + (r170 % (4 : Int32))), qi (r170 % (4 : Int32)), qu, qu, qu, qu, qu, qu, qu, qu, qu, qu, qu, qu, qu, qu, qu, qu, qu, qu, qu, qu, qu, qu, qu]) (S' := [.int (r170 % (4 : Int32)), .int (r168 % (4 : Int32)), .int (r166 % (4 : Int32)), .ref 1, .ref 1]) (H' := (qa scr :: (.inl (0, [.null, .null, .null, .null, .null, .null, .null, .null, .null, .null, .null, .null, .int 0, .int 0, .int 0, .int 0, .int 0]) : ACell) :: [])) rfl ?_
  obtain ⟨⟨s171, s172, s173, s174, s175, s176, s177, s178, s179, s180, s181, s182, s183, s184, s185, s186, s187⟩, hq277, h⟩ := bnd h
  refine OEndsQ.callN hm_0 rfl rfl (by decide) rfl (as := [.ref 1, .int (r166 % (4 : Int32)), .int (r168 % (4 : Int32)), .int (r170 % (4 : Int32))]) (rest := [.ref 1]) rfl rfl (c0 := 0) (s0 := 0) (ok_init hq277) (Nat.le_of_ble_eq_true rfl) (Nat.le_of_ble_eq_true rfl) ?_
  refine OEndsQ.adv hm_0 10 (pc' := 73) (L' := [qr 0, qi (r166 % (4 : Int32)), qi (r168 % (4 : Int32)), qi (r170 % (4 : Int32)), qi (((r166 % (4 : Int32)) + (r168 % (4 : Int32))) + (r170 % (4 : Int32))), qi ((r168 % (4 : Int32)) + (r170 % (4 : Int32))), qi (r170 % (4 : Int32)), qr 1, qi ((scr.length.toInt32 / (4 : Int32)) + (1 : Int32)), qu, qu, qu, qu, qu, qu, qu, qu, qu, qu, qu, qu, qu, qu, qu, qu, qu, qu, qu, qu, qu]) (S' := [.int 150, .int ((scr.length.toInt32 / (4 : Int32)) + (1 : Int32))]) (H' := (qa scr :: bk0 s171 s172 s173 s174 s175 s176 s177 s178 s179 s180 s181 s182 s183 s184 s185 s186 s187 [])) rfl ?_
  by_cases hc278 : (150 : Int32) < ((scr.length.toInt32 / (4 : Int32)) + (1 : Int32))
  · simp only [if_pos hc278] at h
    refine OEndsQ.icmpF hm_0 rfl ((tlt hc278).2.2.2) ?_
    refine OEndsQ.adv hm_0 4 (pc' := 84) (L' := [qr 0, qi (r166 % (4 : Int32)), qi (r168 % (4 : Int32)), qi (r170 % (4 : Int32)), qi (((r166 % (4 : Int32)) + (r168 % (4 : Int32))) + (r170 % (4 : Int32))), qi ((r168 % (4 : Int32)) + (r170 % (4 : Int32))), qi (r170 % (4 : Int32)), qr 1, qi 150, qi 0, qu, qu, qu, qu, qu, qu, qu, qu, qu, qu, qu, qu, qu, qu, qu, qu, qu, qu, qu, qu]) (S' := []) (H' := (qa scr :: bk0 s171 s172 s173 s174 s175 s176 s177 s178 s179 s180 s181 s182 s183 s184 s185 s186 s187 [])) rfl ?_
    exact ok_L_law_84 100000 h
  · simp only [if_neg hc278] at h
    refine OEndsQ.icmpT hm_0 rfl (q := 81) rfl ((flt hc278).2.2.2) ?_
    refine OEndsQ.adv hm_0 2 (pc' := 84) (L' := [qr 0, qi (r166 % (4 : Int32)), qi (r168 % (4 : Int32)), qi (r170 % (4 : Int32)), qi (((r166 % (4 : Int32)) + (r168 % (4 : Int32))) + (r170 % (4 : Int32))), qi ((r168 % (4 : Int32)) + (r170 % (4 : Int32))), qi (r170 % (4 : Int32)), qr 1, qi ((scr.length.toInt32 / (4 : Int32)) + (1 : Int32)), qi 0, qu, qu, qu, qu, qu, qu, qu, qu, qu, qu, qu, qu, qu, qu, qu, qu, qu, qu, qu, qu]) (S' := []) (H' := (qa scr :: bk0 s171 s172 s173 s174 s175 s176 s177 s178 s179 s180 s181 s182 s183 s184 s185 s186 s187 [])) rfl ?_
    exact ok_L_law_84 100000 h
theorem own_w0 {α : Type} (a x : α) (t : List α) : wrA (a :: t) 0 x = some (x :: t) := by
  have h : ¬ (0 : Int32) < 0 := by decide
  have e : (0 : Int32).toNatClampNeg = 0 := rfl
  simp [wrA, h, e]
theorem own_w1 {α : Type} (a b x : α) (t : List α) : wrA (a :: b :: t) 1 x = some (a :: x :: t) := by
  have h : ¬ (1 : Int32) < 0 := by decide
  have e : (1 : Int32).toNatClampNeg = 1 := rfl
  simp [wrA, h, e]
theorem own_w2 {α : Type} (a b c x : α) (t : List α) : wrA (a :: b :: c :: t) 2 x = some (a :: b :: x :: t) := by
  have h : ¬ (2 : Int32) < 0 := by decide
  have e : (2 : Int32).toNatClampNeg = 2 := rfl
  simp [wrA, h, e]
theorem own_r0 {α : Type} (a : α) (t : List α) : rdA (a :: t) 0 = some a := by
  have h : ¬ (0 : Int32) < 0 := by decide
  have e : (0 : Int32).toNatClampNeg = 0 := rfl
  simp [rdA, h, e]
theorem own_r1 {α : Type} (a b : α) (t : List α) : rdA (a :: b :: t) 1 = some b := by
  have h : ¬ (1 : Int32) < 0 := by decide
  have e : (1 : Int32).toNatClampNeg = 1 := rfl
  simp [rdA, h, e]
theorem own_r2 {α : Type} (a b c : α) (t : List α) : rdA (a :: b :: c :: t) 2 = some c := by
  have h : ¬ (2 : Int32) < 0 := by decide
  have e : (2 : Int32).toNatClampNeg = 2 := rfl
  simp [rdA, h, e]
theorem own_fill {α : Type} (a b : α) (i m : Nat) {j : Int32} (hj : j.toInt = i) : wrA (List.replicate i a ++ List.replicate (m + 1) b) j a = some (List.replicate (i + 1) a ++ List.replicate m b) := by
  rw [wrA_in (by omega) (by rw [List.length_append, List.length_replicate, List.length_replicate]; omega)]
  have e : j.toInt.toNat = i := by omega
  rw [e, List.set_append_right _ _ (by simp), List.length_replicate, Nat.sub_self, List.replicate_succ, List.set_cons_zero, List.replicate_succ' (n := i), List.append_assoc]
  (first | done | rfl | simp)
theorem own_rs2 : ∀ (m n i : Nat) (s j : Int32), m < n → j.toInt = i → i + m = 32 →
    f_resetStays_2 n (List.replicate i 0 ++ List.replicate m 0) (List.replicate i 0 ++ List.replicate m 0) (List.replicate i 0 ++ List.replicate m 0) (List.replicate i 0 ++ List.replicate m 0) s j = some (List.replicate 32 0, List.replicate 32 0, List.replicate 32 0, List.replicate 32 0, 0) := by
  intro m
  induction m with
  | zero =>
    intro n i s j h1 h2 h3
    obtain ⟨n, rfl⟩ : ∃ n', n = n' + 1 := ⟨n - 1, by omega⟩
    unfold f_resetStays_2
    have e : i = 32 := by omega
    rw [if_neg (by ((try simp only [ilt, ile, ieq, iadd_e, isub_e, imul_e, Int32.reduceToInt] at *) <;> omega)), e]
    (first | done | rfl | simp)
  | succ m ih =>
    intro n i s j h1 h2 h3
    obtain ⟨n, rfl⟩ : ∃ n', n = n' + 1 := ⟨n - 1, by omega⟩
    unfold f_resetStays_2
    rw [if_pos (by clear ih; ((try simp only [ilt, ile, ieq, iadd_e, isub_e, imul_e, Int32.reduceToInt] at *) <;> omega)), own_fill 0 0 i m h2]
    simp only [Option.bind_some]
    exact ih n (i + 1) s (j + 1) (by omega) (by clear ih; ((try simp only [ilt, ile, ieq, iadd_e, isub_e, imul_e, Int32.reduceToInt] at *) <;> omega)) (by omega)
theorem own_rs : f_resetStays (List.replicate 32 0) (List.replicate 32 0) (List.replicate 32 0) (List.replicate 32 0) 0 = some (List.replicate 32 0, List.replicate 32 0, List.replicate 32 0, List.replicate 32 0, 0) := by
  unfold f_resetStays
  exact own_rs2 32 100000 0 0 0 (by decide) rfl rfl
theorem own_rc2 : ∀ (m n i : Nat) (j : Int32), m < n → j.toInt = i → i + m = 96 →
    f_resetCounts_2 n (List.replicate i 0 ++ List.replicate m 0) (List.replicate i 0 ++ List.replicate m 0) j = some (List.replicate 96 0, List.replicate 96 0) := by
  intro m
  induction m with
  | zero =>
    intro n i j h1 h2 h3
    obtain ⟨n, rfl⟩ : ∃ n', n = n' + 1 := ⟨n - 1, by omega⟩
    unfold f_resetCounts_2
    have e : i = 96 := by omega
    rw [if_neg (by ((try simp only [ilt, ile, ieq, iadd_e, isub_e, imul_e, Int32.reduceToInt] at *) <;> omega)), e]
    (first | done | rfl | simp)
  | succ m ih =>
    intro n i j h1 h2 h3
    obtain ⟨n, rfl⟩ : ∃ n', n = n' + 1 := ⟨n - 1, by omega⟩
    unfold f_resetCounts_2
    rw [if_pos (by clear ih; ((try simp only [ilt, ile, ieq, iadd_e, isub_e, imul_e, Int32.reduceToInt] at *) <;> omega)), own_fill 0 0 i m h2]
    simp only [Option.bind_some]
    exact ih n (i + 1) (j + 1) (by omega) (by clear ih; ((try simp only [ilt, ile, ieq, iadd_e, isub_e, imul_e, Int32.reduceToInt] at *) <;> omega)) (by omega)
theorem own_rc : f_resetCounts (List.replicate 96 0) (List.replicate 96 0) = some (List.replicate 96 0, List.replicate 96 0) := by
  unfold f_resetCounts
  exact own_rc2 96 100000 0 0 (by decide) rfl rfl
theorem own_cp30 (R O : List Int32) (l : Int32) : ∀ (m n i : Nat) (j : Int32), m < n → j.toInt = i → i + m = 768 →
    f_clearPlan_30 n R (List.replicate i (-1) ++ List.replicate m 0) O l j = some (R, List.replicate 768 (-1), O, 0) := by
  intro m
  induction m with
  | zero =>
    intro n i j h1 h2 h3
    obtain ⟨n, rfl⟩ : ∃ n', n = n' + 1 := ⟨n - 1, by omega⟩
    unfold f_clearPlan_30
    have e : i = 768 := by omega
    rw [if_neg (by ((try simp only [ilt, ile, ieq, iadd_e, isub_e, imul_e, Int32.reduceToInt] at *) <;> omega)), e, List.replicate_zero, List.append_nil]
  | succ m ih =>
    intro n i j h1 h2 h3
    obtain ⟨n, rfl⟩ : ∃ n', n = n' + 1 := ⟨n - 1, by omega⟩
    unfold f_clearPlan_30
    rw [if_pos (by clear ih; ((try simp only [ilt, ile, ieq, iadd_e, isub_e, imul_e, Int32.reduceToInt] at *) <;> omega)), own_fill (-1) 0 i m h2, Option.bind_some]
    exact ih n (i + 1) (j + 1) (by omega) (by clear ih; ((try simp only [ilt, ile, ieq, iadd_e, isub_e, imul_e, Int32.reduceToInt] at *) <;> omega)) (by omega)
theorem own_cp2 (G : List Int32) (l : Int32) (k30 : List Int32 → List Int32 → List Int32 → Int32 → Int32 → Option (List Int32 × List Int32 × List Int32 × Int32)) : ∀ (m n i : Nat) (j : Int32), m < n → j.toInt = i → i + m = 32 →
    f_clearPlan_2 k30 n (List.replicate i (-1) ++ List.replicate m 0) G (List.replicate i 0 ++ List.replicate m 0) l j = k30 (List.replicate 32 (-1)) G (List.replicate 32 0) l 0 := by
  intro m
  induction m with
  | zero =>
    intro n i j h1 h2 h3
    obtain ⟨n, rfl⟩ : ∃ n', n = n' + 1 := ⟨n - 1, by omega⟩
    unfold f_clearPlan_2
    have e : i = 32 := by omega
    rw [if_neg (by ((try simp only [ilt, ile, ieq, iadd_e, isub_e, imul_e, Int32.reduceToInt] at *) <;> omega)), e, List.replicate_zero, List.append_nil, List.append_nil]
  | succ m ih =>
    intro n i j h1 h2 h3
    obtain ⟨n, rfl⟩ : ∃ n', n = n' + 1 := ⟨n - 1, by omega⟩
    unfold f_clearPlan_2
    rw [if_pos (by clear ih; ((try simp only [ilt, ile, ieq, iadd_e, isub_e, imul_e, Int32.reduceToInt] at *) <;> omega)), own_fill (-1) 0 i m h2, Option.bind_some, own_fill 0 0 i m h2, Option.bind_some]
    exact ih n (i + 1) (j + 1) (by omega) (by clear ih; ((try simp only [ilt, ile, ieq, iadd_e, isub_e, imul_e, Int32.reduceToInt] at *) <;> omega)) (by omega)
theorem own_cp : f_clearPlan (List.replicate 32 0) (List.replicate 768 0) (List.replicate 32 0) 0 = some (List.replicate 32 (-1), List.replicate 768 (-1), List.replicate 32 0, 0) := by
  unfold f_clearPlan
  have a := own_cp2 (List.replicate 768 0) 0 (f_clearPlan_30 100000) 32 100000 0 0 (by decide) rfl rfl
  have b := own_cp30 (List.replicate 32 (-1)) (List.replicate 32 0) 0 768 100000 0 0 (by decide) rfl rfl
  rw [List.replicate_zero, List.nil_append, List.replicate_zero, List.nil_append] at a
  rw [List.replicate_zero, List.nil_append] at b
  rw [a, b]
def own_cl (v : Int32) : Int32 := if v < (0 : Int32) then (0 : Int32) else (if (8 : Int32) < v then (8 : Int32) else v)
theorem own_init (v1 v2 v3 : Int32) : f_init v1 v2 v3 = some ([own_cl v1, own_cl v2, own_cl v3], [own_cl v1 + own_cl v2 + own_cl v3, own_cl v2 + own_cl v3, own_cl v3], [0, own_cl v1, own_cl v1 + own_cl v2], List.replicate 32 0, List.replicate 32 0, List.replicate 32 0, List.replicate 32 0, List.replicate 96 0, List.replicate 96 0, List.replicate 32 (-1), List.replicate 768 (-1), List.replicate 32 0, own_cl v1 + own_cl v2 + own_cl v3, 0, 0, 0, 0) := by
  have e3 : (List.replicate 3 0 : List Int32) = [0, 0, 0] := rfl
  have a1 : ∀ v, f_clampRooms v = some (own_cl v) := fun v => rfl
  simp only [f_init, a1, Option.bind_some, e3, own_w0, own_w1, own_w2, f_computeRoomTables, own_r0, own_r1, own_r2, own_rs, own_rc, own_cp]
def own_wn (w m : Int32) : Prop := 0 ≤ w.toInt ∧ w.toInt < 3 ∧ 0 ≤ m.toInt ∧ m.toInt < 32
theorem own_wx {w m : Int32} (h : own_wn w m) : (w * 32 + m).toInt = w.toInt * 32 + m.toInt := by
  obtain ⟨a, b, c, d⟩ := h
  ((try simp only [ilt, ile, ieq, iadd_e, isub_e, imul_e, Int32.reduceToInt] at *) <;> omega)
theorem own_ix_ne {w m u n : Int32} (h : own_wn w m) (g : own_wn u n) : (u * 32 + n = w * 32 + m) ↔ (w.toInt = u.toInt ∧ m.toInt = n.toInt) := by
  rw [ieq, own_wx h, own_wx g]
  obtain ⟨a, b, c, d⟩ := h
  obtain ⟨a', b', c', d'⟩ := g
  omega
theorem own_set2 {A : List Int32} (hA : A.length = 96) {u n w m x : Int32} (g : own_wn u n) (h : own_wn w m) : gI (A.set (u * 32 + n).toInt.toNat x) (w * 32 + m) = if w.toInt = u.toInt ∧ m.toInt = n.toInt then x else gI A (w * 32 + m) := by
  have e1 := own_wx h
  have e2 := own_wx g
  have q := own_ix_ne h g
  obtain ⟨a, b, c, d⟩ := h
  obtain ⟨a', b', c', d'⟩ := g
  rw [gset (by omega) (by omega) (by omega)]
  by_cases k : w.toInt = u.toInt ∧ m.toInt = n.toInt
  · rw [if_pos k, if_pos (q.mpr k)]
  · rw [if_neg k, if_neg (fun z => k (q.mp z))]
theorem own_adj84 {Q : List Int32 × List Int32 → Prop} (k53 : List Int32 → List Int32 → Int32 → Int32 → Int32 → Int32 → Option (List Int32 × List Int32)) (ST SA SN EX AL0 : List Int32) (δ ty e n : Int32) (ht0 : 0 ≤ ty.toInt) (ht2 : ty.toInt ≤ 2) (hn0 : 0 ≤ n.toInt) (hn : n.toInt < 32)
    (hk : ∀ AL' : List Int32, AL'.length = 96 → (∀ w m : Int32, own_wn w m → gI AL' (w * 32 + m) = gI AL0 (w * 32 + m) + (if m.toInt = n.toInt ∧ w.toInt ≤ ty.toInt then δ else 0)) → Tot (k53 EX AL' δ ty e (n + 1)) Q) :
    ∀ (fuel : Nat) (AL : List Int32) (u : Int32), AL.length = 96 → 0 ≤ u.toInt → u.toInt ≤ ty.toInt + 1 → 3 - u.toInt < fuel → (∀ w m : Int32, own_wn w m → gI AL (w * 32 + m) = gI AL0 (w * 32 + m) + (if m.toInt = n.toInt ∧ w.toInt < u.toInt then δ else 0)) → Tot (f_adjustCoverage_84 k53 ST SA SN fuel EX AL δ ty e n u) Q := by
  intro fuel
  induction fuel with
  | zero => intro AL u h1 h2 h3 h4; exfalso; omega
  | succ fuel ih =>
    intro AL u h1 h2 h3 h4 h5
    unfold f_adjustCoverage_84
    refine Tot.ite (fun g => ?_) (fun g => ?_)
    · have g' := ilt.mp g
      refine hk AL h1 (fun w m hw => ?_)
      rw [h5 w m hw]
      have hi := hw
      obtain ⟨a, b, c, d⟩ := hi
      by_cases k : m.toInt = n.toInt ∧ w.toInt ≤ ty.toInt
      · rw [if_pos k, if_pos ⟨k.1, by omega⟩]
      · rw [if_neg k, if_neg (fun z => k ⟨z.1, by omega⟩)]
    · have g' : ¬ ty.toInt < u.toInt := fun z => g (ilt.mpr z)
      have gu : own_wn u n := ⟨h2, by omega, hn0, hn⟩
      have ei := own_wx gu
      have eu : (u + 1).toInt = u.toInt + 1 := by clear ih h5 hk ei; ((try simp only [ilt, ile, ieq, iadd_e, isub_e, imul_e, Int32.reduceToInt] at *) <;> omega)
      unfold f_countIndex
      rw [Option.bind_some]
      refine Tot.rdI (by omega) (by omega) (Tot.wr (by omega) (by omega) (fun A' q1 q2 => ?_))
      refine ih A' (u + 1) (by omega) (by omega) (by omega) (by omega) (fun w m hw => ?_)
      rw [q1, own_set2 h1 gu hw]
      have p := h5 w m hw
      have p0 := h5 u n gu
      rw [if_neg (by omega), Int32.add_zero] at p0
      have hi := hw
      obtain ⟨a, b, c, d⟩ := hi
      by_cases k : w.toInt = u.toInt ∧ m.toInt = n.toInt
      · rw [if_pos k, p0, if_pos ⟨k.2, by omega⟩]
        have ew : w = u := ieq.mpr k.1
        have em : m = n := ieq.mpr k.2
        rw [ew, em]
      · rw [if_neg k, p]
        by_cases k2 : m.toInt = n.toInt ∧ w.toInt < u.toInt
        · rw [if_pos k2, if_pos ⟨k2.1, by omega⟩]
        · rw [if_neg k2, if_neg (fun z => by
            apply k2
            refine ⟨z.1, ?_⟩
            have z2 := z.2
            have nz : ¬ w.toInt = u.toInt := fun y => k ⟨y, z.1⟩
            omega)]
def own_cov (EX0 AL0 : List Int32) (δ ty a e : Int32) (EX AL : List Int32) : Prop :=
  EX.length = 96 ∧ AL.length = 96 ∧ ∀ w m : Int32, own_wn w m →
    gI EX (w * 32 + m) = gI EX0 (w * 32 + m) + (if w.toInt = ty.toInt ∧ a.toInt ≤ m.toInt ∧ m.toInt < e.toInt then δ else 0) ∧
    gI AL (w * 32 + m) = gI AL0 (w * 32 + m) + (if w.toInt ≤ ty.toInt ∧ a.toInt ≤ m.toInt ∧ m.toInt < e.toInt then δ else 0)
theorem own_adj53 (ST SA SN EX0 AL0 : List Int32) (δ ty a e : Int32) (ht0 : 0 ≤ ty.toInt) (ht2 : ty.toInt ≤ 2) (ha : 0 ≤ a.toInt) (he : e.toInt ≤ 32) :
    ∀ (fuel : Nat) (EX AL : List Int32) (j : Int32), a.toInt ≤ j.toInt → j.toInt ≤ e.toInt → 32 - j.toInt < fuel → own_cov EX0 AL0 δ ty a j EX AL → Tot (f_adjustCoverage_53 ST SA SN fuel EX AL δ ty e j) (fun r => own_cov EX0 AL0 δ ty a e r.1 r.2) := by
  intro fuel
  induction fuel with
  | zero => intro EX AL j h1 h2 h3; exfalso; omega
  | succ fuel ih =>
    intro EX AL j h1 h2 h3 h4
    have e0 : (0 : Int32).toInt = 0 := rfl
    unfold f_adjustCoverage_53
    refine Tot.ite (fun g => ?_) (fun g0 => Tot.ite (fun g => ?_) (fun g => ?_))
    · exfalso
      rw [ilt] at g
      omega
    · have g' := ilt.mp g
      obtain ⟨l1, l2, h5⟩ := h4
      have gu : own_wn ty j := ⟨ht0, by omega, by omega, by omega⟩
      have ei := own_wx gu
      have ej : (j + 1).toInt = j.toInt + 1 := by clear ih h5 ei; ((try simp only [ilt, ile, ieq, iadd_e, isub_e, imul_e, Int32.reduceToInt] at *) <;> omega)
      unfold f_countIndex
      rw [Option.bind_some]
      refine Tot.rdI (by omega) (by omega) (Tot.wr (by omega) (by omega) (fun EX' q1 q2 => ?_))
      refine own_adj84 _ ST SA SN EX' AL δ ty e j ht0 ht2 (by omega) (by omega) (fun AL' l3 h6 => ?_) 100000 AL 0 l2 (by decide) (by omega) (by decide) (fun w m hw => ?_)
      · refine ih EX' AL' (j + 1) (by omega) (by omega) (by omega) ⟨by omega, l3, fun w m hw => ⟨?_, ?_⟩⟩
        · rw [q1, own_set2 l1 gu hw]
          have p := (h5 w m hw).1
          have p0 := (h5 ty j gu).1
          rw [if_neg (by omega), Int32.add_zero] at p0
          by_cases k : w.toInt = ty.toInt ∧ m.toInt = j.toInt
          · rw [if_pos k, p0, if_pos ⟨k.1, by omega, by omega⟩]
            have ew : w = ty := ieq.mpr k.1
            have em : m = j := ieq.mpr k.2
            rw [ew, em]
          · rw [if_neg k, p]
            by_cases k2 : w.toInt = ty.toInt ∧ a.toInt ≤ m.toInt ∧ m.toInt < j.toInt
            · rw [if_pos k2, if_pos ⟨k2.1, k2.2.1, by omega⟩]
            · rw [if_neg k2, if_neg (fun z => by
                apply k2
                refine ⟨z.1, z.2.1, ?_⟩
                have z2 := z.2.2
                have nz : ¬ m.toInt = j.toInt := fun y => k ⟨z.1, y⟩
                omega)]
        · rw [h6 w m hw, (h5 w m hw).2]
          by_cases k : m.toInt = j.toInt ∧ w.toInt ≤ ty.toInt
          · rw [if_pos k, if_neg (by omega), if_pos ⟨k.2, by omega, by omega⟩, Int32.add_zero]
          · rw [if_neg k, Int32.add_zero]
            by_cases k2 : w.toInt ≤ ty.toInt ∧ a.toInt ≤ m.toInt ∧ m.toInt < j.toInt
            · rw [if_pos k2, if_pos ⟨k2.1, k2.2.1, by omega⟩]
            · rw [if_neg k2, if_neg (fun z => by
                apply k2
                refine ⟨z.1, z.2.1, ?_⟩
                have z2 := z.2.2
                have nz : ¬ m.toInt = j.toInt := fun y => k ⟨y, z.1⟩
                omega)]
      · rw [if_neg (by obtain ⟨q1', -, -, -⟩ := hw; omega), Int32.add_zero]
    · have g' : ¬ j.toInt < e.toInt := fun z => g (ilt.mpr z)
      have ee : j = e := ieq.mpr (by omega)
      rw [ee] at h4
      exact Tot.mk h4
theorem own_cov0 {EX AL : List Int32} (h1 : EX.length = 96) (h2 : AL.length = 96) (δ ty a : Int32) : own_cov EX AL δ ty a a EX AL := by
  refine ⟨h1, h2, fun w m hw => ⟨?_, ?_⟩⟩
  · rw [if_neg (by omega), Int32.add_zero]
  · rw [if_neg (by omega), Int32.add_zero]
theorem own_adjust {ST SA SN EX AL : List Int32} (hT : ST.length = 32) (hA : SA.length = 32) (hN : SN.length = 32) (hE : EX.length = 96) (hL : AL.length = 96) {id : Int32} (hi0 : 0 ≤ id.toInt) (hi1 : id.toInt < 32) (δ : Int32)
    (ht0 : 0 ≤ (gI ST id).toInt) (ht2 : (gI ST id).toInt ≤ 2) (ha0 : 0 ≤ (gI SA id).toInt) (hk0 : 0 ≤ (gI SN id).toInt) (hk : (gI SA id).toInt + (gI SN id).toInt ≤ 32) :
    Tot (f_adjustCoverage ST SA SN EX AL id δ) (fun r => own_cov EX AL δ (gI ST id) (gI SA id) (gI SA id + gI SN id) r.1 r.2) := by
  have e0 : (0 : Int32).toInt = 0 := rfl
  have e32 : (32 : Int32).toInt = 32 := rfl
  have e3 : (3 : Int32).toInt = 3 := rfl
  unfold f_adjustCoverage
  rw [if_neg (by rw [ilt]; omega), if_pos (by rw [ilt]; omega)]
  refine Tot.rdI hi0 (by omega) ?_
  have vt : f_isValidType (gI ST id) = some 1 := by
    unfold f_isValidType
    rw [if_neg (by rw [ilt]; omega), if_pos (by rw [ilt]; omega)]
  rw [vt, Option.bind_some, if_neg (by decide)]
  refine Tot.rdI hi0 (by omega) (Tot.rdI hi0 (by omega) ?_)
  generalize gI ST id = ty at *
  generalize gI SA id = a at *
  generalize gI SN id = k at *
  have es : (a + k).toInt = a.toInt + k.toInt := by clear vt; ((try simp only [ilt, ile, ieq, iadd_e, isub_e, imul_e, Int32.reduceToInt] at *) <;> omega)
  unfold f_endOf
  rw [if_neg (by rw [ilt]; omega), Option.bind_some]
  exact own_adj53 ST SA SN EX AL δ ty a (a + k) ht0 ht2 ha0 (by omega) 100000 EX AL a (by omega) (by omega) (by omega) (own_cov0 hE hL δ ty a)
abbrev own_PS (AC ST SA SN EX AL : List Int32) : Prop := (AC.length = 32) ∧ (ST.length = 32) ∧ (SA.length = 32) ∧ (SN.length = 32) ∧ (EX.length = 96) ∧ (AL.length = 96) ∧ (∀ id : Int32, 0 ≤ id.toInt → id.toInt < 32 → (gI AC id = 0 ∧ gI ST id = 0 ∧ gI SA id = 0 ∧ gI SN id = 0) ∨ (gI AC id = 1 ∧ 0 ≤ (gI ST id).toInt ∧ (gI ST id).toInt ≤ 2 ∧ 0 ≤ (gI SA id).toInt ∧ 1 ≤ (gI SN id).toInt ∧ (gI SA id).toInt + (gI SN id).toInt ≤ 32))
theorem own_PS.lC {AC ST SA SN EX AL : List Int32} (self : own_PS AC ST SA SN EX AL) : AC.length = 32 := self.1
theorem own_PS.lT {AC ST SA SN EX AL : List Int32} (self : own_PS AC ST SA SN EX AL) : ST.length = 32 := self.2.1
theorem own_PS.lA {AC ST SA SN EX AL : List Int32} (self : own_PS AC ST SA SN EX AL) : SA.length = 32 := self.2.2.1
theorem own_PS.lN {AC ST SA SN EX AL : List Int32} (self : own_PS AC ST SA SN EX AL) : SN.length = 32 := self.2.2.2.1
theorem own_PS.lE {AC ST SA SN EX AL : List Int32} (self : own_PS AC ST SA SN EX AL) : EX.length = 96 := self.2.2.2.2.1
theorem own_PS.lL {AC ST SA SN EX AL : List Int32} (self : own_PS AC ST SA SN EX AL) : AL.length = 96 := self.2.2.2.2.2.1
theorem own_PS.ok {AC ST SA SN EX AL : List Int32} (self : own_PS AC ST SA SN EX AL) : ∀ id : Int32, 0 ≤ id.toInt → id.toInt < 32 → (gI AC id = 0 ∧ gI ST id = 0 ∧ gI SA id = 0 ∧ gI SN id = 0) ∨ (gI AC id = 1 ∧ 0 ≤ (gI ST id).toInt ∧ (gI ST id).toInt ≤ 2 ∧ 0 ≤ (gI SA id).toInt ∧ 1 ≤ (gI SN id).toInt ∧ (gI SA id).toInt + (gI SN id).toInt ≤ 32) := self.2.2.2.2.2.2
theorem own_act {AC : List Int32} (hl : AC.length = 32) (v : Int32) : (f_isActiveStay AC v = some 0 ∧ (v.toInt < 0 ∨ 32 ≤ v.toInt)) ∨ (f_isActiveStay AC v = some (gI AC v &&& 1) ∧ 0 ≤ v.toInt ∧ v.toInt < 32) := by
  have e0 : (0 : Int32).toInt = 0 := rfl
  unfold f_isActiveStay
  by_cases a : v < 0
  · rw [if_pos a]
    exact Or.inl ⟨rfl, Or.inl (by rw [ilt] at a; omega)⟩
  · have a' := a
    rw [ilt] at a'
    by_cases b : v < 32
    · have b' : v.toInt < 32 := ilt.mp b
      rw [if_neg a, if_pos b, rdg (by omega) (by omega), Option.bind_some]
      exact Or.inr ⟨rfl, by omega, b'⟩
    · have b' : ¬ v.toInt < 32 := fun z => b (ilt.mpr z)
      rw [if_neg a, if_neg b]
      exact Or.inl ⟨rfl, Or.inr (by omega)⟩
theorem own_act01 {AC ST SA SN EX AL : List Int32} (h : own_PS AC ST SA SN EX AL) (v : Int32) : (f_isActiveStay AC v = some 0 ∧ (0 ≤ v.toInt → v.toInt < 32 → gI AC v = 0)) ∨ (f_isActiveStay AC v = some 1 ∧ 0 ≤ v.toInt ∧ v.toInt < 32 ∧ gI AC v = 1 ∧ 0 ≤ (gI ST v).toInt ∧ (gI ST v).toInt ≤ 2 ∧ 0 ≤ (gI SA v).toInt ∧ 1 ≤ (gI SN v).toInt ∧ (gI SA v).toInt + (gI SN v).toInt ≤ 32) := by
  rcases own_act h.lC v with ⟨e, r⟩ | ⟨e, r0, r1⟩
  · exact Or.inl ⟨e, fun a b => by omega⟩
  · rcases h.ok v r0 r1 with ⟨k, -⟩ | ⟨k, k1, k2, k3, k4, k5⟩
    · left
      rw [e, k]
      exact ⟨by decide, fun _ _ => rfl⟩
    · right
      rw [e, k]
      exact ⟨by decide, r0, r1, rfl, k1, k2, k3, k4, k5⟩
theorem own_vt3 (t : Int32) : f_isValidType t = some 0 ∨ (f_isValidType t = some 1 ∧ 0 ≤ t.toInt ∧ t.toInt ≤ 2) := by
  have e0 : (0 : Int32).toInt = 0 := rfl
  have e3 : (3 : Int32).toInt = 3 := rfl
  unfold f_isValidType
  by_cases a : t < 0
  · rw [if_pos a]; exact Or.inl rfl
  · by_cases b : t < 3
    · rw [if_neg a, if_pos b]
      rw [ilt] at a b
      exact Or.inr ⟨rfl, by omega, by omega⟩
    · rw [if_neg a, if_neg b]; exact Or.inl rfl
theorem own_vn3 (t : Int32) : f_isValidNight t = some 0 ∨ (f_isValidNight t = some 1 ∧ 0 ≤ t.toInt ∧ t.toInt ≤ 31) := by
  have e0 : (0 : Int32).toInt = 0 := rfl
  have e3 : (32 : Int32).toInt = 32 := rfl
  unfold f_isValidNight
  by_cases a : t < 0
  · rw [if_pos a]; exact Or.inl rfl
  · by_cases b : t < 32
    · rw [if_neg a, if_pos b]
      rw [ilt] at a b
      exact Or.inr ⟨rfl, by omega, by omega⟩
    · rw [if_neg a, if_neg b]; exact Or.inl rfl
theorem own_rq (t a k : Int32) : (∃ e, f_requestError t a k = some e ∧ e.toInt < 0) ∨ (f_requestError t a k = some 0 ∧ 0 ≤ t.toInt ∧ t.toInt ≤ 2 ∧ 0 ≤ a.toInt ∧ a.toInt ≤ 31 ∧ 1 ≤ k.toInt ∧ a.toInt + k.toInt ≤ 32) := by
  have e1 : (1 : Int32).toInt = 1 := rfl
  have e32 : (32 : Int32).toInt = 32 := rfl
  unfold f_requestError
  rcases own_vt3 t with e | ⟨e, t0, t2⟩
  · rw [e, Option.bind_some, if_pos rfl]
    exact Or.inl ⟨_, rfl, by decide⟩
  · rw [e, Option.bind_some, if_neg (by decide)]
    rcases own_vn3 a with e | ⟨e, a0, a1⟩
    · rw [e, Option.bind_some, if_pos rfl]
      exact Or.inl ⟨_, rfl, by decide⟩
    · unfold f_isValidLength
      rw [e, Option.bind_some, if_neg (by decide), Option.bind_some]
      by_cases g : k < 1
      · rw [if_pos g, if_pos rfl]
        exact Or.inl ⟨_, rfl, by decide⟩
      · by_cases g2 : 32 - a < k
        · rw [if_neg g, if_pos g2, if_pos rfl]
          exact Or.inl ⟨_, rfl, by decide⟩
        · have es : (32 - a).toInt = 32 - a.toInt := by rw [isub_i (by omega) (by omega), e32]
          rw [if_neg g, if_neg g2, if_neg (by decide)]
          rw [ilt] at g g2
          exact Or.inr ⟨rfl, t0, t2, a0, a1, by omega, by omega⟩
theorem own_ala {AL : List Int32} (hL : AL.length = 96) {u n : Int32} (h : own_wn u n) : f_atLeastAt AL u n = some (gI AL (u * 32 + n)) := by
  have ei := own_wx h
  obtain ⟨a, b, c, d⟩ := h
  have e0 : (0 : Int32).toInt = 0 := rfl
  have e3 : (3 : Int32).toInt = 3 := rfl
  have e32 : (32 : Int32).toInt = 32 := rfl
  unfold f_atLeastAt f_countIndex f_isValidType f_isValidNight
  rw [if_neg (by rw [ilt]; omega), if_pos (by rw [ilt]; omega), Option.bind_some, if_neg (by decide), if_neg (by rw [ilt]; omega), if_pos (by rw [ilt]; omega), Option.bind_some, if_neg (by decide), Option.bind_some, rdg (by omega) (by omega), Option.bind_some]
theorem own_exc {AC ST SA SN EX AL : List Int32} (h : own_PS AC ST SA SN EX AL) (id u n : Int32) : ∃ r, f_exclusion AC ST SA SN id u n = some r := by
  have hT := h.lT
  have hA := h.lA
  have hN := h.lN
  unfold f_exclusion f_coversNight
  rcases own_act01 h id with ⟨e, -⟩ | ⟨e, r0, r1, -⟩
  · rw [e, Option.bind_some, if_pos rfl]; exact ⟨_, rfl⟩
  · rw [e, Option.bind_some, if_neg (by decide), rdg r0 (by omega), Option.bind_some]
    split
    · exact ⟨_, rfl⟩
    · rw [Option.bind_some, if_neg (by decide), rdg r0 (by omega), Option.bind_some]
      split
      · exact ⟨_, rfl⟩
      · rw [rdg r0 (by omega), Option.bind_some, Option.bind_some]; exact ⟨_, rfl⟩
theorem own_nf3 {R AC ST SA SN EX AL : List Int32} (h : own_PS AC ST SA SN EX AL) (hR : R.length = 3) {id t n : Int32} (hn0 : 0 ≤ n.toInt) (hn1 : n.toInt < 32) : ∀ (f : Nat) (u : Int32), 0 ≤ u.toInt → u.toInt ≤ 3 → 3 - u.toInt < f → ∃ r, f_nightFits_3 R AC ST SA SN AL f id t n u = some r := by
  intro f
  induction f with
  | zero => intro u h0 h1 h2; exfalso; omega
  | succ f ih =>
    intro u h0 h1 h2
    unfold f_nightFits_3
    split
    · exact ⟨_, rfl⟩
    · by_cases g : u < 3
      · have g' : u.toInt < 3 := ilt.mp g
        have eu : (u + 1).toInt = u.toInt + 1 := by clear ih h; ((try simp only [ilt, ile, ieq, iadd_e, isub_e, imul_e, Int32.reduceToInt] at *) <;> omega)
        obtain ⟨r, er⟩ := own_exc h id u n
        rw [if_pos g, own_ala h.lL ⟨h0, g', hn0, hn1⟩, Option.bind_some, er, Option.bind_some, rdg h0 (by omega), Option.bind_some]
        split
        · exact ⟨_, rfl⟩
        · exact ih (u + 1) (by omega) (by omega) (by omega)
      · rw [if_neg g]; exact ⟨_, rfl⟩
theorem own_fw {R AC ST SA SN EX AL : List Int32} (h : own_PS AC ST SA SN EX AL) (hR : R.length = 3) {id t a k : Int32} (ha0 : 0 ≤ a.toInt) (hk : 0 ≤ k.toInt) (hak : a.toInt + k.toInt ≤ 32) : ∃ r, f_fitsWith R AC ST SA SN AL id t a k = some r := by
  have es : (a + k).toInt = a.toInt + k.toInt := by clear h; ((try simp only [ilt, ile, ieq, iadd_e, isub_e, imul_e, Int32.reduceToInt] at *) <;> omega)
  have e32 : (32 : Int32).toInt = 32 := rfl
  have e0 : (0 : Int32).toInt = 0 := rfl
  have key : ∀ (f : Nat) (j : Int32), 0 ≤ j.toInt → j.toInt ≤ 32 → 32 - j.toInt < f → ∃ r, f_fitsWith_12 R AC ST SA SN AL f id t (a + k) j = some r := by
    intro f
    induction f with
    | zero => intro j h0 h1 h2; exfalso; omega
    | succ f ih =>
      intro j h0 h1 h2
      unfold f_fitsWith_12
      rw [if_neg (by rw [ilt]; omega)]
      by_cases g : j < a + k
      · have g' := ilt.mp g
        have ej : (j + 1).toInt = j.toInt + 1 := by clear ih h; ((try simp only [ilt, ile, ieq, iadd_e, isub_e, imul_e, Int32.reduceToInt] at *) <;> omega)
        obtain ⟨r, er⟩ := own_nf3 h hR (id := id) (t := t) h0 (by omega) 100000 0 (by decide) (by decide) (by decide)
        unfold f_nightFits
        rw [if_pos g, er, Option.bind_some]
        split
        · exact ⟨_, rfl⟩
        · exact ih (j + 1) (by omega) (by omega) (by omega)
      · rw [if_neg g]; exact ⟨_, rfl⟩
  unfold f_fitsWith f_endOf
  rw [if_neg (by rw [ilt]; omega), Option.bind_some]
  exact key 100000 a ha0 (by omega) (by omega)
theorem own_low {AC : List Int32} (hl : AC.length = 32) : ∀ (f : Nat) (j : Int32), 0 ≤ j.toInt → j.toInt ≤ 32 → 32 - j.toInt < f → f_lowestInactiveSlot_2 AC f j = some (-1) ∨ ∃ r : Int32, f_lowestInactiveSlot_2 AC f j = some r ∧ 0 ≤ r.toInt ∧ r.toInt < 32 ∧ gI AC r = 0 := by
  intro f
  induction f with
  | zero => intro j h0 h1 h2; exfalso; omega
  | succ f ih =>
    intro j h0 h1 h2
    unfold f_lowestInactiveSlot_2
    by_cases g : j < 32
    · have g' : j.toInt < 32 := ilt.mp g
      have ej : (j + 1).toInt = j.toInt + 1 := by clear ih; ((try simp only [ilt, ile, ieq, iadd_e, isub_e, imul_e, Int32.reduceToInt] at *) <;> omega)
      rw [if_pos g, rdg h0 (by omega), Option.bind_some]
      by_cases k : gI AC j = 0
      · rw [if_pos k]
        exact Or.inr ⟨j, rfl, h0, g', k⟩
      · rw [if_neg k]
        exact ih (j + 1) (by omega) (by omega) (by omega)
    · rw [if_neg g]; exact Or.inl rfl
theorem own_of {q : Int32} (h0 : 0 ≤ q.toInt) : Int32.ofNat q.toInt.toNat = q := by
  have := irng q
  rw [ieq, Int32.toInt_ofNat_of_lt (by omega)]
  omega
theorem own_gs {L : List Int32} (hl : L.length = 32) {id i x : Int32} (h0 : 0 ≤ id.toInt) (h1 : id.toInt < 32) (p : 0 ≤ i.toInt) : gI (L.set id.toInt.toNat x) i = if id = i then x else gI L i := gset h0 (by omega) p
theorem own_len {L : List Int32} {n : Nat} (hl : L.length = n) (k : Nat) (x : Int32) : (L.set k x).length = n := by rw [List.length_set]; exact hl
theorem own_put {AC ST SA SN EX AL EX' AL' : List Int32} (h : own_PS AC ST SA SN EX AL) {id t a k : Int32} (h0 : 0 ≤ id.toInt) (h1 : id.toInt < 32) (t0 : 0 ≤ t.toInt) (t2 : t.toInt ≤ 2) (a0 : 0 ≤ a.toInt) (k1 : 1 ≤ k.toInt) (ak : a.toInt + k.toInt ≤ 32) (l1 : EX'.length = 96) (l2 : AL'.length = 96) :
    own_PS (AC.set id.toInt.toNat 1) (ST.set id.toInt.toNat t) (SA.set id.toInt.toNat a) (SN.set id.toInt.toNat k) EX' AL' := by
  refine ⟨own_len h.lC _ _, own_len h.lT _ _, own_len h.lA _ _, own_len h.lN _ _, l1, l2, fun i p q => ?_⟩
  rw [own_gs h.lC h0 h1 p, own_gs h.lT h0 h1 p, own_gs h.lA h0 h1 p, own_gs h.lN h0 h1 p]
  by_cases e : id = i
  · rw [if_pos e, if_pos e, if_pos e, if_pos e]
    exact Or.inr ⟨rfl, t0, t2, a0, k1, ak⟩
  · rw [if_neg e, if_neg e, if_neg e, if_neg e]
    exact h.ok i p q
theorem own_drop {AC ST SA SN EX AL EX' AL' : List Int32} (h : own_PS AC ST SA SN EX AL) {id : Int32} (h0 : 0 ≤ id.toInt) (h1 : id.toInt < 32) (l1 : EX'.length = 96) (l2 : AL'.length = 96) :
    own_PS (AC.set id.toInt.toNat 0) (ST.set id.toInt.toNat 0) (SA.set id.toInt.toNat 0) (SN.set id.toInt.toNat 0) EX' AL' := by
  refine ⟨own_len h.lC _ _, own_len h.lT _ _, own_len h.lA _ _, own_len h.lN _ _, l1, l2, fun i p q => ?_⟩
  rw [own_gs h.lC h0 h1 p, own_gs h.lT h0 h1 p, own_gs h.lA h0 h1 p, own_gs h.lN h0 h1 p]
  by_cases e : id = i
  · rw [if_pos e, if_pos e, if_pos e, if_pos e]
    exact Or.inl ⟨rfl, rfl, rfl, rfl⟩
  · rw [if_neg e, if_neg e, if_neg e, if_neg e]
    exact h.ok i p q
theorem own_adj {AC ST SA SN EX AL : List Int32} (lT : ST.length = 32) (lA : SA.length = 32) (lN : SN.length = 32) (lE : EX.length = 96) (lL : AL.length = 96) {id t a k δ : Int32} (h0 : 0 ≤ id.toInt) (h1 : id.toInt < 32) (eT : gI ST id = t) (eA : gI SA id = a) (eN : gI SN id = k) (t0 : 0 ≤ t.toInt) (t2 : t.toInt ≤ 2) (a0 : 0 ≤ a.toInt) (k0 : 0 ≤ k.toInt) (ak : a.toInt + k.toInt ≤ 32) :
    ∃ EX' AL', f_adjustCoverage ST SA SN EX AL id δ = some (EX', AL') ∧ own_cov EX AL δ t a (a + k) EX' AL' := by
  obtain ⟨⟨x, y⟩, e, h⟩ := own_adjust lT lA lN lE lL h0 h1 δ (by rw [eT]; exact t0) (by rw [eT]; exact t2) (by rw [eA]; exact a0) (by rw [eN]; exact k0) (by rw [eA, eN]; exact ak)
  rw [eT, eA, eN] at h
  exact ⟨x, y, e, h⟩
theorem own_book {R AC ST SA SN EX AL : List Int32} (h : own_PS AC ST SA SN EX AL) (hR : R.length = 3) (n t a k : Int32) :
    (∃ e : Int32, e.toInt < 0 ∧ ∀ pc, f_book R AC ST SA SN EX AL n pc t a k = some (e, AC, ST, SA, SN, EX, AL, n, pc)) ∨
    (∃ (id : Int32) (EX' AL' : List Int32), 0 ≤ id.toInt ∧ id.toInt < 32 ∧ gI AC id = 0 ∧ own_cov EX AL 1 t a (a + k) EX' AL' ∧ (0 ≤ t.toInt ∧ t.toInt ≤ 2 ∧ 0 ≤ a.toInt ∧ 1 ≤ k.toInt ∧ a.toInt + k.toInt ≤ 32) ∧ ∀ pc, f_book R AC ST SA SN EX AL n pc t a k = some (id, AC.set id.toInt.toNat 1, ST.set id.toInt.toNat t, SA.set id.toInt.toNat a, SN.set id.toInt.toNat k, EX', AL', n + 1, 0)) := by
  have lC := h.lC
  have lT := h.lT
  have lA := h.lA
  have lN := h.lN
  rcases own_rq t a k with ⟨e, er, en⟩ | ⟨er, t0, t2, a0, a1, k1, ak⟩
  · left
    refine ⟨e, en, fun pc => ?_⟩
    unfold f_book
    rw [er, Option.bind_some, if_neg (by rw [ieq]; have e0 : (0 : Int32).toInt = 0 := rfl; omega)]
  · by_cases g : n < 32
    · obtain ⟨r, ef⟩ := own_fw h hR (id := -1) (t := t) a0 (by omega) ak
      by_cases gr : r = 0
      · left
        refine ⟨-4, by decide, fun pc => ?_⟩
        unfold f_book
        rw [er, Option.bind_some, if_pos rfl, if_pos g, ef, Option.bind_some, if_pos gr]
      · have lo : f_lowestInactiveSlot AC = f_lowestInactiveSlot_2 AC 100000 0 := rfl
        rcases own_low lC 100000 0 (by decide) (by decide) (by decide) with el | ⟨id, el, i0, i1, iz⟩
        · left
          refine ⟨-3, by decide, fun pc => ?_⟩
          unfold f_book
          rw [er, Option.bind_some, if_pos rfl, if_pos g, ef, Option.bind_some, if_neg gr, lo, el, Option.bind_some, if_pos (by decide)]
        · right
          have z : ∀ L : List Int32, L.length = 32 → ∀ x, gI (L.set id.toInt.toNat x) id = x := fun L hl x => by rw [own_gs hl i0 i1 i0, if_pos rfl]
          obtain ⟨EX', AL', ea, hc⟩ := own_adj (AC := AC) (own_len lT _ t) (own_len lA _ a) (own_len lN _ k) h.lE h.lL (δ := 1) i0 i1 (z ST lT t) (z SA lA a) (z SN lN k) t0 t2 a0 (by omega) ak
          refine ⟨id, EX', AL', i0, i1, iz, hc, ⟨t0, t2, a0, k1, ak⟩, fun pc => ?_⟩
          have e0 : (0 : Int32).toInt = 0 := rfl
          have ei : f_activateStay AC ST SA SN EX AL n id t a k = some (AC.set id.toInt.toNat 1, ST.set id.toInt.toNat t, SA.set id.toInt.toNat a, SN.set id.toInt.toNat k, EX', AL', n + 1) := by
            unfold f_activateStay f_storeStay
            rw [wrA_in i0 (by omega), Option.bind_some, wrA_in i0 (by omega), Option.bind_some, wrA_in i0 (by omega), Option.bind_some, Option.bind_some]
            show Option.bind (wrA AC id 1) _ = _
            rw [wrA_in i0 (by omega), Option.bind_some, ea, Option.bind_some]
          unfold f_book f_discardPlan
          rw [er, Option.bind_some, if_pos rfl, if_pos g, ef, Option.bind_some, if_neg gr, lo, el, Option.bind_some, if_neg (by rw [ilt]; omega), ei, Option.bind_some]
          rfl
    · left
      refine ⟨-3, by decide, fun pc => ?_⟩
      unfold f_book
      rw [er, Option.bind_some, if_pos rfl, if_neg g]
theorem own_cancel {AC ST SA SN EX AL : List Int32} (h : own_PS AC ST SA SN EX AL) (n id : Int32) :
    (∀ pc, f_cancel AC ST SA SN EX AL n pc id = some (-5, AC, ST, SA, SN, EX, AL, n, pc)) ∨
    (∃ EX' AL' : List Int32, 0 ≤ id.toInt ∧ id.toInt < 32 ∧ gI AC id = 1 ∧ own_cov EX AL (-1) (gI ST id) (gI SA id) (gI SA id + gI SN id) EX' AL' ∧ ∀ pc, f_cancel AC ST SA SN EX AL n pc id = some (0, AC.set id.toInt.toNat 0, ST.set id.toInt.toNat 0, SA.set id.toInt.toNat 0, SN.set id.toInt.toNat 0, EX', AL', n - 1, 0)) := by
  have lC := h.lC
  have lT := h.lT
  have lA := h.lA
  have lN := h.lN
  rcases own_act01 h id with ⟨e, -⟩ | ⟨e, i0, i1, ia, t0, t2, a0, k1, ak⟩
  · left
    intro pc
    unfold f_cancel
    rw [e, Option.bind_some, if_pos rfl]
  · right
    obtain ⟨EX', AL', ea, hc⟩ := own_adj (AC := AC) lT lA lN h.lE h.lL (δ := -1) i0 i1 rfl rfl rfl t0 t2 a0 (by omega) ak
    refine ⟨EX', AL', i0, i1, ia, hc, fun pc => ?_⟩
    have ed : f_deactivateStay AC ST SA SN EX AL n id = some (AC.set id.toInt.toNat 0, ST.set id.toInt.toNat 0, SA.set id.toInt.toNat 0, SN.set id.toInt.toNat 0, EX', AL', n - 1) := by
      unfold f_deactivateStay f_storeStay
      rw [ea, Option.bind_some]
      show Option.bind (wrA AC id 0) _ = _
      rw [wrA_in i0 (by omega), Option.bind_some, wrA_in i0 (by omega), Option.bind_some, wrA_in i0 (by omega), Option.bind_some, wrA_in i0 (by omega), Option.bind_some, Option.bind_some]
    unfold f_cancel f_discardPlan
    rw [e, Option.bind_some, if_neg (by decide), ed, Option.bind_some]
    rfl
def own_F (F : List Int32) : Prop := F.length = 3 ∧ ∀ i : Int32, 0 ≤ i.toInt → i.toInt < 3 → 0 ≤ (gI F i).toInt ∧ (gI F i).toInt ≤ 24
theorem own_nfs {R AC ST SA SN AL : List Int32} (lL : AL.length = 96) (hR : R.length = 3) {id t n : Int32} (n0 : 0 ≤ n.toInt) (n1 : n.toInt < 32) (t2 : t.toInt ≤ 2) (x : Int32 → Int32) (hx : ∀ w : Int32, 0 ≤ w.toInt → w.toInt ≤ 2 → f_exclusion AC ST SA SN id w n = some (x w)) : ∀ (f : Nat) (u : Int32), 0 ≤ u.toInt → u.toInt ≤ 3 → 3 - u.toInt < f →
    (f_nightFits_3 R AC ST SA SN AL f id t n u = some 1 ∧ ∀ w : Int32, u.toInt ≤ w.toInt → w.toInt ≤ t.toInt → ¬ gI R w < gI AL (w * 32 + n) - x w + 1) ∨ (f_nightFits_3 R AC ST SA SN AL f id t n u = some 0 ∧ ∃ w : Int32, u.toInt ≤ w.toInt ∧ w.toInt ≤ t.toInt ∧ gI R w < gI AL (w * 32 + n) - x w + 1) := by
  intro f
  induction f with
  | zero => intro u h0 h1 h2; exfalso; omega
  | succ f ih =>
    intro u h0 h1 h2
    unfold f_nightFits_3
    by_cases g : t < u
    · have g' := ilt.mp g
      left
      rw [if_pos g]
      exact ⟨rfl, fun w a b => by exfalso; omega⟩
    · have g' : ¬ t.toInt < u.toInt := fun z => g (ilt.mpr z)
      have g3 : u < 3 := ilt.mpr (show u.toInt < 3 by omega)
      have eu : (u + 1).toInt = u.toInt + 1 := by clear ih hx; ((try simp only [ilt, ile, ieq, iadd_e, isub_e, imul_e, Int32.reduceToInt] at *) <;> omega)
      rw [if_neg g, if_pos g3, own_ala lL ⟨h0, by omega, n0, n1⟩, Option.bind_some, hx u h0 (by omega), Option.bind_some, rdg h0 (by omega), Option.bind_some]
      by_cases k : gI R u < gI AL (u * 32 + n) - x u + 1
      · right
        rw [if_pos k]
        exact ⟨rfl, u, by omega, by omega, k⟩
      · rw [if_neg k]
        rcases ih (u + 1) (by omega) (by omega) (by omega) with ⟨e, q⟩ | ⟨e, w, p1, p2, p3⟩
        · left
          refine ⟨e, fun w a b => ?_⟩
          by_cases ew : w = u
          · rw [ew]; exact k
          · rw [ieq] at ew
            exact q w (by omega) b
        · right
          exact ⟨e, w, by omega, p2, p3⟩
def own_fit (R AL : List Int32) (x : Int32 → Int32 → Int32) (t a e : Int32) : Prop := ∀ n w : Int32, a.toInt ≤ n.toInt → n.toInt < e.toInt → 0 ≤ w.toInt → w.toInt ≤ t.toInt → ¬ gI R w < gI AL (w * 32 + n) - x w n + 1
theorem own_fts {R AC ST SA SN AL : List Int32} (lL : AL.length = 96) (hR : R.length = 3) {id t a k : Int32} (t2 : t.toInt ≤ 2) (a0 : 0 ≤ a.toInt) (k0 : 0 ≤ k.toInt) (ak : a.toInt + k.toInt ≤ 32) (x : Int32 → Int32 → Int32) (hx : ∀ w n : Int32, 0 ≤ w.toInt → w.toInt ≤ 2 → 0 ≤ n.toInt → n.toInt < 32 → f_exclusion AC ST SA SN id w n = some (x w n)) :
    (f_fitsWith R AC ST SA SN AL id t a k = some 1 ∧ own_fit R AL x t a (a + k)) ∨ (f_fitsWith R AC ST SA SN AL id t a k = some 0 ∧ ¬ own_fit R AL x t a (a + k)) := by
  have es : (a + k).toInt = a.toInt + k.toInt := by clear hx; ((try simp only [ilt, ile, ieq, iadd_e, isub_e, imul_e, Int32.reduceToInt] at *) <;> omega)
  have e32 : (32 : Int32).toInt = 32 := rfl
  have e0 : (0 : Int32).toInt = 0 := rfl
  have key : ∀ (f : Nat) (j : Int32), a.toInt ≤ j.toInt → j.toInt ≤ 32 → 32 - j.toInt < f → (f_fitsWith_12 R AC ST SA SN AL f id t (a + k) j = some 1 ∧ own_fit R AL x t j (a + k)) ∨ (f_fitsWith_12 R AC ST SA SN AL f id t (a + k) j = some 0 ∧ ¬ own_fit R AL x t a (a + k)) := by
    intro f
    induction f with
    | zero => intro j h0 h1 h2; exfalso; omega
    | succ f ih =>
      intro j h0 h1 h2
      unfold f_fitsWith_12
      rw [if_neg (by rw [ilt]; omega)]
      by_cases g : j < a + k
      · have g' := ilt.mp g
        have ej : (j + 1).toInt = j.toInt + 1 := by clear ih hx; ((try simp only [ilt, ile, ieq, iadd_e, isub_e, imul_e, Int32.reduceToInt] at *) <;> omega)
        unfold f_nightFits
        rw [if_pos g]
        rcases own_nfs lL hR (AC := AC) (ST := ST) (SA := SA) (SN := SN) (id := id) (n := j) (by omega) (by omega) t2 (fun w => x w j) (fun w p q => hx w j p q (by omega) (by omega)) 100000 0 (by decide) (by decide) (by decide) with ⟨e, q⟩ | ⟨e, w, p1, p2, p3⟩
        · rw [e, Option.bind_some, if_neg (by decide)]
          rcases ih (j + 1) (by omega) (by omega) (by omega) with ⟨e', q'⟩ | ⟨e', q'⟩
          · left
            refine ⟨e', fun n w a1 a2 a3 a4 => ?_⟩
            by_cases en : n = j
            · rw [en]; exact q w (by omega) a4
            · rw [ieq] at en
              exact q' n w (by omega) a2 a3 a4
          · exact Or.inr ⟨e', q'⟩
        · right
          rw [e, Option.bind_some, if_pos rfl]
          exact ⟨rfl, fun hh => hh j w h0 (by omega) (by omega) p2 p3⟩
      · have g' : ¬ j.toInt < (a + k).toInt := fun z => g (ilt.mpr z)
        left
        rw [if_neg g]
        exact ⟨rfl, fun n w a1 a2 _ _ => by exfalso; omega⟩
  unfold f_fitsWith f_endOf
  rw [if_neg (by rw [ilt]; omega), Option.bind_some]
  exact key 100000 a (by omega) (by omega) (by omega)
theorem own_x0 {AC ST SA SN : List Int32} (w n : Int32) : f_exclusion AC ST SA SN (-1) w n = some 0 := by
  unfold f_exclusion f_isActiveStay
  rw [if_pos (by decide), Option.bind_some, if_pos rfl]
def own_xs (t a k w n : Int32) : Int32 := if w.toInt ≤ t.toInt ∧ a.toInt ≤ n.toInt ∧ n.toInt < a.toInt + k.toInt then 1 else 0
theorem own_x1 {AC ST SA SN EX AL : List Int32} (h : own_PS AC ST SA SN EX AL) {id : Int32} (i0 : 0 ≤ id.toInt) (i1 : id.toInt < 32) (ia : gI AC id = 1) {w n : Int32} (w0 : 0 ≤ w.toInt) (w2 : w.toInt ≤ 2) (n0 : 0 ≤ n.toInt) (n1 : n.toInt < 32) : f_exclusion AC ST SA SN id w n = some (own_xs (gI ST id) (gI SA id) (gI SN id) w n) := by
  have lT := h.lT
  have lA := h.lA
  have lN := h.lN
  rcases own_act01 h id with ⟨e, z⟩ | ⟨e, -, -, -, t0, t2, a0, k1, ak⟩
  · have := z i0 i1
    rw [ia] at this
    exact absurd this (by decide)
  · unfold f_exclusion f_coversNight own_xs
    rw [e, Option.bind_some, if_neg (by decide), rdg i0 (by omega), Option.bind_some]
    by_cases g : gI ST id < w
    · have g' := ilt.mp g
      rw [if_pos g, if_neg (by omega)]
    · have g' : ¬ (gI ST id).toInt < w.toInt := fun z => g (ilt.mpr z)
      rw [if_neg g, Option.bind_some, if_neg (by decide), rdg i0 (by omega), Option.bind_some]
      by_cases g2 : n < gI SA id
      · have g2' := ilt.mp g2
        rw [if_pos g2, Option.bind_some, if_pos rfl, if_neg (by omega)]
      · have g2' : ¬ n.toInt < (gI SA id).toInt := fun z => g2 (ilt.mpr z)
        have ed : (n - gI SA id).toInt = n.toInt - (gI SA id).toInt := isub_i (by omega) (by omega)
        rw [if_neg g2, rdg i0 (by omega), Option.bind_some]
        by_cases g3 : n - gI SA id < gI SN id
        · have g3' := ilt.mp g3
          rw [if_pos g3, Option.bind_some, if_neg (by decide), if_pos ⟨by omega, by omega, by omega⟩]
        · have g3' : ¬ (n - gI SA id).toInt < (gI SN id).toInt := fun z => g3 (ilt.mpr z)
          rw [if_neg g3, Option.bind_some, if_pos rfl, if_neg (by omega)]
def own_Q (R AL : List Int32) (b : Int) : Prop := ∀ w m : Int32, own_wn w m → -b ≤ (gI AL (w * 32 + m)).toInt ∧ (gI AL (w * 32 + m)).toInt ≤ (gI R w).toInt
def own_R (R : List Int32) : Prop := R.length = 3 ∧ ∀ w : Int32, 0 ≤ w.toInt → w.toInt ≤ 2 → 0 ≤ (gI R w).toInt ∧ (gI R w).toInt ≤ 100
theorem own_Q_add {R EX AL EX' AL' : List Int32} {b : Int} (hR : own_R R) (hb0 : 0 ≤ b) (hb : b ≤ 100000) (hQ : own_Q R AL b) {t a e : Int32} (a0 : 0 ≤ a.toInt) (hf : own_fit R AL (fun _ _ => 0) t a e) (hc : own_cov EX AL 1 t a e EX' AL') : own_Q R AL' b := by
  intro w m hw
  have q := hQ w m hw
  have c := (hc.2.2 w m hw).2
  have hr := hR.2 w hw.1 (by have := hw.2.1; omega)
  rw [c]
  by_cases g : w.toInt ≤ t.toInt ∧ a.toInt ≤ m.toInt ∧ m.toInt < e.toInt
  · have e1 : (1 : Int32).toInt = 1 := rfl
    have es : (gI AL (w * 32 + m) + 1).toInt = (gI AL (w * 32 + m)).toInt + 1 := by rw [iadd_i (by omega) (by omega), e1]
    have f := hf m w g.2.1 g.2.2 hw.1 g.1
    rw [Int32.sub_zero, ilt, es] at f
    rw [if_pos g, es]
    omega
  · rw [if_neg g, Int32.add_zero]
    exact q
theorem own_Q_sub {R EX AL EX' AL' : List Int32} {b : Int} (hR : own_R R) (hb0 : 0 ≤ b) (hb : b ≤ 100000) (hQ : own_Q R AL b) {t a e : Int32} (hc : own_cov EX AL (-1) t a e EX' AL') : own_Q R AL' (b + 1) := by
  intro w m hw
  have q := hQ w m hw
  have c := (hc.2.2 w m hw).2
  have hr := hR.2 w hw.1 (by have := hw.2.1; omega)
  rw [c]
  by_cases g : w.toInt ≤ t.toInt ∧ a.toInt ≤ m.toInt ∧ m.toInt < e.toInt
  · have e1 : (-1 : Int32).toInt = -1 := rfl
    have es : (gI AL (w * 32 + m) + -1).toInt = (gI AL (w * 32 + m)).toInt - 1 := by rw [iadd_i (by omega) (by omega), e1]; omega
    rw [if_pos g, es]
    omega
  · rw [if_neg g, Int32.add_zero]
    omega
def own_cnt (p : Nat → Bool) : Nat → Nat
  | 0 => 0
  | n + 1 => own_cnt p n + (if p n then 1 else 0)
theorem own_cnt_le (p : Nat → Bool) : ∀ n, own_cnt p n ≤ n := by
  intro n
  induction n with
  | zero => exact Nat.le_refl 0
  | succ n ih => rw [own_cnt]; split <;> omega
theorem own_cnt_same {p q : Nat → Bool} : ∀ n, (∀ j, j < n → p j = q j) → own_cnt p n = own_cnt q n := by
  intro n
  induction n with
  | zero => intro _; rw [own_cnt, own_cnt]
  | succ n ih => intro h; rw [own_cnt, own_cnt, ih (fun j hj => h j (by omega)), h n (by omega)]
theorem own_cnt_upd {p q : Nat → Bool} {i : Nat} : ∀ n, i < n → (∀ j, j < n → j ≠ i → p j = q j) → own_cnt q n + (if p i then 1 else 0) = own_cnt p n + (if q i then 1 else 0) := by
  intro n
  induction n with
  | zero => intro h _; omega
  | succ n ih =>
    intro h hj
    rw [own_cnt, own_cnt]
    by_cases e : i = n
    · subst e
      have s := own_cnt_same i (fun j k => hj j (by omega) (by omega))
      omega
    · have s := ih (by omega) (fun j a b => hj j (by omega) b)
      have t := hj n (by omega) (fun z => e z.symm)
      rw [t]
      omega
def own_on (AC ST SA SN : List Int32) (w m : Int32) (i : Nat) : Bool := decide (gI AC (Int32.ofNat i) = 1 ∧ (gI ST (Int32.ofNat i)).toInt = w.toInt ∧ (gI SA (Int32.ofNat i)).toInt ≤ m.toInt ∧ m.toInt < (gI SA (Int32.ofNat i)).toInt + (gI SN (Int32.ofNat i)).toInt)
def own_ac (AC : List Int32) (i : Nat) : Bool := decide (gI AC (Int32.ofNat i) = 1)
theorem own_gj {L : List Int32} (hl : L.length = 32) {id x : Int32} (h0 : 0 ≤ id.toInt) (h1 : id.toInt < 32) {j : Nat} (hj : j < 32) (ne : j ≠ id.toInt.toNat) : gI (L.set id.toInt.toNat x) (Int32.ofNat j) = gI L (Int32.ofNat j) := by
  have e : (Int32.ofNat j).toInt = j := Int32.toInt_ofNat_of_lt (by omega)
  rw [own_gs hl h0 h1 (by omega), if_neg (by rw [ieq, e]; omega)]
theorem own_gi {L : List Int32} (hl : L.length = 32) {id x : Int32} (h0 : 0 ≤ id.toInt) (h1 : id.toInt < 32) : gI (L.set id.toInt.toNat x) (Int32.ofNat id.toInt.toNat) = x := by
  rw [own_of h0, own_gs hl h0 h1 h0, if_pos rfl]
def own_C (AC ST SA SN EX AL : List Int32) (n : Int32) : Prop :=
  (∀ w m : Int32, own_wn w m → (gI EX (w * 32 + m)).toInt = own_cnt (own_on AC ST SA SN w m) 32) ∧
  (∀ m : Int32, 0 ≤ m.toInt → m.toInt < 32 → (gI AL (0 * 32 + m)).toInt = (gI EX (0 * 32 + m)).toInt + ((gI EX (1 * 32 + m)).toInt + (gI EX (2 * 32 + m)).toInt) ∧ (gI AL (1 * 32 + m)).toInt = (gI EX (1 * 32 + m)).toInt + (gI EX (2 * 32 + m)).toInt ∧ (gI AL (2 * 32 + m)).toInt = (gI EX (2 * 32 + m)).toInt) ∧
  n.toInt = own_cnt (own_ac AC) 32
theorem own_addif {x d : Int32} {c : Prop} [Decidable c] (hx0 : -100 ≤ x.toInt) (hx1 : x.toInt ≤ 1000) (hd0 : -1 ≤ d.toInt) (hd1 : d.toInt ≤ 1) : (x + (if c then d else 0)).toInt = x.toInt + (if c then d.toInt else 0) := by
  split
  · exact iadd_i (by omega) (by omega)
  · rw [Int32.add_zero, Int.add_zero]
theorem own_sums {EX AL EX' AL' : List Int32} {d ty a e : Int32} (hd0 : -1 ≤ d.toInt) (hd1 : d.toInt ≤ 1) (t0 : 0 ≤ ty.toInt) (t2 : ty.toInt ≤ 2) (hc : own_cov EX AL d ty a e EX' AL') {m : Int32} (m0 : 0 ≤ m.toInt) (m1 : m.toInt < 32)
    (hb : ∀ w : Int32, 0 ≤ w.toInt → w.toInt ≤ 2 → -10 ≤ (gI EX (w * 32 + m)).toInt ∧ (gI EX (w * 32 + m)).toInt ≤ 100)
    (h : (gI AL (0 * 32 + m)).toInt = (gI EX (0 * 32 + m)).toInt + ((gI EX (1 * 32 + m)).toInt + (gI EX (2 * 32 + m)).toInt) ∧ (gI AL (1 * 32 + m)).toInt = (gI EX (1 * 32 + m)).toInt + (gI EX (2 * 32 + m)).toInt ∧ (gI AL (2 * 32 + m)).toInt = (gI EX (2 * 32 + m)).toInt) :
    (gI AL' (0 * 32 + m)).toInt = (gI EX' (0 * 32 + m)).toInt + ((gI EX' (1 * 32 + m)).toInt + (gI EX' (2 * 32 + m)).toInt) ∧ (gI AL' (1 * 32 + m)).toInt = (gI EX' (1 * 32 + m)).toInt + (gI EX' (2 * 32 + m)).toInt ∧ (gI AL' (2 * 32 + m)).toInt = (gI EX' (2 * 32 + m)).toInt := by
  have e0 : (0 : Int32).toInt = 0 := rfl
  have e1 : (1 : Int32).toInt = 1 := rfl
  have e2 : (2 : Int32).toInt = 2 := rfl
  have b0 := hb 0 (by decide) (by decide)
  have b1 := hb 1 (by decide) (by decide)
  have b2 := hb 2 (by decide) (by decide)
  have c0 := hc.2.2 0 m ⟨by decide, by decide, m0, m1⟩
  have c1 := hc.2.2 1 m ⟨by decide, by decide, m0, m1⟩
  have c2 := hc.2.2 2 m ⟨by decide, by decide, m0, m1⟩
  rw [c0.1, c0.2, c1.1, c1.2, c2.1, c2.2, own_addif (by omega) (by omega) hd0 hd1, own_addif (by omega) (by omega) hd0 hd1, own_addif (by omega) (by omega) hd0 hd1, own_addif (by omega) (by omega) hd0 hd1, own_addif (by omega) (by omega) hd0 hd1, own_addif (by omega) (by omega) hd0 hd1, e0, e1, e2]
  clear c0 c1 c2 hc hb
  generalize (gI EX (0 * 32 + m)).toInt = x0 at *
  generalize (gI EX (1 * 32 + m)).toInt = x1 at *
  generalize (gI EX (2 * 32 + m)).toInt = x2 at *
  generalize (gI AL (0 * 32 + m)).toInt = y0 at *
  generalize (gI AL (1 * 32 + m)).toInt = y1 at *
  generalize (gI AL (2 * 32 + m)).toInt = y2 at *
  by_cases g : a.toInt ≤ m.toInt ∧ m.toInt < e.toInt
  · obtain ⟨g1, g2⟩ := g
    have hty : ty.toInt = 0 ∨ ty.toInt = 1 ∨ ty.toInt = 2 := by omega
    rcases hty with q | q | q <;> simp only [q, g1, g2, and_true] <;> simp <;> omega
  · have n1 : ∀ p : Prop, ¬ (p ∧ a.toInt ≤ m.toInt ∧ m.toInt < e.toInt) := fun p z => g z.2
    rw [if_neg (n1 _), if_neg (n1 _), if_neg (n1 _), if_neg (n1 _), if_neg (n1 _), if_neg (n1 _)]
    omega
theorem own_on_upd {AC ST SA SN : List Int32} (lC : AC.length = 32) (lT : ST.length = 32) (lA : SA.length = 32) (lN : SN.length = 32) {id c t a k : Int32} (h0 : 0 ≤ id.toInt) (h1 : id.toInt < 32) (w m : Int32) :
    own_cnt (own_on (AC.set id.toInt.toNat c) (ST.set id.toInt.toNat t) (SA.set id.toInt.toNat a) (SN.set id.toInt.toNat k) w m) 32 + (if gI AC id = 1 ∧ (gI ST id).toInt = w.toInt ∧ (gI SA id).toInt ≤ m.toInt ∧ m.toInt < (gI SA id).toInt + (gI SN id).toInt then 1 else 0) = own_cnt (own_on AC ST SA SN w m) 32 + (if c = 1 ∧ t.toInt = w.toInt ∧ a.toInt ≤ m.toInt ∧ m.toInt < a.toInt + k.toInt then 1 else 0) := by
  have u := own_cnt_upd (p := own_on AC ST SA SN w m) (q := own_on (AC.set id.toInt.toNat c) (ST.set id.toInt.toNat t) (SA.set id.toInt.toNat a) (SN.set id.toInt.toNat k) w m) (i := id.toInt.toNat) 32 (by omega) (fun j hj ne => by
    unfold own_on
    rw [own_gj lC h0 h1 hj ne, own_gj lT h0 h1 hj ne, own_gj lA h0 h1 hj ne, own_gj lN h0 h1 hj ne])
  have q : own_on (AC.set id.toInt.toNat c) (ST.set id.toInt.toNat t) (SA.set id.toInt.toNat a) (SN.set id.toInt.toNat k) w m id.toInt.toNat = decide (c = 1 ∧ t.toInt = w.toInt ∧ a.toInt ≤ m.toInt ∧ m.toInt < a.toInt + k.toInt) := by
    unfold own_on
    rw [own_gi lC h0 h1, own_gi lT h0 h1, own_gi lA h0 h1, own_gi lN h0 h1]
  have p : own_on AC ST SA SN w m id.toInt.toNat = decide (gI AC id = 1 ∧ (gI ST id).toInt = w.toInt ∧ (gI SA id).toInt ≤ m.toInt ∧ m.toInt < (gI SA id).toInt + (gI SN id).toInt) := by
    unfold own_on
    rw [own_of h0]
  rw [q, p] at u
  simpa only [decide_eq_true_eq] using u
theorem own_ac_upd {AC : List Int32} (lC : AC.length = 32) {id c : Int32} (h0 : 0 ≤ id.toInt) (h1 : id.toInt < 32) :
    own_cnt (own_ac (AC.set id.toInt.toNat c)) 32 + (if gI AC id = 1 then 1 else 0) = own_cnt (own_ac AC) 32 + (if c = 1 then 1 else 0) := by
  have u := own_cnt_upd (p := own_ac AC) (q := own_ac (AC.set id.toInt.toNat c)) (i := id.toInt.toNat) 32 (by omega) (fun j hj ne => by
    unfold own_ac
    rw [own_gj lC h0 h1 hj ne])
  have q : own_ac (AC.set id.toInt.toNat c) id.toInt.toNat = decide (c = 1) := by
    unfold own_ac
    rw [own_gi lC h0 h1]
  have p : own_ac AC id.toInt.toNat = decide (gI AC id = 1) := by
    unfold own_ac
    rw [own_of h0]
  rw [q, p] at u
  simpa only [decide_eq_true_eq] using u
theorem own_C_rng {AC ST SA SN EX AL : List Int32} {n : Int32} (h : own_C AC ST SA SN EX AL n) {m : Int32} (m0 : 0 ≤ m.toInt) (m1 : m.toInt < 32) (w : Int32) (w0 : 0 ≤ w.toInt) (w2 : w.toInt ≤ 2) : 0 ≤ (gI EX (w * 32 + m)).toInt ∧ (gI EX (w * 32 + m)).toInt ≤ 32 := by
  have e := h.1 w m ⟨w0, by omega, m0, m1⟩
  have l := own_cnt_le (own_on AC ST SA SN w m) 32
  omega
theorem own_C_book {AC ST SA SN EX AL EX' AL' : List Int32} {n id t a k : Int32} (hP : own_PS AC ST SA SN EX AL) (h : own_C AC ST SA SN EX AL n) (i0 : 0 ≤ id.toInt) (i1 : id.toInt < 32) (iz : gI AC id = 0) (t0 : 0 ≤ t.toInt) (t2 : t.toInt ≤ 2) (a0 : 0 ≤ a.toInt) (k1 : 1 ≤ k.toInt) (ak : a.toInt + k.toInt ≤ 32) (hc : own_cov EX AL 1 t a (a + k) EX' AL') :
    own_C (AC.set id.toInt.toNat 1) (ST.set id.toInt.toNat t) (SA.set id.toInt.toNat a) (SN.set id.toInt.toNat k) EX' AL' (n + 1) := by
  have es : (a + k).toInt = a.toInt + k.toInt := by clear hP h hc; ((try simp only [ilt, ile, ieq, iadd_e, isub_e, imul_e, Int32.reduceToInt] at *) <;> omega)
  have e1 : (1 : Int32).toInt = 1 := rfl
  refine ⟨fun w m hw => ?_, fun m m0 m1 => ?_, ?_⟩
  · have r := own_C_rng h hw.2.2.1 hw.2.2.2 w hw.1 (by have := hw.2.1; omega)
    have u := own_on_upd hP.lC hP.lT hP.lA hP.lN (c := 1) (t := t) (a := a) (k := k) i0 i1 w m
    have c := (hc.2.2 w m hw).1
    have o := h.1 w m hw
    rw [if_neg (fun z => by rw [iz] at z; exact absurd z.1 (by decide))] at u
    rw [c, own_addif (by omega) (by omega) (by decide) (by decide), es, e1]
    by_cases g : w.toInt = t.toInt ∧ a.toInt ≤ m.toInt ∧ m.toInt < a.toInt + k.toInt
    · rw [if_pos g]
      rw [if_pos ⟨rfl, g.1.symm, g.2.1, g.2.2⟩] at u
      omega
    · rw [if_neg g]
      rw [if_neg (fun z => g ⟨z.2.1.symm, z.2.2.1, z.2.2.2⟩)] at u
      omega
  · exact own_sums (by decide) (by decide) t0 t2 hc m0 m1 (fun w w0 w2 => by have := own_C_rng h m0 m1 w w0 w2; omega) (h.2.1 m m0 m1)
  · have u := own_ac_upd hP.lC (c := 1) i0 i1
    have l := own_cnt_le (own_ac AC) 32
    have o := h.2.2
    rw [if_neg (by rw [iz]; decide), if_pos rfl] at u
    rw [iadd_i (by omega) (by omega), e1]
    omega
theorem own_C_cancel {AC ST SA SN EX AL EX' AL' : List Int32} {n id : Int32} (hP : own_PS AC ST SA SN EX AL) (h : own_C AC ST SA SN EX AL n) (i0 : 0 ≤ id.toInt) (i1 : id.toInt < 32) (ia : gI AC id = 1) (hc : own_cov EX AL (-1) (gI ST id) (gI SA id) (gI SA id + gI SN id) EX' AL') :
    own_C (AC.set id.toInt.toNat 0) (ST.set id.toInt.toNat 0) (SA.set id.toInt.toNat 0) (SN.set id.toInt.toNat 0) EX' AL' (n - 1) := by
  rcases hP.ok id i0 i1 with ⟨z, -⟩ | ⟨-, t0, t2, a0, k1, ak⟩
  · rw [ia] at z; exact absurd z (by decide)
  have es : (gI SA id + gI SN id).toInt = (gI SA id).toInt + (gI SN id).toInt := iadd_i (by omega) (by omega)
  have e1 : (-1 : Int32).toInt = -1 := rfl
  have e1' : (1 : Int32).toInt = 1 := rfl
  refine ⟨fun w m hw => ?_, fun m m0 m1 => ?_, ?_⟩
  · have r := own_C_rng h hw.2.2.1 hw.2.2.2 w hw.1 (by have := hw.2.1; omega)
    have u := own_on_upd hP.lC hP.lT hP.lA hP.lN (c := 0) (t := 0) (a := 0) (k := 0) i0 i1 w m
    have c := (hc.2.2 w m hw).1
    have o := h.1 w m hw
    rw [if_neg (show ¬ ((0 : Int32) = 1 ∧ _) from fun z => absurd z.1 (by decide))] at u
    rw [c, own_addif (by omega) (by omega) (by decide) (by decide), es, e1]
    by_cases g : w.toInt = (gI ST id).toInt ∧ (gI SA id).toInt ≤ m.toInt ∧ m.toInt < (gI SA id).toInt + (gI SN id).toInt
    · rw [if_pos g]
      rw [if_pos ⟨ia, g.1.symm, g.2.1, g.2.2⟩] at u
      omega
    · rw [if_neg g]
      rw [if_neg (fun z => g ⟨z.2.1.symm, z.2.2.1, z.2.2.2⟩)] at u
      omega
  · exact own_sums (by decide) (by decide) t0 t2 hc m0 m1 (fun w w0 w2 => by have := own_C_rng h m0 m1 w w0 w2; omega) (h.2.1 m m0 m1)
  · have u := own_ac_upd hP.lC (c := 0) i0 i1
    have l := own_cnt_le (own_ac AC) 32
    have o := h.2.2
    rw [if_pos ia, if_neg (by decide)] at u
    rw [isub_i (by omega) (by omega), e1']
    omega
theorem own_C_amend {AC ST SA SN EX AL EX1 AL1 EX2 AL2 : List Int32} {n id t a k : Int32} (hP : own_PS AC ST SA SN EX AL) (h : own_C AC ST SA SN EX AL n) (i0 : 0 ≤ id.toInt) (i1 : id.toInt < 32) (ia : gI AC id = 1) (t0 : 0 ≤ t.toInt) (t2 : t.toInt ≤ 2) (a0 : 0 ≤ a.toInt) (k1 : 1 ≤ k.toInt) (ak : a.toInt + k.toInt ≤ 32) (c1 : own_cov EX AL (-1) (gI ST id) (gI SA id) (gI SA id + gI SN id) EX1 AL1) (c2 : own_cov EX1 AL1 1 t a (a + k) EX2 AL2) :
    own_C (AC.set id.toInt.toNat 1) (ST.set id.toInt.toNat t) (SA.set id.toInt.toNat a) (SN.set id.toInt.toNat k) EX2 AL2 n := by
  rcases hP.ok id i0 i1 with ⟨z, -⟩ | ⟨-, t0', t2', a0', k1', ak'⟩
  · rw [ia] at z; exact absurd z (by decide)
  have es' : (gI SA id + gI SN id).toInt = (gI SA id).toInt + (gI SN id).toInt := iadd_i (by omega) (by omega)
  have es : (a + k).toInt = a.toInt + k.toInt := by clear hP h c1 c2 es'; ((try simp only [ilt, ile, ieq, iadd_e, isub_e, imul_e, Int32.reduceToInt] at *) <;> omega)
  have em : (-1 : Int32).toInt = -1 := rfl
  have e1 : (1 : Int32).toInt = 1 := rfl
  have first : ∀ w m : Int32, own_wn w m → (gI EX1 (w * 32 + m)).toInt = (gI EX (w * 32 + m)).toInt + (if w.toInt = (gI ST id).toInt ∧ (gI SA id).toInt ≤ m.toInt ∧ m.toInt < (gI SA id).toInt + (gI SN id).toInt then -1 else 0) := by
    intro w m hw
    have r := own_C_rng h hw.2.2.1 hw.2.2.2 w hw.1 (by have := hw.2.1; omega)
    rw [(c1.2.2 w m hw).1, own_addif (by omega) (by omega) (by decide) (by decide), es', em]
  have bd : ∀ w m : Int32, own_wn w m → -1 ≤ (gI EX1 (w * 32 + m)).toInt ∧ (gI EX1 (w * 32 + m)).toInt ≤ 32 := by
    intro w m hw
    have r := own_C_rng h hw.2.2.1 hw.2.2.2 w hw.1 (by have := hw.2.1; omega)
    rw [first w m hw]
    split <;> omega
  refine ⟨fun w m hw => ?_, fun m m0 m1 => ?_, ?_⟩
  · have b := bd w m hw
    have u := own_on_upd hP.lC hP.lT hP.lA hP.lN (c := 1) (t := t) (a := a) (k := k) i0 i1 w m
    have o := h.1 w m hw
    rw [(c2.2.2 w m hw).1, own_addif (by omega) (by omega) (by decide) (by decide), es, e1, first w m hw]
    by_cases g : w.toInt = (gI ST id).toInt ∧ (gI SA id).toInt ≤ m.toInt ∧ m.toInt < (gI SA id).toInt + (gI SN id).toInt
    · rw [if_pos g]
      rw [if_pos (show gI AC id = 1 ∧ (gI ST id).toInt = w.toInt ∧ (gI SA id).toInt ≤ m.toInt ∧ m.toInt < (gI SA id).toInt + (gI SN id).toInt from ⟨ia, g.1.symm, g.2.1, g.2.2⟩)] at u
      by_cases g2 : w.toInt = t.toInt ∧ a.toInt ≤ m.toInt ∧ m.toInt < a.toInt + k.toInt
      · rw [if_pos g2]
        rw [if_pos (show (1 : Int32) = 1 ∧ t.toInt = w.toInt ∧ a.toInt ≤ m.toInt ∧ m.toInt < a.toInt + k.toInt from ⟨rfl, g2.1.symm, g2.2.1, g2.2.2⟩)] at u
        omega
      · rw [if_neg g2]
        rw [if_neg (show ¬ ((1 : Int32) = 1 ∧ t.toInt = w.toInt ∧ a.toInt ≤ m.toInt ∧ m.toInt < a.toInt + k.toInt) from fun z => g2 ⟨z.2.1.symm, z.2.2.1, z.2.2.2⟩)] at u
        omega
    · rw [if_neg g]
      rw [if_neg (show ¬ (gI AC id = 1 ∧ (gI ST id).toInt = w.toInt ∧ (gI SA id).toInt ≤ m.toInt ∧ m.toInt < (gI SA id).toInt + (gI SN id).toInt) from fun z => g ⟨z.2.1.symm, z.2.2.1, z.2.2.2⟩)] at u
      by_cases g2 : w.toInt = t.toInt ∧ a.toInt ≤ m.toInt ∧ m.toInt < a.toInt + k.toInt
      · rw [if_pos g2]
        rw [if_pos (show (1 : Int32) = 1 ∧ t.toInt = w.toInt ∧ a.toInt ≤ m.toInt ∧ m.toInt < a.toInt + k.toInt from ⟨rfl, g2.1.symm, g2.2.1, g2.2.2⟩)] at u
        omega
      · rw [if_neg g2]
        rw [if_neg (show ¬ ((1 : Int32) = 1 ∧ t.toInt = w.toInt ∧ a.toInt ≤ m.toInt ∧ m.toInt < a.toInt + k.toInt) from fun z => g2 ⟨z.2.1.symm, z.2.2.1, z.2.2.2⟩)] at u
        omega
  · have s1 := own_sums (by decide) (by decide) t0' t2' c1 m0 m1 (fun w w0 w2 => by have := own_C_rng h m0 m1 w w0 w2; omega) (h.2.1 m m0 m1)
    exact own_sums (by decide) (by decide) t0 t2 c2 m0 m1 (fun w w0 w2 => by have := bd w m ⟨w0, by omega, m0, m1⟩; omega) s1
  · have u := own_ac_upd hP.lC (c := 1) i0 i1
    have o := h.2.2
    rw [if_pos ia, if_pos rfl] at u
    omega
theorem own_rq0 {t a k : Int32} (t0 : 0 ≤ t.toInt) (t2 : t.toInt ≤ 2) (a0 : 0 ≤ a.toInt) (k1 : 1 ≤ k.toInt) (ak : a.toInt + k.toInt ≤ 32) : f_requestError t a k = some 0 := by
  have e0 : (0 : Int32).toInt = 0 := rfl
  have e1 : (1 : Int32).toInt = 1 := rfl
  have e3 : (3 : Int32).toInt = 3 := rfl
  have e32 : (32 : Int32).toInt = 32 := rfl
  have es : (32 - a).toInt = 32 - a.toInt := by rw [isub_i (by omega) (by omega), e32]
  unfold f_requestError f_isValidType f_isValidNight f_isValidLength
  rw [if_neg (by rw [ilt]; omega), if_pos (by rw [ilt]; omega), Option.bind_some, if_neg (by decide), if_neg (by rw [ilt]; omega), if_pos (by rw [ilt]; omega), Option.bind_some, if_neg (by decide), if_neg (by rw [ilt]; omega), if_neg (by rw [ilt]; omega), Option.bind_some, if_neg (by decide)]
theorem own_amdS {R AC ST SA SN EX AL : List Int32} (h : own_PS AC ST SA SN EX AL) (hR : R.length = 3) {id : Int32} (i0 : 0 ≤ id.toInt) (i1 : id.toInt < 32) (ia : gI AC id = 1) {t a k : Int32} (t0 : 0 ≤ t.toInt) (t2 : t.toInt ≤ 2) (a0 : 0 ≤ a.toInt) (k1 : 1 ≤ k.toInt) (ak : a.toInt + k.toInt ≤ 32) (hf : own_fit R AL (own_xs (gI ST id) (gI SA id) (gI SN id)) t a (a + k)) :
    ∃ EX1 AL1 EX2 AL2 : List Int32, own_cov EX AL (-1) (gI ST id) (gI SA id) (gI SA id + gI SN id) EX1 AL1 ∧ own_cov EX1 AL1 1 t a (a + k) EX2 AL2 ∧ ∀ pc, f_amend R AC ST SA SN EX AL pc id t a k = some (0, ST.set id.toInt.toNat t, SA.set id.toInt.toNat a, SN.set id.toInt.toNat k, EX2, AL2, 0) := by
  have lC := h.lC
  have lT := h.lT
  have lA := h.lA
  have lN := h.lN
  rcases own_act01 h id with ⟨e, z⟩ | ⟨e, -, -, -, t0', t2', a0', k1', ak'⟩
  · have := z i0 i1
    rw [ia] at this
    exact absurd this (by decide)
  have z : ∀ L : List Int32, L.length = 32 → ∀ x, gI (L.set id.toInt.toNat x) id = x := fun L hl x => by rw [own_gs hl i0 i1 i0, if_pos rfl]
  obtain ⟨EX1, AL1, e1, c1⟩ := own_adj (AC := AC) lT lA lN h.lE h.lL (δ := -1) i0 i1 rfl rfl rfl t0' t2' a0' (by omega) ak'
  obtain ⟨EX2, AL2, e2, c2⟩ := own_adj (AC := AC) (own_len lT _ t) (own_len lA _ a) (own_len lN _ k) c1.1 c1.2.1 (δ := 1) i0 i1 (z ST lT t) (z SA lA a) (z SN lN k) t0 t2 a0 (by omega) ak
  refine ⟨EX1, AL1, EX2, AL2, c1, c2, fun pc => ?_⟩
  have ef : f_fitsWith R AC ST SA SN AL id t a k = some 1 := by
    rcases own_fts h.lL hR (AC := AC) (ST := ST) (SA := SA) (SN := SN) (id := id) t2 a0 (by omega) ak (own_xs (gI ST id) (gI SA id) (gI SN id)) (fun w m p q r s => own_x1 h i0 i1 ia p q r s) with ⟨e, -⟩ | ⟨-, q⟩
    · exact e
    · exact absurd hf q
  unfold f_amend f_storeStay f_discardPlan
  rw [e, Option.bind_some, if_neg (by decide), own_rq0 t0 t2 a0 k1 ak, Option.bind_some, if_pos rfl, ef, Option.bind_some, if_neg (by decide), e1, Option.bind_some, wrA_in i0 (by omega), Option.bind_some, wrA_in i0 (by omega), Option.bind_some, wrA_in i0 (by omega), Option.bind_some]
  show Option.bind (some (ST.set id.toInt.toNat t, SA.set id.toInt.toNat a, SN.set id.toInt.toNat k)) _ = _
  rw [Option.bind_some]
  show Option.bind (f_adjustCoverage (ST.set id.toInt.toNat t) (SA.set id.toInt.toNat a) (SN.set id.toInt.toNat k) EX1 AL1 id 1) _ = _
  rw [e2, Option.bind_some]
  rfl
theorem own_amd {R AC ST SA SN EX AL : List Int32} (h : own_PS AC ST SA SN EX AL) (hR : R.length = 3) (id t a k : Int32) :
    (∃ e : Int32, ¬ e = 0 ∧ ∀ pc, f_amend R AC ST SA SN EX AL pc id t a k = some (e, ST, SA, SN, EX, AL, pc)) ∨
    (0 ≤ id.toInt ∧ id.toInt < 32 ∧ gI AC id = 1 ∧ 0 ≤ t.toInt ∧ t.toInt ≤ 2 ∧ 0 ≤ a.toInt ∧ 1 ≤ k.toInt ∧ a.toInt + k.toInt ≤ 32 ∧ own_fit R AL (own_xs (gI ST id) (gI SA id) (gI SN id)) t a (a + k)) := by
  rcases own_act01 h id with ⟨e, -⟩ | ⟨e, i0, i1, ia, t0', t2', a0', k1', ak'⟩
  · left
    refine ⟨-5, by decide, fun pc => ?_⟩
    unfold f_amend
    rw [e, Option.bind_some, if_pos rfl]
  · rcases own_rq t a k with ⟨x, er, en⟩ | ⟨er, t0, t2, a0, a1, k1, ak⟩
    · have nx : ¬ x = 0 := by rw [ieq]; have e0 : (0 : Int32).toInt = 0 := rfl; omega
      left
      refine ⟨x, nx, fun pc => ?_⟩
      unfold f_amend
      rw [e, Option.bind_some, if_neg (by decide), er, Option.bind_some, if_neg nx]
    · rcases own_fts h.lL hR (AC := AC) (ST := ST) (SA := SA) (SN := SN) (id := id) t2 a0 (by omega) ak (own_xs (gI ST id) (gI SA id) (gI SN id)) (fun w m p q r s => own_x1 h i0 i1 ia p q r s) with ⟨-, q⟩ | ⟨ef, -⟩
      · exact Or.inr ⟨i0, i1, ia, t0, t2, a0, k1, ak, q⟩
      · left
        refine ⟨-4, by decide, fun pc => ?_⟩
        unfold f_amend
        rw [e, Option.bind_some, if_neg (by decide), er, Option.bind_some, if_pos rfl, ef, Option.bind_some, if_pos rfl]
theorem own_fit_sub {R EX AL EX1 AL1 : List Int32} {t' a' k' t a e : Int32} (a0' : 0 ≤ a'.toInt) (k0' : 0 ≤ k'.toInt) (ak' : a'.toInt + k'.toInt ≤ 32) (t2 : t.toInt ≤ 2) (a0 : 0 ≤ a.toInt) (he : e.toInt ≤ 32) (hc : own_cov EX AL (-1) t' a' (a' + k') EX1 AL1) (hf : own_fit R AL (own_xs t' a' k') t a e) : own_fit R AL1 (fun _ _ => 0) t a e := by
  have es : (a' + k').toInt = a'.toInt + k'.toInt := by clear hc hf; ((try simp only [ilt, ile, ieq, iadd_e, isub_e, imul_e, Int32.reduceToInt] at *) <;> omega)
  intro n w h1 h2 h3 h4
  have f := hf n w h1 h2 h3 h4
  have c := (hc.2.2 w n ⟨h3, by omega, by omega, by omega⟩).2
  rw [es] at c
  rw [c]
  unfold own_xs at f
  by_cases g : w.toInt ≤ t'.toInt ∧ a'.toInt ≤ n.toInt ∧ n.toInt < a'.toInt + k'.toInt
  · rw [if_pos g] at f ⊢
    have ee : gI AL (w * 32 + n) + -1 - 0 + 1 = gI AL (w * 32 + n) - 1 + 1 := by grind
    rw [ee]
    exact f
  · rw [if_neg g] at f ⊢
    rw [Int32.add_zero]
    exact f
theorem own_stA {AC ST SA SN EX AL : List Int32} (h : own_PS AC ST SA SN EX AL) {id : Int32} (i0 : 0 ≤ id.toInt) (i1 : id.toInt < 32) (ia : gI AC id = 1) : f_stayType AC ST id = some (gI ST id) ∧ f_stayArrive AC SA id = some (gI SA id) ∧ f_stayNights AC SN id = some (gI SN id) := by
  have lT := h.lT
  have lA := h.lA
  have lN := h.lN
  unfold f_stayType f_stayArrive f_stayNights
  rcases own_act01 h id with ⟨e, z⟩ | ⟨e, -⟩
  · have := z i0 i1
    rw [ia] at this
    exact absurd this (by decide)
  · rw [e, Option.bind_some, if_neg (by decide), Option.bind_some, if_neg (by decide), Option.bind_some, if_neg (by decide), rdg i0 (by omega), rdg i0 (by omega), rdg i0 (by omega), Option.bind_some, Option.bind_some, Option.bind_some]
    exact ⟨rfl, rfl, rfl⟩
def own_rn (r n : Int32) : Prop := 0 ≤ r.toInt ∧ r.toInt < 24 ∧ 0 ≤ n.toInt ∧ n.toInt < 32
theorem own_rni {r n : Int32} (h : own_rn r n) : (r * 32 + n).toInt = r.toInt * 32 + n.toInt := by
  obtain ⟨a, b, c, d⟩ := h
  have e32 : (32 : Int32).toInt = 32 := rfl
  have em : (r * 32).toInt = r.toInt * 32 := by rw [imul_i (by rw [e32]; omega) (by rw [e32]; omega), e32]
  rw [iadd_i (by omega) (by omega), em]
theorem own_rnset {A : List Int32} (hA : A.length = 768) {r n r' n' x : Int32} (h : own_rn r n) (g : own_rn r' n') : gI (A.set (r * 32 + n).toInt.toNat x) (r' * 32 + n') = if r' = r ∧ n' = n then x else gI A (r' * 32 + n') := by
  have e1 := own_rni h
  have e2 := own_rni g
  obtain ⟨a, b, c, d⟩ := h
  obtain ⟨a', b', c', d'⟩ := g
  rw [gset (by omega) (by omega) (by omega)]
  by_cases q : r' = r ∧ n' = n
  · rw [if_pos q, if_pos (by rw [q.1, q.2])]
  · rw [if_neg q, if_neg]
    intro e
    apply q
    rw [ieq, e1, e2] at e
    rw [ieq, ieq]
    omega
theorem own_c30X (PR PO : List Int32) (l : Int32) : ∀ (n : Nat) (PG : List Int32) (j : Int32), PG.length = 768 → 0 ≤ j.toInt → j.toInt ≤ 768 → 768 - j.toInt < n → (∀ i : Int32, 0 ≤ i.toInt → i.toInt < j.toInt → gI PG i = -1) → Tot (f_clearPlan_30 n PR PG PO l j) (fun r => r.1 = PR ∧ r.2.1.length = 768 ∧ r.2.2.1 = PO ∧ r.2.2.2 = 0 ∧ ∀ i : Int32, 0 ≤ i.toInt → i.toInt < 768 → gI r.2.1 i = -1) := by
  intro n
  induction n with
  | zero => intro PG j h0 h1 h2 h3; exfalso; omega
  | succ n ih =>
    intro PG j h0 h1 h2 h3 h4
    unfold f_clearPlan_30
    refine Tot.ite (fun g => ?_) (fun g => Tot.mk ⟨rfl, h0, rfl, rfl, fun i i0 i1 => h4 i i0 (by rw [ilt] at g; have e : (768 : Int32).toInt = 768 := rfl; omega)⟩)
    have g' : j.toInt < 768 := ilt.mp g
    have ej : (j + 1).toInt = j.toInt + 1 := by
      have o : (1 : Int32).toInt = 1 := rfl
      rw [iadd_i (by omega) (by omega), o]
    refine Tot.wr h1 (by omega) (fun A q1 q2 => ih A (j + 1) (by omega) (by omega) (by omega) (by omega) (fun i i0 i1 => ?_))
    rw [q1, gset h1 (by omega) i0]
    by_cases e : j = i
    · rw [if_pos e]
    · rw [if_neg e]
      exact h4 i i0 (by rw [ieq] at e; omega)
theorem own_c2X (PG : List Int32) (hG : PG.length = 768) (l : Int32) : ∀ (n : Nat) (PR PO : List Int32) (j : Int32), PR.length = 32 → PO.length = 32 → 0 ≤ j.toInt → j.toInt ≤ 32 → 32 - j.toInt < n → (∀ i : Int32, 0 ≤ i.toInt → i.toInt < j.toInt → gI PR i = -1) → Tot (f_clearPlan_2 (f_clearPlan_30 100000) n PR PG PO l j) (fun r => r.1.length = 32 ∧ r.2.1.length = 768 ∧ r.2.2.1.length = 32 ∧ r.2.2.2 = 0 ∧ (∀ i : Int32, 0 ≤ i.toInt → i.toInt < 32 → gI r.1 i = -1) ∧ ∀ i : Int32, 0 ≤ i.toInt → i.toInt < 768 → gI r.2.1 i = -1) := by
  have z : (0 : Int32).toInt = 0 := rfl
  intro n
  induction n with
  | zero => intro PR PO j h0 h0' h1 h2 h3; exfalso; omega
  | succ n ih =>
    intro PR PO j h0 h0' h1 h2 h3 h4
    unfold f_clearPlan_2
    refine Tot.ite (fun g => ?_) (fun g => ?_)
    · have g' : j.toInt < 32 := ilt.mp g
      have ej : (j + 1).toInt = j.toInt + 1 := by
        have o : (1 : Int32).toInt = 1 := rfl
        rw [iadd_i (by omega) (by omega), o]
      refine Tot.wr h1 (by omega) (fun A q1 q2 => Tot.wr h1 (by omega) (fun B q3 q4 => ih A B (j + 1) (by omega) (by omega) (by omega) (by omega) (by omega) (fun i i0 i1 => ?_)))
      rw [q1, gset h1 (by omega) i0]
      by_cases e : j = i
      · rw [if_pos e]
      · rw [if_neg e]
        exact h4 i i0 (by rw [ieq] at e; omega)
    · refine (own_c30X PR PO l 100000 PG 0 hG (by decide) (by decide) (by decide) (fun i i0 i1 => by omega)).mono ?_
      rintro r ⟨a, b, c, d, e⟩
      have e32 : (32 : Int32).toInt = 32 := rfl
      rw [ilt] at g
      exact ⟨by rw [a]; exact h0, b, by rw [c]; exact h0', d, fun i i0 i1 => by rw [a]; exact h4 i i0 (by omega), e⟩
theorem own_gaX {PG : List Int32} (hG : PG.length = 768) {r n : Int32} (h : own_rn r n) : f_gridAt PG r n = some (gI PG (r * 32 + n)) := by
  have ei := own_rni h
  obtain ⟨a, b, c, d⟩ := h
  have e0 : (0 : Int32).toInt = 0 := rfl
  have e24 : (24 : Int32).toInt = 24 := rfl
  have e32 : (32 : Int32).toInt = 32 := rfl
  unfold f_gridAt f_isValidNight f_gridIndex
  rw [if_neg (by rw [ilt]; omega), if_pos (by rw [ilt]; omega), if_neg (by rw [ilt]; omega), if_pos (by rw [ilt]; omega), Option.bind_some, if_neg (by decide), Option.bind_some, rdg (by omega) (by omega), Option.bind_some]
def own_busy (PG : List Int32) (r a k : Int32) : Prop := ∃ n : Int32, a.toInt ≤ n.toInt ∧ n.toInt < a.toInt + k.toInt ∧ ¬ gI PG (r * 32 + n) = -1
def own_free (PG : List Int32) (r a k : Int32) : Prop := ∀ n : Int32, a.toInt ≤ n.toInt → n.toInt < a.toInt + k.toInt → gI PG (r * 32 + n) = -1
theorem own_rfX {PG : List Int32} (hG : PG.length = 768) {r a k : Int32} (r0 : 0 ≤ r.toInt) (r1 : r.toInt < 24) (a0 : 0 ≤ a.toInt) (k0 : 0 ≤ k.toInt) (ak : a.toInt + k.toInt ≤ 32) : (f_roomIsFree PG r a k = some 1 ∧ own_free PG r a k) ∨ (f_roomIsFree PG r a k = some 0 ∧ own_busy PG r a k) := by
  have e32 : (32 : Int32).toInt = 32 := rfl
  have e0 : (0 : Int32).toInt = 0 := rfl
  have es : (a + k).toInt = a.toInt + k.toInt := iadd_i (by omega) (by omega)
  have key : ∀ (f : Nat) (j : Int32), a.toInt ≤ j.toInt → j.toInt ≤ a.toInt + k.toInt → 32 - j.toInt < f → (∀ n : Int32, a.toInt ≤ n.toInt → n.toInt < j.toInt → gI PG (r * 32 + n) = -1) → (f_roomIsFree_11 PG f r (a + k) j = some 1 ∧ own_free PG r a k) ∨ (f_roomIsFree_11 PG f r (a + k) j = some 0 ∧ own_busy PG r a k) := by
    intro f
    induction f with
    | zero => intro j h0 h1 h2; exfalso; omega
    | succ f ih =>
      intro j h0 h1 h2 h3
      unfold f_roomIsFree_11
      rw [if_neg (by rw [ilt]; omega)]
      by_cases g : j < a + k
      · have g' := ilt.mp g
        rw [es] at g'
        have ej : (j + 1).toInt = j.toInt + 1 := by
          have o : (1 : Int32).toInt = 1 := rfl
          rw [iadd_i (by omega) (by omega), o]
        rw [if_pos g, own_gaX hG ⟨r0, r1, by omega, by omega⟩, Option.bind_some]
        by_cases q : gI PG (r * 32 + j) = -1
        · rw [if_pos q]
          refine ih (j + 1) (by omega) (by omega) (by omega) (fun n n0 n1 => ?_)
          by_cases e : n = j
          · rw [e]; exact q
          · exact h3 n n0 (by rw [ieq] at e; omega)
        · rw [if_neg q]
          exact Or.inr ⟨rfl, j, h0, g', q⟩
      · rw [if_neg g]
        rw [ilt, es] at g
        exact Or.inl ⟨rfl, fun n n0 n1 => h3 n n0 (by omega)⟩
  unfold f_roomIsFree f_endOf
  rw [if_neg (by rw [ilt]; omega), Option.bind_some]
  exact key 100000 a (by omega) (by omega) (by omega) (fun n n0 n1 => by omega)
theorem own_mrX {PG : List Int32} (hG : PG.length = 768) {r id a k : Int32} (r0 : 0 ≤ r.toInt) (r1 : r.toInt < 24) (a0 : 0 ≤ a.toInt) (k0 : 0 ≤ k.toInt) (ak : a.toInt + k.toInt ≤ 32) : Tot (f_markRoom PG r id a k) (fun G => G.length = 768 ∧ ∀ r' n' : Int32, own_rn r' n' → gI G (r' * 32 + n') = if r' = r ∧ a.toInt ≤ n'.toInt ∧ n'.toInt < a.toInt + k.toInt then id else gI PG (r' * 32 + n')) := by
  have e32 : (32 : Int32).toInt = 32 := rfl
  have e24 : (24 : Int32).toInt = 24 := rfl
  have e0 : (0 : Int32).toInt = 0 := rfl
  have es : (a + k).toInt = a.toInt + k.toInt := iadd_i (by omega) (by omega)
  unfold f_markRoom
  rw [if_neg (by rw [ilt]; omega), if_pos (by rw [ilt]; omega)]
  have key : ∀ (f : Nat) (G : List Int32) (j : Int32), G.length = 768 → a.toInt ≤ j.toInt → j.toInt ≤ a.toInt + k.toInt → 32 - j.toInt < f → (∀ r' n' : Int32, own_rn r' n' → gI G (r' * 32 + n') = if r' = r ∧ a.toInt ≤ n'.toInt ∧ n'.toInt < j.toInt then id else gI PG (r' * 32 + n')) → Tot (f_markRoom_23 f G r id (a + k) j) (fun G => G.length = 768 ∧ ∀ r' n' : Int32, own_rn r' n' → gI G (r' * 32 + n') = if r' = r ∧ a.toInt ≤ n'.toInt ∧ n'.toInt < a.toInt + k.toInt then id else gI PG (r' * 32 + n')) := by
    intro f
    induction f with
    | zero => intro G j h h0 h1 h2; exfalso; omega
    | succ f ih =>
      intro G j h h0 h1 h2 h3
      unfold f_markRoom_23
      rw [if_neg (by rw [ilt]; omega)]
      refine Tot.ite (fun g => ?_) (fun g => ?_)
      · have g' := ilt.mp g
        rw [es] at g'
        have ej : (j + 1).toInt = j.toInt + 1 := by
          have o : (1 : Int32).toInt = 1 := rfl
          rw [iadd_i (by omega) (by omega), o]
        have rn : own_rn r j := ⟨r0, r1, by omega, by omega⟩
        have ei := own_rni rn
        unfold f_gridIndex
        rw [Option.bind_some]
        refine Tot.wr (by omega) (by omega) (fun A q1 q2 => ih A (j + 1) (by omega) (by omega) (by omega) (by omega) (fun r' n' hn => ?_))
        rw [q1, own_rnset h rn hn, h3 r' n' hn]
        by_cases c : r' = r ∧ n' = j
        · rw [if_pos c, if_pos ⟨c.1, by rw [c.2]; omega, by rw [c.2]; omega⟩]
        · rw [if_neg c]
          by_cases d : r' = r ∧ a.toInt ≤ n'.toInt ∧ n'.toInt < j.toInt
          · rw [if_pos d, if_pos ⟨d.1, d.2.1, by omega⟩]
          · rw [if_neg d, if_neg]
            rintro ⟨x1, x2, x3⟩
            apply d
            refine ⟨x1, x2, ?_⟩
            have : ¬ n' = j := fun e => c ⟨x1, e⟩
            rw [ieq] at this
            omega
      · rw [ilt, es] at g
        refine Tot.mk ⟨h, fun r' n' hn => ?_⟩
        rw [h3 r' n' hn, show j.toInt = a.toInt + k.toInt by omega]
  unfold f_endOf
  rw [if_neg (by rw [ilt]; omega), Option.bind_some]
  exact key 100000 PG a hG (by omega) (by omega) (by omega) (fun r' n' hn => by rw [if_neg (by omega)])
theorem own_psX {F AC ST SA SN : List Int32} {tot id a k : Int32} (ht : tot.toInt ≤ 24) (i0 : 0 ≤ id.toInt) (i1 : id.toInt < 32) (a0 : 0 ≤ a.toInt) (k0 : 0 ≤ k.toInt) (ak : a.toInt + k.toInt ≤ 32) (PR PG : List Int32) (hR : PR.length = 32) (hG : PG.length = 768) (v0 : Int32) : ∀ (f : Nat) (v : Int32), 0 ≤ v.toInt → v.toInt ≤ 24 → 24 - v.toInt < f → v0.toInt ≤ v.toInt → (∀ r : Int32, v0.toInt ≤ r.toInt → r.toInt < v.toInt → own_busy PG r a k) →
    Tot (f_placeStay_50 (f_placeStay_78 F AC ST SA SN tot) F AC ST SA SN tot f PR PG id a k v) (fun t => (t.1 = 0 ∧ t.2.1 = PR ∧ t.2.2 = PG ∧ ∀ r : Int32, v0.toInt ≤ r.toInt → r.toInt < tot.toInt → own_busy PG r a k) ∨ (∃ r : Int32, v0.toInt ≤ r.toInt ∧ 0 ≤ r.toInt ∧ r.toInt < tot.toInt ∧ t.1 = 1 ∧ t.2.1 = PR.set id.toInt.toNat r ∧ t.2.2.length = 768 ∧ (∀ r' n' : Int32, own_rn r' n' → gI t.2.2 (r' * 32 + n') = if r' = r ∧ a.toInt ≤ n'.toInt ∧ n'.toInt < a.toInt + k.toInt then id else gI PG (r' * 32 + n')) ∧ own_free PG r a k ∧ ∀ r' : Int32, v0.toInt ≤ r'.toInt → r'.toInt < r.toInt → own_busy PG r' a k)) := by
  have e24 : (24 : Int32).toInt = 24 := rfl
  intro f
  induction f with
  | zero => intro v h0 h1 h2; exfalso; omega
  | succ f ih =>
    intro v h0 h1 h2 hv h3
    unfold f_placeStay_50
    refine Tot.ite (fun g => ?_) (fun g => Tot.mk (Or.inl ⟨rfl, rfl, rfl, fun r q1 q2 => h3 r q1 (by rw [ilt] at g; omega)⟩))
    have g' := ilt.mp g
    rw [if_pos (by rw [ilt]; omega)]
    have ev : (v + 1).toInt = v.toInt + 1 := by
      have o : (1 : Int32).toInt = 1 := rfl
      rw [iadd_i (by omega) (by omega), o]
    rcases own_rfX hG (r := v) h0 (by omega) a0 k0 ak with ⟨e, fr⟩ | ⟨e, bs⟩
    · rw [e, Option.bind_some, if_neg (by decide)]
      unfold f_placeStay_78
      refine Tot.bind (own_mrX hG h0 (by omega) a0 k0 ak) ?_
      rintro G ⟨g1, g2⟩
      exact Tot.wr i0 (by omega) (fun A q1 q2 => Tot.mk (Or.inr ⟨v, hv, h0, g', rfl, q1, g1, g2, fr, h3⟩))
    · rw [e, Option.bind_some, if_pos rfl]
      refine ih (v + 1) (by omega) (by omega) (by omega) (by omega) (fun r q1 q2 => ?_)
      by_cases c : r = v
      · rw [c]; exact bs
      · exact h3 r q1 (by rw [ieq] at c; omega)
def own_key (SA : List Int32) (s : Int32) : Int := (gI SA s).toInt * 32 + s.toInt
abbrev own_O (AC SA PO : List Int32) (n : Int32) (b : Int) : Prop := (PO.length = 32) ∧ (0 ≤ n.toInt) ∧ (n.toInt ≤ 32) ∧ (∀ i : Int32, 0 ≤ i.toInt → i.toInt < n.toInt → 0 ≤ (gI PO i).toInt ∧ (gI PO i).toInt < 32 ∧ ¬ gI AC (gI PO i) = 0 ∧ own_key SA (gI PO i) < b) ∧ (∀ i j : Int32, 0 ≤ i.toInt → i.toInt < j.toInt → j.toInt < n.toInt → own_key SA (gI PO i) < own_key SA (gI PO j)) ∧ (∀ s : Int32, 0 ≤ s.toInt → s.toInt < 32 → ¬ gI AC s = 0 → own_key SA s < b → n.toInt = 32 ∨ ∃ i : Int32, 0 ≤ i.toInt ∧ i.toInt < n.toInt ∧ gI PO i = s)
theorem own_O.l {AC SA PO : List Int32} {n : Int32} {b : Int} (self : own_O AC SA PO n b) : PO.length = 32 := self.1
theorem own_O.n0 {AC SA PO : List Int32} {n : Int32} {b : Int} (self : own_O AC SA PO n b) : 0 ≤ n.toInt := self.2.1
theorem own_O.n1 {AC SA PO : List Int32} {n : Int32} {b : Int} (self : own_O AC SA PO n b) : n.toInt ≤ 32 := self.2.2.1
theorem own_O.a {AC SA PO : List Int32} {n : Int32} {b : Int} (self : own_O AC SA PO n b) : ∀ i : Int32, 0 ≤ i.toInt → i.toInt < n.toInt → 0 ≤ (gI PO i).toInt ∧ (gI PO i).toInt < 32 ∧ ¬ gI AC (gI PO i) = 0 ∧ own_key SA (gI PO i) < b := self.2.2.2.1
theorem own_O.s {AC SA PO : List Int32} {n : Int32} {b : Int} (self : own_O AC SA PO n b) : ∀ i j : Int32, 0 ≤ i.toInt → i.toInt < j.toInt → j.toInt < n.toInt → own_key SA (gI PO i) < own_key SA (gI PO j) := self.2.2.2.2.1
theorem own_O.c {AC SA PO : List Int32} {n : Int32} {b : Int} (self : own_O AC SA PO n b) : ∀ s : Int32, 0 ≤ s.toInt → s.toInt < 32 → ¬ gI AC s = 0 → own_key SA s < b → n.toInt = 32 ∨ ∃ i : Int32, 0 ≤ i.toInt ∧ i.toInt < n.toInt ∧ gI PO i = s := self.2.2.2.2.2
theorem own_O_up {AC SA PO : List Int32} {n : Int32} {b b' : Int} (h : own_O AC SA PO n b) (hb : b ≤ b') (hn : ∀ s : Int32, 0 ≤ s.toInt → s.toInt < 32 → ¬ gI AC s = 0 → own_key SA s < b' → own_key SA s < b) : own_O AC SA PO n b' := by
  refine ⟨h.l, h.n0, h.n1, fun i i0 i1 => ?_, h.s, fun s s0 s1 sa sb => h.c s s0 s1 sa (hn s s0 s1 sa sb)⟩
  obtain ⟨q1, q2, q3, q4⟩ := h.a i i0 i1
  exact ⟨q1, q2, q3, by omega⟩
theorem own_appX {AC SA PO : List Int32} {n v : Int32} (h : own_O AC SA PO n (own_key SA v)) (v0 : 0 ≤ v.toInt) (v1 : v.toInt < 32) (va : ¬ gI AC v = 0) (hn : ∀ s : Int32, 0 ≤ s.toInt → s.toInt < 32 → ¬ gI AC s = 0 → own_key SA s < own_key SA v + 1 → s = v ∨ own_key SA s < own_key SA v) : Tot (f_appendToOrder PO n v) (fun t => own_O AC SA t.1 t.2 (own_key SA v + 1)) := by
  obtain ⟨hl, n0, n1, a, s, c⟩ := h
  have e0 : (0 : Int32).toInt = 0 := rfl
  unfold f_appendToOrder
  rw [if_neg (by rw [ilt]; omega)]
  refine Tot.ite (fun g => ?_) (fun g => ?_)
  · have g' : n.toInt < 32 := ilt.mp g
    have en : (n + 1).toInt = n.toInt + 1 := by
      have o : (1 : Int32).toInt = 1 := rfl
      rw [iadd_i (by omega) (by omega), o]
    refine Tot.wr n0 (by omega) (fun A q1 q2 => Tot.mk ⟨by show A.length = 32; omega, by show 0 ≤ (n + 1).toInt; omega, by show (n + 1).toInt ≤ 32; omega, fun i i0 i1 => ?_, fun i j i0 ij jn => ?_, fun t t0 t1 ta tb => ?_⟩)
    · have i1' : i.toInt < (n + 1).toInt := i1
      show 0 ≤ (gI A i).toInt ∧ (gI A i).toInt < 32 ∧ ¬ gI AC (gI A i) = 0 ∧ own_key SA (gI A i) < own_key SA v + 1
      rw [q1, gset n0 (by omega) i0]
      by_cases e : n = i
      · rw [if_pos e]; exact ⟨v0, v1, va, by omega⟩
      · rw [if_neg e]
        obtain ⟨k1, k2, k3, k4⟩ := a i i0 (by rw [ieq] at e; omega)
        exact ⟨k1, k2, k3, by omega⟩
    · have jn' : j.toInt < (n + 1).toInt := jn
      show own_key SA (gI A i) < own_key SA (gI A j)
      rw [q1, gset n0 (by omega) i0, gset n0 (by omega) (by omega), if_neg (show ¬ n = i by rw [ieq]; omega)]
      by_cases e : n = j
      · rw [if_pos e]
        exact (a i i0 (by rw [ieq] at e; omega)).2.2.2
      · rw [if_neg e]
        exact s i j i0 ij (by rw [ieq] at e; omega)
    · show (n + 1).toInt = 32 ∨ ∃ i : Int32, 0 ≤ i.toInt ∧ i.toInt < (n + 1).toInt ∧ gI A i = t
      rcases hn t t0 t1 ta tb with e | e
      · right
        exact ⟨n, n0, by omega, by rw [q1, gset n0 (by omega) n0, if_pos rfl, e]⟩
      · rcases c t t0 t1 ta e with q | ⟨i, i0, i1, i2⟩
        · exfalso; omega
        · right
          exact ⟨i, i0, by omega, by rw [q1, gset n0 (by omega) i0, if_neg (by rw [ieq]; omega), i2]⟩
  · have g' : n.toInt = 32 := by
      rw [ilt] at g
      have e32 : (32 : Int32).toInt = 32 := rfl
      omega
    refine Tot.mk ⟨hl, n0, n1, fun i i0 i1 => ?_, s, fun t t0 t1 ta tb => Or.inl g'⟩
    obtain ⟨k1, k2, k3, k4⟩ := a i i0 i1
    exact ⟨k1, k2, k3, by show own_key SA (gI PO i) < own_key SA v + 1; omega⟩
theorem own_bo15X {Q : List Int32 × Int32 → Prop} {AC SA : List Int32} (lC : AC.length = 32) (lA : SA.length = 32) (hs : ∀ s : Int32, 0 ≤ s.toInt → s.toInt < 32 → ¬ gI AC s = 0 → 0 ≤ (gI SA s).toInt ∧ (gI SA s).toInt < 32) (k7 : List Int32 → Int32 → Int32 → Option (List Int32 × Int32)) (v : Int32) (hk : ∀ (PO : List Int32) (n : Int32), own_O AC SA PO n (v.toInt * 32 + 32) → Tot (k7 PO n (v + 1)) Q) : ∀ (f : Nat) (PO : List Int32) (n j : Int32), own_O AC SA PO n (v.toInt * 32 + j.toInt) → 0 ≤ j.toInt → j.toInt ≤ 32 → 32 - j.toInt < f → Tot (f_buildOrder_15 k7 AC SA f PO n v j) Q := by
  have e32 : (32 : Int32).toInt = 32 := rfl
  intro f
  induction f with
  | zero => intro PO n j h h0 h1 h2; exfalso; omega
  | succ f ih =>
    intro PO n j h h0 h1 h2
    unfold f_buildOrder_15
    refine Tot.ite (fun g => ?_) (fun g => ?_)
    · have g' : j.toInt < 32 := ilt.mp g
      have ej : (j + 1).toInt = j.toInt + 1 := by
        have o : (1 : Int32).toInt = 1 := rfl
        rw [iadd_i (by omega) (by omega), o]
      have skip : (gI AC j = 0 ∨ ¬ gI SA j = v) → own_O AC SA PO n (v.toInt * 32 + (j + 1).toInt) := by
        intro hq
        refine own_O_up h (by omega) (fun s s0 s1 sa sb => ?_)
        obtain ⟨q1, q2⟩ := hs s s0 s1 sa
        unfold own_key at sb ⊢
        by_cases e : (gI SA s).toInt * 32 + s.toInt = v.toInt * 32 + j.toInt
        · exfalso
          have es : s = j := by rw [ieq]; omega
          rw [es] at sa e
          rcases hq with q | q
          · exact sa q
          · apply q
            rw [ieq]
            omega
        · omega
      refine Tot.rdI h0 (by omega) (Tot.ite (fun g2 => ih PO n (j + 1) (skip (Or.inl g2)) (by omega) (by omega) (by omega)) (fun g2 => Tot.rdI h0 (by omega) (Tot.ite (fun g3 => ?_) (fun g3 => ih PO n (j + 1) (skip (Or.inr g3)) (by omega) (by omega) (by omega)))))
      have ek : own_key SA j = v.toInt * 32 + j.toInt := by unfold own_key; rw [g3]
      rw [← ek] at h
      refine Tot.bind (own_appX h h0 g' g2 (fun s s0 s1 sa sb => ?_)) ?_
      · obtain ⟨q1, q2⟩ := hs s s0 s1 sa
        obtain ⟨q3, q4⟩ := hs j h0 g' g2
        unfold own_key at sb ⊢
        by_cases e : s = j
        · exact Or.inl e
        · right
          rw [ieq] at e
          omega
      · rintro ⟨PO', n'⟩ h'
        have h2' : own_O AC SA PO' n' (v.toInt * 32 + (j + 1).toInt) := by
          have h3 : own_O AC SA PO' n' (own_key SA j + 1) := h'
          rw [ek] at h3
          rw [ej, ← Int.add_assoc]
          exact h3
        exact ih PO' n' (j + 1) h2' (by omega) (by omega) (by omega)
    · rw [ilt] at g
      refine hk PO n ?_
      rw [show j.toInt = 32 by omega] at h
      exact h
theorem own_bo7X {AC SA : List Int32} (lC : AC.length = 32) (lA : SA.length = 32) (hs : ∀ s : Int32, 0 ≤ s.toInt → s.toInt < 32 → ¬ gI AC s = 0 → 0 ≤ (gI SA s).toInt ∧ (gI SA s).toInt < 32) : ∀ (f : Nat) (PO : List Int32) (n v : Int32), own_O AC SA PO n (v.toInt * 32) → 0 ≤ v.toInt → v.toInt ≤ 32 → 32 - v.toInt < f → Tot (f_buildOrder_7 AC SA f PO n v) (fun r => own_O AC SA r.1 r.2 1024) := by
  have e32 : (32 : Int32).toInt = 32 := rfl
  have z : (0 : Int32).toInt = 0 := rfl
  intro f
  induction f with
  | zero => intro PO n v h h0 h1 h2; exfalso; omega
  | succ f ih =>
    intro PO n v h h0 h1 h2
    unfold f_buildOrder_7
    refine Tot.ite (fun g => ?_) (fun g => ?_)
    · have g' : v.toInt < 32 := ilt.mp g
      have ev : (v + 1).toInt = v.toInt + 1 := by
        have o : (1 : Int32).toInt = 1 := rfl
        rw [iadd_i (by omega) (by omega), o]
      refine own_bo15X lC lA hs _ v (fun PO' n' h' => ih PO' n' (v + 1) ?_ (by omega) (by omega) (by omega)) 100000 PO n 0 (by rw [z, Int.add_zero]; exact h) (by decide) (by decide) (by decide)
      rw [ev, Int.add_mul]
      exact h'
    · rw [ilt] at g
      refine Tot.mk ?_
      rw [show v.toInt = 32 by omega] at h
      exact h
abbrev own_PL (F AC ST SA SN PR PG : List Int32) (tot : Int32) (pl : Int32 → Prop) : Prop := (PR.length = 32) ∧ (PG.length = 768) ∧ (∀ s : Int32, 0 ≤ s.toInt → s.toInt < 32 → gI PR s = -1 ∨ (pl s ∧ gI AC s = 1 ∧ (gI F (gI ST s)).toInt ≤ (gI PR s).toInt ∧ 0 ≤ (gI PR s).toInt ∧ (gI PR s).toInt < tot.toInt)) ∧ (∀ r n : Int32, own_rn r n → gI PG (r * 32 + n) = -1 ∨ (0 ≤ (gI PG (r * 32 + n)).toInt ∧ (gI PG (r * 32 + n)).toInt < 32 ∧ pl (gI PG (r * 32 + n)) ∧ gI AC (gI PG (r * 32 + n)) = 1 ∧ gI PR (gI PG (r * 32 + n)) = r ∧ (gI SA (gI PG (r * 32 + n))).toInt ≤ n.toInt ∧ n.toInt < (gI SA (gI PG (r * 32 + n))).toInt + (gI SN (gI PG (r * 32 + n))).toInt)) ∧ (∀ s : Int32, 0 ≤ s.toInt → s.toInt < 32 → ¬ gI PR s = -1 → ∀ n : Int32, (gI SA s).toInt ≤ n.toInt → n.toInt < (gI SA s).toInt + (gI SN s).toInt → gI PG (gI PR s * 32 + n) = s) ∧ (∀ s : Int32, 0 ≤ s.toInt → s.toInt < 32 → pl s → ∀ r : Int32, (gI F (gI ST s)).toInt ≤ r.toInt → r.toInt < (if gI PR s = -1 then tot.toInt else (gI PR s).toInt) → ∃ n : Int32, (gI SA s).toInt ≤ n.toInt ∧ n.toInt < (gI SA s).toInt + (gI SN s).toInt ∧ ¬ gI PG (r * 32 + n) = -1 ∧ own_key SA (gI PG (r * 32 + n)) < own_key SA s)
theorem own_PL.a {F AC ST SA SN PR PG : List Int32} {tot : Int32} {pl : Int32 → Prop} (self : own_PL F AC ST SA SN PR PG tot pl) : PR.length = 32 := self.1
theorem own_PL.b {F AC ST SA SN PR PG : List Int32} {tot : Int32} {pl : Int32 → Prop} (self : own_PL F AC ST SA SN PR PG tot pl) : PG.length = 768 := self.2.1
theorem own_PL.c {F AC ST SA SN PR PG : List Int32} {tot : Int32} {pl : Int32 → Prop} (self : own_PL F AC ST SA SN PR PG tot pl) : ∀ s : Int32, 0 ≤ s.toInt → s.toInt < 32 → gI PR s = -1 ∨ (pl s ∧ gI AC s = 1 ∧ (gI F (gI ST s)).toInt ≤ (gI PR s).toInt ∧ 0 ≤ (gI PR s).toInt ∧ (gI PR s).toInt < tot.toInt) := self.2.2.1
theorem own_PL.d {F AC ST SA SN PR PG : List Int32} {tot : Int32} {pl : Int32 → Prop} (self : own_PL F AC ST SA SN PR PG tot pl) : ∀ r n : Int32, own_rn r n → gI PG (r * 32 + n) = -1 ∨ (0 ≤ (gI PG (r * 32 + n)).toInt ∧ (gI PG (r * 32 + n)).toInt < 32 ∧ pl (gI PG (r * 32 + n)) ∧ gI AC (gI PG (r * 32 + n)) = 1 ∧ gI PR (gI PG (r * 32 + n)) = r ∧ (gI SA (gI PG (r * 32 + n))).toInt ≤ n.toInt ∧ n.toInt < (gI SA (gI PG (r * 32 + n))).toInt + (gI SN (gI PG (r * 32 + n))).toInt) := self.2.2.2.1
theorem own_PL.e {F AC ST SA SN PR PG : List Int32} {tot : Int32} {pl : Int32 → Prop} (self : own_PL F AC ST SA SN PR PG tot pl) : ∀ s : Int32, 0 ≤ s.toInt → s.toInt < 32 → ¬ gI PR s = -1 → ∀ n : Int32, (gI SA s).toInt ≤ n.toInt → n.toInt < (gI SA s).toInt + (gI SN s).toInt → gI PG (gI PR s * 32 + n) = s := self.2.2.2.2.1
theorem own_PL.f {F AC ST SA SN PR PG : List Int32} {tot : Int32} {pl : Int32 → Prop} (self : own_PL F AC ST SA SN PR PG tot pl) : ∀ s : Int32, 0 ≤ s.toInt → s.toInt < 32 → pl s → ∀ r : Int32, (gI F (gI ST s)).toInt ≤ r.toInt → r.toInt < (if gI PR s = -1 then tot.toInt else (gI PR s).toInt) → ∃ n : Int32, (gI SA s).toInt ≤ n.toInt ∧ n.toInt < (gI SA s).toInt + (gI SN s).toInt ∧ ¬ gI PG (r * 32 + n) = -1 ∧ own_key SA (gI PG (r * 32 + n)) < own_key SA s := self.2.2.2.2.2
theorem own_plX {F AC ST SA SN EX AL PR PG : List Int32} (h : own_PS AC ST SA SN EX AL) (hF : own_F F) {tot : Int32} (ht : tot.toInt ≤ 24) {pl pl' : Int32 → Prop} (hP : own_PL F AC ST SA SN PR PG tot pl) {id : Int32} (i0 : 0 ≤ id.toInt) (i1 : id.toInt < 32) (ia : ¬ gI AC id = 0) (ne : ¬ pl id) (hk : ∀ s, pl s → own_key SA s < own_key SA id) (hp : ∀ s, pl' s ↔ pl s ∨ s = id) : Tot (f_placeStay F AC ST SA SN tot PR PG id) (fun t => own_PL F AC ST SA SN t.2.1 t.2.2 tot pl' ∧ (∀ s : Int32, 0 ≤ s.toInt → ¬ s = id → gI t.2.1 s = gI PR s) ∧ (t.1 = 1 ∨ (t.1 = 0 ∧ gI t.2.1 id = -1))) := by
  have lT := h.lT
  have lA := h.lA
  have lN := h.lN
  obtain ⟨pa, pb, pc, pd, pe, pf⟩ := hP
  have m1 : (-1 : Int32).toInt = -1 := rfl
  have pi : gI PR id = -1 := by
    rcases pc id i0 i1 with q | q
    · exact q
    · exact absurd q.1 ne
  unfold f_placeStay
  rcases own_act01 h id with ⟨e, z⟩ | ⟨e, -, -, ia1, t0, t2, a0, k1, ak⟩
  · exact absurd (z i0 i1) ia
  · rw [e, Option.bind_some, if_neg (by decide)]
    refine Tot.rdI i0 (by omega) ?_
    rcases own_vt3 (gI ST id) with ev | ⟨ev, -, -⟩
    · exfalso
      unfold f_isValidType at ev
      have e0 : (0 : Int32).toInt = 0 := rfl
      have e3 : (3 : Int32).toInt = 3 := rfl
      rw [if_neg (by rw [ilt]; omega), if_pos (by rw [ilt]; omega)] at ev
      exact absurd ev (by decide)
    · rw [ev, Option.bind_some, if_neg (by decide)]
      have hf := hF.2 (gI ST id) t0 (by omega)
      refine Tot.rdI i0 (by omega) (Tot.rdI i0 (by omega) (Tot.rdI t0 (by rw [hF.1]; omega) ?_))
      refine Tot.mono (own_psX ht i0 i1 a0 (by omega) ak PR PG pa pb (gI F (gI ST id)) 100000 (gI F (gI ST id)) hf.1 hf.2 (by omega) (by omega) (fun r q1 q2 => by omega)) ?_
      have blk : ∀ r : Int32, 0 ≤ r.toInt → r.toInt < 24 → own_busy PG r (gI SA id) (gI SN id) → ∃ n : Int32, (gI SA id).toInt ≤ n.toInt ∧ n.toInt < (gI SA id).toInt + (gI SN id).toInt ∧ ¬ gI PG (r * 32 + n) = -1 ∧ own_key SA (gI PG (r * 32 + n)) < own_key SA id := by
        rintro r r0 r1 ⟨n, n0, n1, nn⟩
        refine ⟨n, n0, n1, nn, ?_⟩
        rcases pd r n ⟨r0, r1, by omega, by omega⟩ with q | q
        · exact absurd q nn
        · exact hk _ q.2.2.1
      rintro t (⟨tz, t1, t2', bz⟩ | ⟨r, r0, rz, r1, tz, t1, t2', t3, fr, bz⟩)
      · rw [t1, t2', tz]
        refine ⟨?_, fun s _ _ => rfl, Or.inr ⟨rfl, pi⟩⟩
        refine ⟨pa, pb, fun s s0 s1 => ?_, fun r n hn => ?_, pe, fun s s0 s1 hs r hr1 hr2 => ?_⟩
        · rcases pc s s0 s1 with q | q
          · exact Or.inl q
          · exact Or.inr ⟨(hp s).mpr (Or.inl q.1), q.2⟩
        · rcases pd r n hn with q | ⟨q1, q2, q3, q4⟩
          · exact Or.inl q
          · exact Or.inr ⟨q1, q2, (hp _).mpr (Or.inl q3), q4⟩
        · rcases (hp s).mp hs with q | q
          · exact pf s s0 s1 q r hr1 hr2
          · subst q
            rw [if_pos pi] at hr2
            exact blk r (by omega) (by omega) (bz r hr1 hr2)
      · have sr : ∀ s : Int32, 0 ≤ s.toInt → gI (PR.set id.toInt.toNat r) s = if id = s then r else gI PR s := fun s s0 => gset i0 (by omega) s0
        have nr : ¬ r = -1 := by rw [ieq, m1]; omega
        rw [t1, tz]
        refine ⟨?_, fun s s0 sn => by rw [sr s s0, if_neg (fun e => sn e.symm)], Or.inl rfl⟩
        refine ⟨own_len pa _ _, t2', fun s s0 s1 => ?_, fun r' n hn => ?_, fun s s0 s1 hs n n0 n1 => ?_, fun s s0 s1 hs r' hr1 hr2 => ?_⟩
        · rw [sr s s0]
          by_cases q : id = s
          · subst q
            rw [if_pos rfl]
            exact Or.inr ⟨(hp _).mpr (Or.inr rfl), ia1, r0, rz, r1⟩
          · rw [if_neg q]
            rcases pc s s0 s1 with q2 | q2
            · exact Or.inl q2
            · exact Or.inr ⟨(hp s).mpr (Or.inl q2.1), q2.2⟩
        · rw [t3 r' n hn]
          by_cases q : r' = r ∧ (gI SA id).toInt ≤ n.toInt ∧ n.toInt < (gI SA id).toInt + (gI SN id).toInt
          · rw [if_pos q, sr id i0, if_pos rfl]
            exact Or.inr ⟨i0, i1, (hp _).mpr (Or.inr rfl), ia1, q.1.symm, q.2⟩
          · rw [if_neg q]
            rcases pd r' n hn with q2 | ⟨q1, q2, q3, q4, q5, q6⟩
            · exact Or.inl q2
            · rw [sr _ q1, if_neg (fun e => ne (by rw [e]; exact q3))]
              exact Or.inr ⟨q1, q2, (hp _).mpr (Or.inl q3), q4, q5, q6⟩
        · rw [sr s s0] at hs ⊢
          by_cases q : id = s
          · subst q
            rw [if_pos rfl, t3 r n ⟨rz, by omega, by omega, by omega⟩, if_pos ⟨rfl, n0, n1⟩]
          · rw [if_neg q] at hs ⊢
            have old := pe s s0 s1 hs n n0 n1
            rcases pc s s0 s1 with q2 | ⟨q3, q4, q5, q6, q7⟩
            · exact absurd q2 hs
            · have sk : 0 ≤ (gI SA s).toInt ∧ (gI SA s).toInt + (gI SN s).toInt ≤ 32 := by
                rcases h.ok s s0 s1 with w | w
                · rw [w.1] at q4; exact absurd q4 (by decide)
                · exact ⟨w.2.2.2.1, w.2.2.2.2.2⟩
              rw [t3 (gI PR s) n ⟨q6, by omega, by omega, by omega⟩, if_neg, old]
              rintro ⟨e1, e2, e3⟩
              have := fr n e2 e3
              rw [← e1, old, ieq, m1] at this
              omega
        · have keep : ∀ r'' n : Int32, own_rn r'' n → ¬ gI PG (r'' * 32 + n) = -1 → gI t.2.2 (r'' * 32 + n) = gI PG (r'' * 32 + n) := by
            intro r'' n hn hq
            rw [t3 r'' n hn, if_neg]
            rintro ⟨e1, e2, e3⟩
            apply hq
            rw [e1]
            exact fr n e2 e3
          rcases (hp s).mp hs with q | q
          · have nei : ¬ id = s := fun e => ne (by rw [e]; exact q)
            rw [sr s s0, if_neg nei] at hr2
            obtain ⟨n, n0, n1, n2, n3⟩ := pf s s0 s1 q r' hr1 hr2
            have hw : 0 ≤ (gI SA s).toInt ∧ (gI SA s).toInt + (gI SN s).toInt ≤ 32 ∧ 0 ≤ (gI ST s).toInt ∧ (gI ST s).toInt ≤ 2 := by
              rcases h.ok s s0 s1 with w | w
              · exfalso
                rw [w.2.2.1, w.2.2.2] at n1
                rw [w.2.2.1] at n0
                have z : (0 : Int32).toInt = 0 := rfl
                omega
              · exact ⟨w.2.2.2.1, w.2.2.2.2.2, w.2.1, w.2.2.1⟩
            have hfs := hF.2 (gI ST s) hw.2.2.1 (by omega)
            have r24 : r'.toInt < 24 := by
              by_cases c : gI PR s = -1
              · rw [if_pos c] at hr2; omega
              · rw [if_neg c] at hr2
                rcases pc s s0 s1 with q2 | q2
                · exact absurd q2 c
                · have := q2.2.2.2.2
                  omega
            have rn : own_rn r' n := ⟨by omega, r24, by omega, by omega⟩
            refine ⟨n, n0, n1, ?_, ?_⟩
            · rw [keep r' n rn n2]; exact n2
            · rw [keep r' n rn n2]; exact n3
          · subst q
            rw [sr s s0, if_pos rfl, if_neg nr] at hr2
            obtain ⟨n, n0, n1, n2, n3⟩ := blk r' (by omega) (by omega) (bz r' hr1 hr2)
            have rn : own_rn r' n := ⟨by omega, by omega, by omega, by omega⟩
            refine ⟨n, n0, n1, ?_, ?_⟩
            · rw [keep r' n rn n2]; exact n2
            · rw [keep r' n rn n2]; exact n3
theorem own_asX {F AC ST SA SN EX AL PO : List Int32} (h : own_PS AC ST SA SN EX AL) (hF : own_F F) {tot : Int32} (ht : tot.toInt ≤ 24) (n pc pu : Int32) (hO : own_O AC SA PO n 1024) : ∀ (f : Nat) (PR PG : List Int32) (u v : Int32), 0 ≤ v.toInt → v.toInt ≤ n.toInt → 32 - v.toInt < f → own_PL F AC ST SA SN PR PG tot (fun s => ∃ j : Int32, 0 ≤ j.toInt ∧ j.toInt < v.toInt ∧ gI PO j = s) → Tot (f_assign_16 (f_assign_58 F AC ST SA SN tot) F AC ST SA SN tot f PR PG PO n pc pu u v) (fun r => r.2.2.2.1.length = 32 ∧ r.2.2.2.2.2.1 = 1 ∧ own_PL F AC ST SA SN r.2.1 r.2.2.1 tot (fun s => ∃ j : Int32, 0 ≤ j.toInt ∧ j.toInt < n.toInt ∧ gI PO j = s) ∧ (∀ s : Int32, 0 ≤ s.toInt → (∃ j : Int32, 0 ≤ j.toInt ∧ j.toInt < v.toInt ∧ gI PO j = s) → gI r.2.1 s = gI PR s) ∧ (r.1 = u ∨ ∃ s : Int32, 0 ≤ s.toInt ∧ s.toInt < 32 ∧ (∃ j : Int32, 0 ≤ j.toInt ∧ j.toInt < n.toInt ∧ gI PO j = s) ∧ gI r.2.1 s = -1)) := by
  have e32 : (32 : Int32).toInt = 32 := rfl
  have n1 := hO.n1
  have lO := hO.l
  intro f
  induction f with
  | zero => intro PR PG u v h0 h1 h2; exfalso; omega
  | succ f ih =>
    intro PR PG u v h0 h1 h2 hP
    unfold f_assign_16
    refine Tot.ite (fun g => ?_) (fun g => ?_)
    · have g' := ilt.mp g
      rw [if_pos (by rw [ilt]; omega)]
      have ev : (v + 1).toInt = v.toInt + 1 := by
        have o : (1 : Int32).toInt = 1 := rfl
        rw [iadd_i (by omega) (by omega), o]
      obtain ⟨b0, b1, b2, b3⟩ := hO.a v h0 g'
      refine Tot.rdI h0 (by omega) (Tot.bind (own_plX h hF ht hP (pl' := fun s => ∃ j : Int32, 0 ≤ j.toInt ∧ j.toInt < (v + 1).toInt ∧ gI PO j = s) b0 b1 b2 ?_ ?_ ?_) ?_)
      · rintro ⟨j, j0, j1, j2⟩
        have := hO.s j v j0 j1 g'
        rw [j2] at this
        omega
      · rintro s ⟨j, j0, j1, j2⟩
        have := hO.s j v j0 j1 g'
        rw [j2] at this
        exact this
      · intro s
        constructor
        · rintro ⟨j, j0, j1, j2⟩
          by_cases e : j = v
          · right; rw [← j2, e]
          · left; exact ⟨j, j0, by rw [ieq] at e; omega, j2⟩
        · rintro (⟨j, j0, j1, j2⟩ | e)
          · exact ⟨j, j0, by omega, j2⟩
          · exact ⟨v, h0, by omega, e.symm⟩
      · rintro ⟨r, A, B⟩ ⟨q, kp, uz⟩
        simp only at q kp uz
        refine Tot.mono (ih A B _ (v + 1) (by omega) (by omega) (by omega) q) ?_
        rintro t ⟨w1, w2, w3, w4, w5⟩
        refine ⟨w1, w2, w3, fun s s0 hs => ?_, ?_⟩
        · obtain ⟨j, j0, j1, j2⟩ := hs
          rw [w4 s s0 ⟨j, j0, by omega, j2⟩]
          refine kp s s0 (fun e => ?_)
          have := hO.s j v j0 j1 g'
          rw [j2, e] at this
          omega
        · rcases uz with e | ⟨e, e2⟩
          · rw [e, if_neg (by decide)] at w5
            exact w5
          · right
            refine ⟨gI PO v, b0, b1, ⟨v, h0, by omega, rfl⟩, ?_⟩
            rw [w4 _ b0 ⟨v, h0, by omega, rfl⟩]
            exact e2
    · rw [ilt] at g
      unfold f_assign_58
      have e : v.toInt = n.toInt := by omega
      rw [e] at hP
      exact Tot.mk ⟨lO, rfl, hP, fun s _ _ => rfl, Or.inl rfl⟩
theorem own_assignX {F AC ST SA SN EX AL PR PG PO : List Int32} (h : own_PS AC ST SA SN EX AL) (hF : own_F F) {tot : Int32} (ht : tot.toInt ≤ 24) (n pc pu : Int32) (lR : PR.length = 32) (lG : PG.length = 768) (lO : PO.length = 32) : Tot (f_assign F AC ST SA SN tot PR PG PO n pc pu) (fun r => r.2.2.2.1.length = 32 ∧ r.2.2.2.2.2.1 = 1 ∧ ∃ PO' n', own_O AC SA PO' n' 1024 ∧ own_PL F AC ST SA SN r.2.1 r.2.2.1 tot (fun s => ∃ j : Int32, 0 ≤ j.toInt ∧ j.toInt < n'.toInt ∧ gI PO' j = s) ∧ (r.1 = 0 ∨ ∃ s : Int32, 0 ≤ s.toInt ∧ s.toInt < 32 ∧ (∃ j : Int32, 0 ≤ j.toInt ∧ j.toInt < n'.toInt ∧ gI PO' j = s) ∧ gI r.2.1 s = -1)) := by
  unfold f_assign f_discardPlan f_clearPlan f_buildOrder
  rw [Option.bind_some]
  have e0 : (0 : Int32).toInt = 0 := rfl
  refine Tot.bind (own_c2X PG lG n 100000 PR PO 0 lR lO (by decide) (by decide) (by decide) (fun i i0 i1 => by omega)) ?_
  rintro ⟨A, B, C, d⟩ ⟨q1, q2, q3, q4, q5, q6⟩
  simp only at q1 q2 q3 q4 q5 q6
  have hs : ∀ s : Int32, 0 ≤ s.toInt → s.toInt < 32 → ¬ gI AC s = 0 → 0 ≤ (gI SA s).toInt ∧ (gI SA s).toInt < 32 := by
    intro s s0 s1 sa
    rcases h.ok s s0 s1 with w | w
    · exact absurd w.1 sa
    · have := w.2.2.2.2
      exact ⟨w.2.2.2.1, by omega⟩
  refine Tot.bind (own_bo7X h.lC h.lA hs 100000 C 0 0 ⟨q3, by decide, by decide, fun i i0 i1 => by omega, fun i j i0 ij jn => by omega, fun s s0 s1 sa sb => by
      exfalso
      obtain ⟨k1, k2⟩ := hs s s0 s1 sa
      unfold own_key at sb
      omega⟩ (by decide) (by decide) (by decide)) ?_
  rintro ⟨O, m⟩ hO
  have hO' : own_O AC SA O m 1024 := hO
  have m0 := hO'.n0
  refine Tot.mono (own_asX h hF ht m 0 pu hO' 100000 A B 0 0 (by decide) (by omega) (by decide) ⟨q1, q2, fun s s0 s1 => Or.inl (q5 s s0 s1), fun r n hn => Or.inl ?_, fun s s0 s1 hs => absurd (q5 s s0 s1) hs, fun s s0 s1 hs => ?_⟩) ?_
  · have ei := own_rni hn
    obtain ⟨a, b, c, d⟩ := hn
    exact q6 _ (by omega) (by omega)
  · obtain ⟨j, j0, j1, j2⟩ := hs
    omega
  · rintro r ⟨a, b, c, _, d⟩
    exact ⟨a, b, O, m, hO', c, d⟩
theorem own_lowY {AC : List Int32} (lC : AC.length = 32) : ∀ (f : Nat) (j : Int32), 0 ≤ j.toInt → j.toInt ≤ 32 → 32 - j.toInt < f → (f_lowestInactiveSlot_2 AC f j = some (-1) ∧ ∀ i : Int32, j.toInt ≤ i.toInt → i.toInt < 32 → ¬ gI AC i = 0) ∨ ∃ r : Int32, f_lowestInactiveSlot_2 AC f j = some r ∧ j.toInt ≤ r.toInt ∧ r.toInt < 32 ∧ gI AC r = 0 ∧ ∀ i : Int32, j.toInt ≤ i.toInt → i.toInt < r.toInt → ¬ gI AC i = 0 := by
  intro f
  induction f with
  | zero => intro j h0 h1 h2; exfalso; omega
  | succ f ih =>
    intro j h0 h1 h2
    unfold f_lowestInactiveSlot_2
    by_cases g : j < 32
    · have g' : j.toInt < 32 := ilt.mp g
      have ej : (j + 1).toInt = j.toInt + 1 := by
        have o : (1 : Int32).toInt = 1 := rfl
        rw [iadd_i (by omega) (by omega), o]
      rw [if_pos g, rdg h0 (by omega), Option.bind_some]
      by_cases k : gI AC j = 0
      · rw [if_pos k]
        exact Or.inr ⟨j, rfl, by omega, g', k, fun i i0 i1 => by omega⟩
      · rw [if_neg k]
        have nj : ∀ i : Int32, j.toInt ≤ i.toInt → i.toInt < (j + 1).toInt → ¬ gI AC i = 0 := fun i i0 i1 => by
          have e : i = j := by rw [ieq]; omega
          rw [e]; exact k
        rcases ih (j + 1) (by omega) (by omega) (by omega) with ⟨q1, q2⟩ | ⟨r, q1, q2, q3, q4, q5⟩
        · left
          refine ⟨q1, fun i i0 i1 => ?_⟩
          by_cases c : i.toInt < (j + 1).toInt
          · exact nj i i0 c
          · exact q2 i (by omega) i1
        · right
          refine ⟨r, q1, by omega, q3, q4, fun i i0 i1 => ?_⟩
          by_cases c : i.toInt < (j + 1).toInt
          · exact nj i i0 c
          · exact q5 i (by omega) i1
    · rw [if_neg g]
      rw [ilt] at g
      have e32 : (32 : Int32).toInt = 32 := rfl
      exact Or.inl ⟨rfl, fun i i0 i1 => by omega⟩
theorem own_bookY {R AC ST SA SN EX AL : List Int32} {n : Int32} (h : own_PS AC ST SA SN EX AL) (hC : own_C AC ST SA SN EX AL n) (hR : R.length = 3) {t a k : Int32} (t0 : 0 ≤ t.toInt) (t2 : t.toInt ≤ 2) (a0 : 0 ≤ a.toInt) (k1 : 1 ≤ k.toInt) (ak : a.toInt + k.toInt ≤ 32) :
    (¬ n < 32 ∧ ∀ pc, f_book R AC ST SA SN EX AL n pc t a k = some (-3, AC, ST, SA, SN, EX, AL, n, pc)) ∨
    (n < 32 ∧ ¬ own_fit R AL (fun _ _ => 0) t a (a + k) ∧ ∀ pc, f_book R AC ST SA SN EX AL n pc t a k = some (-4, AC, ST, SA, SN, EX, AL, n, pc)) ∨
    (n < 32 ∧ own_fit R AL (fun _ _ => 0) t a (a + k) ∧ ∃ (id : Int32) (EX' AL' : List Int32), 0 ≤ id.toInt ∧ id.toInt < 32 ∧ gI AC id = 0 ∧ (∀ i : Int32, 0 ≤ i.toInt → i.toInt < id.toInt → ¬ gI AC i = 0) ∧ own_cov EX AL 1 t a (a + k) EX' AL' ∧ ∀ pc, f_book R AC ST SA SN EX AL n pc t a k = some (id, AC.set id.toInt.toNat 1, ST.set id.toInt.toNat t, SA.set id.toInt.toNat a, SN.set id.toInt.toNat k, EX', AL', n + 1, 0)) := by
  have er := own_rq0 t0 t2 a0 k1 ak
  have lC := h.lC
  have e0 : (0 : Int32).toInt = 0 := rfl
  have e32 : (32 : Int32).toInt = 32 := rfl
  by_cases g : n < 32
  · rcases own_fts h.lL hR (AC := AC) (ST := ST) (SA := SA) (SN := SN) (id := -1) t2 a0 (by omega) ak (fun _ _ => 0) (fun w m _ _ _ _ => own_x0 w m) with ⟨e, q⟩ | ⟨e, q⟩
    · right; right
      refine ⟨g, q, ?_⟩
      rcases own_lowY lC 100000 0 (by decide) (by decide) (by decide) with ⟨el, al⟩ | ⟨id, el, i0, i1, iz, il⟩
      · exfalso
        have hn := hC.2.2
        have call : ∀ (p : Nat → Bool) m, (∀ j, j < m → p j = true) → own_cnt p m = m := by
          intro p m
          induction m with
          | zero => intro _; rfl
          | succ m ih => intro hh; rw [own_cnt, ih (fun j hj => hh j (by omega)), hh m (by omega)]; simp
        rw [call] at hn
        · rw [ilt] at g
          omega
        · intro j hj
          have ej : (Int32.ofNat j).toInt = j := Int32.toInt_ofNat_of_lt (by omega)
          have nz := al (Int32.ofNat j) (by omega) (by omega)
          unfold own_ac
          rcases h.ok (Int32.ofNat j) (by omega) (by omega) with ⟨z, -⟩ | ⟨z, -⟩
          · exact absurd z nz
          · rw [z]; decide
      · have lT := h.lT
        have lA := h.lA
        have lN := h.lN
        have i0' : 0 ≤ id.toInt := by omega
        have z : ∀ L : List Int32, L.length = 32 → ∀ x, gI (L.set id.toInt.toNat x) id = x := fun L hl x => by rw [own_gs hl i0' i1 i0', if_pos rfl]
        obtain ⟨EX', AL', ea, hc⟩ := own_adj (AC := AC) (own_len lT _ t) (own_len lA _ a) (own_len lN _ k) h.lE h.lL (δ := 1) i0' i1 (z ST lT t) (z SA lA a) (z SN lN k) t0 t2 a0 (by omega) ak
        have ei : f_activateStay AC ST SA SN EX AL n id t a k = some (AC.set id.toInt.toNat 1, ST.set id.toInt.toNat t, SA.set id.toInt.toNat a, SN.set id.toInt.toNat k, EX', AL', n + 1) := by
          unfold f_activateStay f_storeStay
          rw [wrA_in i0' (by omega), Option.bind_some, wrA_in i0' (by omega), Option.bind_some, wrA_in i0' (by omega), Option.bind_some, Option.bind_some]
          show Option.bind (wrA AC id 1) _ = _
          rw [wrA_in i0' (by omega), Option.bind_some, ea, Option.bind_some]
        refine ⟨id, EX', AL', i0', i1, iz, fun i p1 p2 => il i (by omega) p2, hc, fun pc => ?_⟩
        have lo : f_lowestInactiveSlot AC = some id := el
        unfold f_book f_discardPlan
        rw [er, Option.bind_some, if_pos rfl, if_pos g, e, Option.bind_some, if_neg (by decide), lo, Option.bind_some, if_neg (by rw [ilt]; omega), ei, Option.bind_some]
        rfl
    · right; left
      refine ⟨g, q, fun pc => ?_⟩
      unfold f_book
      rw [er, Option.bind_some, if_pos rfl, if_pos g, e, Option.bind_some, if_pos rfl]
  · left
    refine ⟨g, fun pc => ?_⟩
    unfold f_book
    rw [er, Option.bind_some, if_pos rfl, if_neg g]
theorem own_start : own_PS (List.replicate 32 0) (List.replicate 32 0) (List.replicate 32 0) (List.replicate 32 0) (List.replicate 96 0) (List.replicate 96 0) ∧ own_C (List.replicate 32 0) (List.replicate 32 0) (List.replicate 32 0) (List.replicate 32 0) (List.replicate 96 0) (List.replicate 96 0) 0 := by
  have l32 : (List.replicate 32 (0 : Int32)).length = 32 := by simp
  have l96 : (List.replicate 96 (0 : Int32)).length = 96 := by simp
  have z : ∀ i : Int32, 0 ≤ i.toInt → i.toInt < 32 → gI (List.replicate 32 (0 : Int32)) i = 0 := fun i a b => gI_rep a b
  have e0 : (0 : Int32).toInt = 0 := rfl
  have z96 : ∀ w m : Int32, own_wn w m → gI (List.replicate 96 (0 : Int32)) (w * 32 + m) = 0 := by
    intro w m hw
    have ei := own_wx hw
    obtain ⟨p1, p2, p3, p4⟩ := hw
    exact gI_rep (by omega) (by omega)
  have cz : ∀ (p : Nat → Bool) (n : Nat), (∀ j, j < n → p j = false) → own_cnt p n = 0 := by
    intro p n
    induction n with
    | zero => intro _; rw [own_cnt]
    | succ n ih =>
      intro hj
      rw [own_cnt, ih (fun j k => hj j (by omega)), hj n (by omega)]
      simp
  have zj : ∀ j : Nat, j < 32 → gI (List.replicate 32 (0 : Int32)) (Int32.ofNat j) = 0 := by
    intro j hj
    have ej : (Int32.ofNat j).toInt = j := Int32.toInt_ofNat_of_lt (by omega)
    exact z _ (by omega) (by omega)
  refine ⟨⟨l32, l32, l32, l32, l96, l96, fun i a b => Or.inl ⟨z i a b, z i a b, z i a b, z i a b⟩⟩, fun w m hw => ?_, fun m m0 m1 => ?_, ?_⟩
  · rw [z96 w m hw, e0, cz]
    · rfl
    · intro j hj
      unfold own_on
      rw [zj j hj]
      simp
  · rw [z96 0 m ⟨by decide, by decide, m0, m1⟩, z96 1 m ⟨by decide, by decide, m0, m1⟩, z96 2 m ⟨by decide, by decide, m0, m1⟩, e0]
    omega
  · rw [e0, cz]
    · rfl
    · intro j hj
      unfold own_ac
      rw [zj j hj]
      decide
def own_gq (AC ST SA SN : List Int32) (e w m : Int32) (i : Nat) : Bool := decide (gI AC (Int32.ofNat i) = 1 ∧ w.toInt ≤ (gI ST (Int32.ofNat i)).toInt ∧ (gI SA (Int32.ofNat i)).toInt ≤ m.toInt ∧ m.toInt < (gI SA (Int32.ofNat i)).toInt + (gI SN (Int32.ofNat i)).toInt ∧ ¬ Int32.ofNat i = e)
theorem own_cnt_add {p q r : Nat → Bool} : ∀ n, (∀ j, j < n → (if p j then 1 else 0) = (if q j then 1 else 0) + (if r j then (1 : Nat) else 0)) → own_cnt p n = own_cnt q n + own_cnt r n := by
  intro n
  induction n with
  | zero => intro _; rfl
  | succ n ih =>
    intro h
    rw [own_cnt, own_cnt, own_cnt, ih (fun j hj => h j (by omega)), h n (by omega)]
    omega
theorem own_gq_step {AC ST SA SN EX AL : List Int32} (h : own_PS AC ST SA SN EX AL) {m : Int32} {j : Nat} (hj : j < 32) : (if own_gq AC ST SA SN (-1) 1 m j then 1 else 0) = (if own_on AC ST SA SN 1 m j then 1 else 0) + (if own_gq AC ST SA SN (-1) 2 m j then (1 : Nat) else 0) ∧ (if own_gq AC ST SA SN (-1) 0 m j then 1 else 0) = (if own_on AC ST SA SN 0 m j then 1 else 0) + (if own_gq AC ST SA SN (-1) 1 m j then (1 : Nat) else 0) ∧ own_gq AC ST SA SN (-1) 2 m j = own_on AC ST SA SN 2 m j := by
  have ej : (Int32.ofNat j).toInt = j := Int32.toInt_ofNat_of_lt (by omega)
  have e0 : (0 : Int32).toInt = 0 := rfl
  have e1 : (1 : Int32).toInt = 1 := rfl
  have e2 : (2 : Int32).toInt = 2 := rfl
  have em : (-1 : Int32).toInt = -1 := rfl
  have nm : ¬ Int32.ofNat j = -1 := by rw [ieq]; omega
  unfold own_gq own_on
  rw [e0, e1, e2]
  rcases h.ok (Int32.ofNat j) (by omega) (by omega) with ⟨z, -⟩ | ⟨z, t0, t2, -⟩
  · rw [z]
    have : ¬ ((0 : Int32) = 1) := by decide
    simp [this]
  · rw [z]
    simp only [nm, not_false_eq_true, and_true, true_and, decide_eq_true_eq]
    refine ⟨?_, ?_, ?_⟩
    · by_cases g : (gI SA (Int32.ofNat j)).toInt ≤ m.toInt ∧ m.toInt < (gI SA (Int32.ofNat j)).toInt + (gI SN (Int32.ofNat j)).toInt
      · simp only [g.1, g.2, and_true, and_self]
        split <;> split <;> split <;> omega
      · have n1 : ∀ x : Prop, ¬ (x ∧ (gI SA (Int32.ofNat j)).toInt ≤ m.toInt ∧ m.toInt < (gI SA (Int32.ofNat j)).toInt + (gI SN (Int32.ofNat j)).toInt) := fun x q => g q.2
        simp only [n1, if_false]
    · by_cases g : (gI SA (Int32.ofNat j)).toInt ≤ m.toInt ∧ m.toInt < (gI SA (Int32.ofNat j)).toInt + (gI SN (Int32.ofNat j)).toInt
      · simp only [g.1, g.2, and_true, and_self]
        split <;> split <;> split <;> omega
      · have n1 : ∀ x : Prop, ¬ (x ∧ (gI SA (Int32.ofNat j)).toInt ≤ m.toInt ∧ m.toInt < (gI SA (Int32.ofNat j)).toInt + (gI SN (Int32.ofNat j)).toInt) := fun x q => g q.2
        simp only [n1, if_false]
    · rw [decide_eq_decide]
      constructor
      · rintro ⟨p, q⟩
        exact ⟨by omega, q⟩
      · rintro ⟨p, q⟩
        exact ⟨by omega, q⟩
theorem own_w3 {w : Int32} (w0 : 0 ≤ w.toInt) (w2 : w.toInt ≤ 2) : w = 0 ∨ w = 1 ∨ w = 2 := by
  simp only [ieq, Int32.reduceToInt]
  omega
theorem own_gqA {AC ST SA SN EX AL : List Int32} {n : Int32} (h : own_PS AC ST SA SN EX AL) (hC : own_C AC ST SA SN EX AL n) {w m : Int32} (hw : own_wn w m) : (gI AL (w * 32 + m)).toInt = own_cnt (own_gq AC ST SA SN (-1) w m) 32 := by
  obtain ⟨w0, w3, m0, m1⟩ := hw
  have x0 := hC.1 0 m ⟨by decide, by decide, m0, m1⟩
  have x1 := hC.1 1 m ⟨by decide, by decide, m0, m1⟩
  have x2 := hC.1 2 m ⟨by decide, by decide, m0, m1⟩
  obtain ⟨y0, y1, y2⟩ := hC.2.1 m m0 m1
  have z2 : own_cnt (own_gq AC ST SA SN (-1) 2 m) 32 = own_cnt (own_on AC ST SA SN 2 m) 32 := own_cnt_same 32 (fun j hj => (own_gq_step h hj).2.2)
  have z1 := own_cnt_add (p := own_gq AC ST SA SN (-1) 1 m) (q := own_on AC ST SA SN 1 m) (r := own_gq AC ST SA SN (-1) 2 m) 32 (fun j hj => (own_gq_step h hj).1)
  have z0 := own_cnt_add (p := own_gq AC ST SA SN (-1) 0 m) (q := own_on AC ST SA SN 0 m) (r := own_gq AC ST SA SN (-1) 1 m) 32 (fun j hj => (own_gq_step h hj).2.1)
  rcases own_w3 w0 (by omega) with rfl | rfl | rfl <;> omega
theorem own_gqX {AC ST SA SN : List Int32} {id : Int32} (i0 : 0 ≤ id.toInt) (i1 : id.toInt < 32) (ia : gI AC id = 1) {w m : Int32} : (own_cnt (own_gq AC ST SA SN (-1) w m) 32 : Int) = own_cnt (own_gq AC ST SA SN id w m) 32 + (own_xs (gI ST id) (gI SA id) (gI SN id) w m).toInt := by
  have em : (-1 : Int32).toInt = -1 := rfl
  have oj := own_of i0
  have u := own_cnt_upd (p := own_gq AC ST SA SN id w m) (q := own_gq AC ST SA SN (-1) w m) (i := id.toInt.toNat) 32 (by omega) (by
    intro j hj ne
    have ej : (Int32.ofNat j).toInt = j := Int32.toInt_ofNat_of_lt (by omega)
    have n1 : ¬ Int32.ofNat j = -1 := by rw [ieq]; omega
    have n2 : ¬ Int32.ofNat j = id := by rw [ieq]; omega
    unfold own_gq
    simp only [n1, n2])
  have p0 : own_gq AC ST SA SN id w m id.toInt.toNat = false := by
    unfold own_gq
    rw [oj]
    simp
  have nm : ¬ id = -1 := by rw [ieq]; omega
  rw [p0] at u
  by_cases g : w.toInt ≤ (gI ST id).toInt ∧ (gI SA id).toInt ≤ m.toInt ∧ m.toInt < (gI SA id).toInt + (gI SN id).toInt
  · have q1 : own_gq AC ST SA SN (-1) w m id.toInt.toNat = true := by
      unfold own_gq
      rw [oj, decide_eq_true_eq]
      exact ⟨ia, g.1, g.2.1, g.2.2, nm⟩
    rw [q1] at u
    unfold own_xs
    rw [if_pos g]
    have e1 : (1 : Int32).toInt = 1 := rfl
    simp only [Bool.false_eq_true, if_false, if_true] at u
    omega
  · have q1 : own_gq AC ST SA SN (-1) w m id.toInt.toNat = false := by
      unfold own_gq
      rw [oj, decide_eq_false_iff_not]
      exact fun q => g ⟨q.2.1, q.2.2.1, q.2.2.2.1⟩
    rw [q1] at u
    unfold own_xs
    rw [if_neg g]
    have e1 : (0 : Int32).toInt = 0 := rfl
    simp only [Bool.false_eq_true, if_false] at u
    omega
theorem own_gqS {AC ST SA SN EX AL : List Int32} (h : own_PS AC ST SA SN EX AL) {e m j : Int32} {i : Nat} (hj : j.toInt = i) (hi : i < 32) :
    (f_stayType AC ST j = some (-1) ∧ own_ac AC i = false ∧ ∀ w, own_gq AC ST SA SN e w m i = false) ∨
    (0 ≤ (gI ST j).toInt ∧ (gI ST j).toInt ≤ 2 ∧ f_stayType AC ST j = some (gI ST j) ∧ f_stayArrive AC SA j = some (gI SA j) ∧ f_stayNights AC SN j = some (gI SN j) ∧ own_ac AC i = true ∧
      ((f_L_covers (gI SA j) (gI SN j) m = some 1 ∧ ∀ w, own_gq AC ST SA SN e w m i = decide (w.toInt ≤ (gI ST j).toInt ∧ ¬ j = e)) ∨
       (f_L_covers (gI SA j) (gI SN j) m = some 0 ∧ ∀ w, own_gq AC ST SA SN e w m i = false))) := by
  have oj : Int32.ofNat i = j := by
    have := own_of (q := j) (by omega)
    rw [show j.toInt.toNat = i by omega] at this
    exact this
  rcases own_act01 h j with ⟨ea, z⟩ | ⟨ea, i0, i1, ia, t0, t2, a0, k1, ak⟩
  · left
    have za := z (by omega) (by omega)
    have n1 : ¬ ((0 : Int32) = 1) := by decide
    refine ⟨?_, ?_, fun w => ?_⟩
    · unfold f_stayType
      rw [ea, Option.bind_some, if_pos rfl]
    · unfold own_ac
      rw [oj, za]
      decide
    · unfold own_gq
      rw [oj, za, decide_eq_false_iff_not]
      exact fun q => n1 q.1
  · right
    obtain ⟨s1, s2, s3⟩ := own_stA h i0 i1 ia
    refine ⟨t0, t2, s1, s2, s3, ?_, ?_⟩
    · unfold own_ac
      rw [oj, ia]
      decide
    · have es : (gI SA j + gI SN j).toInt = (gI SA j).toInt + (gI SN j).toInt := iadd_i (by omega) (by omega)
      unfold f_L_covers
      by_cases g : (gI SA j).toInt ≤ m.toInt ∧ m.toInt < (gI SA j).toInt + (gI SN j).toInt
      · left
        rw [if_neg (by rw [ilt]; omega), if_pos (by rw [ilt, es]; omega)]
        refine ⟨rfl, fun w => ?_⟩
        unfold own_gq
        rw [oj, decide_eq_decide]
        exact ⟨fun q => ⟨q.2.1, q.2.2.2.2⟩, fun q => ⟨ia, q.1, g.1, g.2, q.2⟩⟩
      · right
        refine ⟨?_, fun w => ?_⟩
        · by_cases g1 : m < gI SA j
          · rw [if_pos g1]
          · rw [if_neg g1, if_neg]
            rw [ilt] at g1 ⊢
            omega
        · unfold own_gq
          rw [oj, decide_eq_false_iff_not]
          exact fun q => g ⟨q.2.2.1, q.2.2.2.1⟩
theorem own_606 {AC ST SA SN EX AL : List Int32} (h : own_PS AC ST SA SN EX AL) {scr R F PR PG PO : List Int32} {tot n pl pc pu v4 v5 v6 v8 v9 m : Int32} {k : List Int32 → List Int32 → List Int32 → List Int32 → List Int32 → List Int32 → List Int32 → List Int32 → List Int32 → List Int32 → List Int32 → Int32 → Int32 → Int32 → Int32 → Int32 → Int32 → Int32 → Int32 → Int32 → Int32 → Int32 → Int32 → Int32 → Int32 → Option (Int32)}
    (hk : ∀ a b c : Int32, a.toInt = own_cnt (own_gq AC ST SA SN (-1) 0 m) 32 → b.toInt = own_cnt (own_gq AC ST SA SN (-1) 1 m) 32 → c.toInt = own_cnt (own_gq AC ST SA SN (-1) 2 m) 32 → k R F AC ST SA SN EX AL PR PG PO tot n pl pc pu v4 v5 v6 v8 v9 m a b c = some 1) :
    ∀ (f i : Nat) (j a b c : Int32), j.toInt = i → i ≤ 32 → 32 - i < f → a.toInt = own_cnt (own_gq AC ST SA SN (-1) 0 m) i → b.toInt = own_cnt (own_gq AC ST SA SN (-1) 1 m) i → c.toInt = own_cnt (own_gq AC ST SA SN (-1) 2 m) i → f_L_law_606 k scr f R F AC ST SA SN EX AL PR PG PO tot n pl pc pu v4 v5 v6 v8 v9 m a b c j = some 1 := by
  intro f
  have e0 : (0 : Int32).toInt = 0 := rfl
  have e1 : (1 : Int32).toInt = 1 := rfl
  have e2 : (2 : Int32).toInt = 2 := rfl
  have e32 : (32 : Int32).toInt = 32 := rfl
  have em : (-1 : Int32).toInt = -1 := rfl
  induction f with
  | zero => intro i j a b c h0 h1 h2; exfalso; omega
  | succ f ih =>
    intro i j a b c h0 h1 h2 ha hb hc
    unfold f_L_law_606
    by_cases g : j < 32
    · have g' : j.toInt < 32 := ilt.mp g
      have ej : (j + 1).toInt = ((i + 1 : Nat) : Int) := by rw [iadd_i (by omega) (by omega), e1]; omega
      have ca := own_cnt_le (own_gq AC ST SA SN (-1) 0 m) i
      have cb := own_cnt_le (own_gq AC ST SA SN (-1) 1 m) i
      have cc := own_cnt_le (own_gq AC ST SA SN (-1) 2 m) i
      rw [if_pos g]
      rcases own_gqS h (e := -1) (m := m) h0 (by omega) with ⟨es, -, z⟩ | ⟨t0, t2, es, s1, s2, -, ⟨cv, z⟩ | ⟨cv, z⟩⟩
      · rw [es, Option.bind_some, if_pos (by decide)]
        exact ih (i + 1) _ _ _ _ ej (by omega) (by omega) (by rw [own_cnt, z, ha]; rfl) (by rw [own_cnt, z, hb]; rfl) (by rw [own_cnt, z, hc]; rfl)
      · have nj : ¬ j = -1 := by rw [ieq]; omega
        rw [es, Option.bind_some, if_neg (by rw [ilt]; omega), s1, Option.bind_some, s2, Option.bind_some, cv, Option.bind_some, if_neg (by decide)]
        unfold f_L_law_664
        have z0 : own_gq AC ST SA SN (-1) 0 m i = true := by rw [z, decide_eq_true_eq]; exact ⟨by omega, nj⟩
        refine ih (i + 1) _ _ _ _ ej (by omega) (by omega) ?_ ?_ ?_
        · rw [own_cnt, z0, iadd_i (by omega) (by omega), ha, e1]; simp
        · by_cases q : gI ST j < 1
          · have q' := ilt.mp q
            have z1 : own_gq AC ST SA SN (-1) 1 m i = false := by rw [z, decide_eq_false_iff_not]; rintro ⟨q1, -⟩; omega
            rw [if_pos q, own_cnt, z1, hb]; simp
          · have q' := q
            rw [ilt] at q'
            have z1 : own_gq AC ST SA SN (-1) 1 m i = true := by rw [z, decide_eq_true_eq]; exact ⟨by omega, nj⟩
            rw [if_neg q, own_cnt, z1, iadd_i (by omega) (by omega), hb, e1]; simp
        · by_cases q : gI ST j < 2
          · have q' := ilt.mp q
            have z1 : own_gq AC ST SA SN (-1) 2 m i = false := by rw [z, decide_eq_false_iff_not]; rintro ⟨q1, -⟩; omega
            rw [if_pos q, own_cnt, z1, hc]; simp
          · have q' := q
            rw [ilt] at q'
            have z1 : own_gq AC ST SA SN (-1) 2 m i = true := by rw [z, decide_eq_true_eq]; exact ⟨by omega, nj⟩
            rw [if_neg q, own_cnt, z1, iadd_i (by omega) (by omega), hc, e1]; simp
      · rw [es, Option.bind_some, if_neg (by rw [ilt]; omega), s1, Option.bind_some, s2, Option.bind_some, cv, Option.bind_some, if_pos rfl]
        exact ih (i + 1) _ _ _ _ ej (by omega) (by omega) (by rw [own_cnt, z, ha]; rfl) (by rw [own_cnt, z, hb]; rfl) (by rw [own_cnt, z, hc]; rfl)
    · rw [if_neg g]
      rw [ilt] at g
      have hi : i = 32 := by omega
      subst hi
      exact hk a b c ha hb hc
abbrev own_K (R F AC ST SA SN EX AL PR PG PO : List Int32) (tot n pc v4 v5 v6 : Int32) : Prop := (own_PS AC ST SA SN EX AL) ∧ (own_C AC ST SA SN EX AL n) ∧ (own_R R) ∧ (own_Q R AL 0) ∧ (PR.length = 32) ∧ (PG.length = 768) ∧ (PO.length = 32) ∧ (gI R 0 = v4) ∧ (gI R 1 = v5) ∧ (gI R 2 = v6) ∧ (tot = v4) ∧ (tot.toInt ≤ 24) ∧ (own_F F) ∧ ((gI F 1).toInt ≤ (gI F 2).toInt) ∧ (pc = 0 ∨ (pc = 1 ∧ ∃ pl : Int32 → Prop, own_PL F AC ST SA SN PR PG tot pl))
theorem own_K.h {R F AC ST SA SN EX AL PR PG PO : List Int32} {tot n pc v4 v5 v6 : Int32} (self : own_K R F AC ST SA SN EX AL PR PG PO tot n pc v4 v5 v6) : own_PS AC ST SA SN EX AL := self.1
theorem own_K.hC {R F AC ST SA SN EX AL PR PG PO : List Int32} {tot n pc v4 v5 v6 : Int32} (self : own_K R F AC ST SA SN EX AL PR PG PO tot n pc v4 v5 v6) : own_C AC ST SA SN EX AL n := self.2.1
theorem own_K.hR {R F AC ST SA SN EX AL PR PG PO : List Int32} {tot n pc v4 v5 v6 : Int32} (self : own_K R F AC ST SA SN EX AL PR PG PO tot n pc v4 v5 v6) : own_R R := self.2.2.1
theorem own_K.hQ {R F AC ST SA SN EX AL PR PG PO : List Int32} {tot n pc v4 v5 v6 : Int32} (self : own_K R F AC ST SA SN EX AL PR PG PO tot n pc v4 v5 v6) : own_Q R AL 0 := self.2.2.2.1
theorem own_K.l1 {R F AC ST SA SN EX AL PR PG PO : List Int32} {tot n pc v4 v5 v6 : Int32} (self : own_K R F AC ST SA SN EX AL PR PG PO tot n pc v4 v5 v6) : PR.length = 32 := self.2.2.2.2.1
theorem own_K.l2 {R F AC ST SA SN EX AL PR PG PO : List Int32} {tot n pc v4 v5 v6 : Int32} (self : own_K R F AC ST SA SN EX AL PR PG PO tot n pc v4 v5 v6) : PG.length = 768 := self.2.2.2.2.2.1
theorem own_K.l3 {R F AC ST SA SN EX AL PR PG PO : List Int32} {tot n pc v4 v5 v6 : Int32} (self : own_K R F AC ST SA SN EX AL PR PG PO tot n pc v4 v5 v6) : PO.length = 32 := self.2.2.2.2.2.2.1
theorem own_K.g0 {R F AC ST SA SN EX AL PR PG PO : List Int32} {tot n pc v4 v5 v6 : Int32} (self : own_K R F AC ST SA SN EX AL PR PG PO tot n pc v4 v5 v6) : gI R 0 = v4 := self.2.2.2.2.2.2.2.1
theorem own_K.g1 {R F AC ST SA SN EX AL PR PG PO : List Int32} {tot n pc v4 v5 v6 : Int32} (self : own_K R F AC ST SA SN EX AL PR PG PO tot n pc v4 v5 v6) : gI R 1 = v5 := self.2.2.2.2.2.2.2.2.1
theorem own_K.g2 {R F AC ST SA SN EX AL PR PG PO : List Int32} {tot n pc v4 v5 v6 : Int32} (self : own_K R F AC ST SA SN EX AL PR PG PO tot n pc v4 v5 v6) : gI R 2 = v6 := self.2.2.2.2.2.2.2.2.2.1
theorem own_K.t {R F AC ST SA SN EX AL PR PG PO : List Int32} {tot n pc v4 v5 v6 : Int32} (self : own_K R F AC ST SA SN EX AL PR PG PO tot n pc v4 v5 v6) : tot = v4 := self.2.2.2.2.2.2.2.2.2.2.1
theorem own_K.t24 {R F AC ST SA SN EX AL PR PG PO : List Int32} {tot n pc v4 v5 v6 : Int32} (self : own_K R F AC ST SA SN EX AL PR PG PO tot n pc v4 v5 v6) : tot.toInt ≤ 24 := self.2.2.2.2.2.2.2.2.2.2.2.1
theorem own_K.hF {R F AC ST SA SN EX AL PR PG PO : List Int32} {tot n pc v4 v5 v6 : Int32} (self : own_K R F AC ST SA SN EX AL PR PG PO tot n pc v4 v5 v6) : own_F F := self.2.2.2.2.2.2.2.2.2.2.2.2.1
theorem own_K.fm {R F AC ST SA SN EX AL PR PG PO : List Int32} {tot n pc v4 v5 v6 : Int32} (self : own_K R F AC ST SA SN EX AL PR PG PO tot n pc v4 v5 v6) : (gI F 1).toInt ≤ (gI F 2).toInt := self.2.2.2.2.2.2.2.2.2.2.2.2.2.1
theorem own_K.p {R F AC ST SA SN EX AL PR PG PO : List Int32} {tot n pc v4 v5 v6 : Int32} (self : own_K R F AC ST SA SN EX AL PR PG PO tot n pc v4 v5 v6) : pc = 0 ∨ (pc = 1 ∧ ∃ pl : Int32 → Prop, own_PL F AC ST SA SN PR PG tot pl) := self.2.2.2.2.2.2.2.2.2.2.2.2.2.2
theorem own_587 {scr R F AC ST SA SN EX AL PR PG PO : List Int32} {tot n pl pc pu v4 v5 v6 v8 v9 : Int32} (hK : own_K R F AC ST SA SN EX AL PR PG PO tot n pc v4 v5 v6) {k : List Int32 → List Int32 → List Int32 → List Int32 → List Int32 → List Int32 → List Int32 → List Int32 → List Int32 → List Int32 → List Int32 → Int32 → Int32 → Int32 → Int32 → Int32 → Int32 → Int32 → Int32 → Int32 → Int32 → Option (Int32)}
    (hk : k R F AC ST SA SN EX AL PR PG PO tot n pl pc pu v4 v5 v6 v8 v9 = some 1) :
    ∀ (f : Nat) (m : Int32), 0 ≤ m.toInt → m.toInt ≤ 32 → 32 - m.toInt < f → f_L_law_587 k scr f R F AC ST SA SN EX AL PR PG PO tot n pl pc pu v4 v5 v6 v8 v9 m = some 1 := by
  intro f
  have e1 : (1 : Int32).toInt = 1 := rfl
  have e32 : (32 : Int32).toInt = 32 := rfl
  induction f with
  | zero => intro m h0 h1 h2; exfalso; omega
  | succ f ih =>
    intro m h0 h1 h2
    unfold f_L_law_587
    by_cases g : m < 32
    · have g' : m.toInt < 32 := ilt.mp g
      rw [if_pos g]
      refine own_606 hK.h ?_ 100000 0 0 0 0 0 rfl (by omega) (by omega) rfl rfl rfl
      intro a b c ha hb hc
      have ej : (m + 1).toInt = m.toInt + 1 := by rw [iadd_i (by omega) (by omega), e1]
      have q0 := (hK.hQ 0 m ⟨by decide, by decide, h0, g'⟩).2
      have q1 := (hK.hQ 1 m ⟨by decide, by decide, h0, g'⟩).2
      have q2 := (hK.hQ 2 m ⟨by decide, by decide, h0, g'⟩).2
      rw [hK.g0, own_gqA hK.h hK.hC ⟨by decide, by decide, h0, g'⟩] at q0
      rw [hK.g1, own_gqA hK.h hK.hC ⟨by decide, by decide, h0, g'⟩] at q1
      rw [hK.g2, own_gqA hK.h hK.hC ⟨by decide, by decide, h0, g'⟩] at q2
      unfold f_L_law_679
      rw [if_neg (by rw [ilt]; omega), if_neg (by rw [ilt]; omega), if_neg (by rw [ilt]; omega)]
      exact ih (m + 1) (by omega) (by omega) (by omega)
    · rw [if_neg g]
      exact hk
theorem own_264 {AC ST SA SN EX AL : List Int32} (h : own_PS AC ST SA SN EX AL) {scr R F PR PG PO : List Int32} {tot n pl pc pu v4 v5 v6 v8 v9 v11 t ar ni sid v e ft m : Int32} {y : Nat} (hy : y ≤ 32) {k : List Int32 → List Int32 → List Int32 → List Int32 → List Int32 → List Int32 → List Int32 → List Int32 → List Int32 → List Int32 → List Int32 → Int32 → Int32 → Int32 → Int32 → Int32 → Int32 → Int32 → Int32 → Int32 → Int32 → Int32 → Int32 → Int32 → Int32 → Int32 → Int32 → Int32 → Int32 → Int32 → Int32 → Int32 → Int32 → Int32 → Option (Int32)}
    (hk : ∀ x a b c : Int32, x.toInt = y + (if m = 0 then own_cnt (own_ac AC) 32 else 0) → a.toInt = own_cnt (own_gq AC ST SA SN e 0 m) 32 → b.toInt = own_cnt (own_gq AC ST SA SN e 1 m) 32 → c.toInt = own_cnt (own_gq AC ST SA SN e 2 m) 32 → k R F AC ST SA SN EX AL PR PG PO tot n pl pc pu v4 v5 v6 v8 v9 v11 t ar ni sid v e x ft m a b c = some 1) :
    ∀ (f i : Nat) (j x a b c : Int32), j.toInt = i → i ≤ 32 → 32 - i < f → x.toInt = y + (if m = 0 then own_cnt (own_ac AC) i else 0) → a.toInt = own_cnt (own_gq AC ST SA SN e 0 m) i → b.toInt = own_cnt (own_gq AC ST SA SN e 1 m) i → c.toInt = own_cnt (own_gq AC ST SA SN e 2 m) i → f_L_law_264 k scr f R F AC ST SA SN EX AL PR PG PO tot n pl pc pu v4 v5 v6 v8 v9 v11 t ar ni sid v e x ft m a b c j = some 1 := by
  intro f
  have e0 : (0 : Int32).toInt = 0 := rfl
  have e1 : (1 : Int32).toInt = 1 := rfl
  have e2 : (2 : Int32).toInt = 2 := rfl
  have e32 : (32 : Int32).toInt = 32 := rfl
  have em : (-1 : Int32).toInt = -1 := rfl
  induction f with
  | zero => intro i j x a b c h0 h1 h2; exfalso; omega
  | succ f ih =>
    intro i j x a b c h0 h1 h2 hx ha hb hc
    unfold f_L_law_264
    by_cases g : j < 32
    · have g' : j.toInt < 32 := ilt.mp g
      have ej : (j + 1).toInt = ((i + 1 : Nat) : Int) := by rw [iadd_i (by omega) (by omega), e1]; omega
      have ca := own_cnt_le (own_gq AC ST SA SN e 0 m) i
      have cb := own_cnt_le (own_gq AC ST SA SN e 1 m) i
      have cc := own_cnt_le (own_gq AC ST SA SN e 2 m) i
      have cx := own_cnt_le (own_ac AC) i
      rw [if_pos g]
      rcases own_gqS h (e := e) (m := m) h0 (by omega) with ⟨es, za, z⟩ | ⟨t0, t2, es, s1, s2, za, z⟩
      · rw [es, Option.bind_some, if_pos (by decide)]
        exact ih (i + 1) _ _ _ _ _ ej (by omega) (by omega) (by rw [own_cnt, za, hx]; rfl) (by rw [own_cnt, z, ha]; rfl) (by rw [own_cnt, z, hb]; rfl) (by rw [own_cnt, z, hc]; rfl)
      · have hx' : (if m = 0 then x + 1 else x).toInt = y + (if m = 0 then own_cnt (own_ac AC) (i + 1) else 0) := by
          by_cases q : m = 0
          · rw [if_pos q] at hx
            rw [if_pos q, if_pos q, own_cnt, za, iadd_i (by omega) (by omega), e1, hx, if_pos rfl]
            first | done | omega
          · rw [if_neg q] at hx
            rw [if_neg q, if_neg q, hx]
        rw [es, Option.bind_some, if_neg (by rw [ilt]; omega)]
        unfold f_L_law_296
        by_cases q : j = e
        · have z' : ∀ w, own_gq AC ST SA SN e w m i = false := by
            intro w
            rcases z with ⟨-, z⟩ | ⟨-, z⟩
            · rw [z, decide_eq_false_iff_not]
              exact fun r => r.2 q
            · exact z w
          rw [if_pos q]
          exact ih (i + 1) _ _ _ _ _ ej (by omega) (by omega) hx' (by rw [own_cnt, z', ha]; rfl) (by rw [own_cnt, z', hb]; rfl) (by rw [own_cnt, z', hc]; rfl)
        · rw [if_neg q, s1, Option.bind_some, s2, Option.bind_some]
          rcases z with ⟨cv, z⟩ | ⟨cv, z⟩
          · rw [cv, Option.bind_some, if_neg (by decide)]
            unfold f_L_law_340
            have z0 : own_gq AC ST SA SN e 0 m i = true := by rw [z, decide_eq_true_eq]; exact ⟨by omega, q⟩
            refine ih (i + 1) _ _ _ _ _ ej (by omega) (by omega) hx' ?_ ?_ ?_
            · rw [own_cnt, z0, iadd_i (by omega) (by omega), ha, e1]; simp
            · by_cases q1 : gI ST j < 1
              · have q' := ilt.mp q1
                have z1 : own_gq AC ST SA SN e 1 m i = false := by rw [z, decide_eq_false_iff_not]; rintro ⟨q1, -⟩; omega
                rw [if_pos q1, own_cnt, z1, hb]; simp
              · have q' := q1
                rw [ilt] at q'
                have z1 : own_gq AC ST SA SN e 1 m i = true := by rw [z, decide_eq_true_eq]; exact ⟨by omega, q⟩
                rw [if_neg q1, own_cnt, z1, iadd_i (by omega) (by omega), hb, e1]; simp
            · by_cases q1 : gI ST j < 2
              · have q' := ilt.mp q1
                have z1 : own_gq AC ST SA SN e 2 m i = false := by rw [z, decide_eq_false_iff_not]; rintro ⟨q1, -⟩; omega
                rw [if_pos q1, own_cnt, z1, hc]; simp
              · have q' := q1
                rw [ilt] at q'
                have z1 : own_gq AC ST SA SN e 2 m i = true := by rw [z, decide_eq_true_eq]; exact ⟨by omega, q⟩
                rw [if_neg q1, own_cnt, z1, iadd_i (by omega) (by omega), hc, e1]; simp
          · rw [cv, Option.bind_some, if_pos rfl]
            exact ih (i + 1) _ _ _ _ _ ej (by omega) (by omega) hx' (by rw [own_cnt, z, ha]; rfl) (by rw [own_cnt, z, hb]; rfl) (by rw [own_cnt, z, hc]; rfl)
    · rw [if_neg g]
      rw [ilt] at g
      have hi : i = 32 := by omega
      subst hi
      exact hk x a b c hx ha hb hc
def own_fn (R AC ST SA SN : List Int32) (e v t a k m : Int32) : Prop := ∀ w : Int32, 0 ≤ w.toInt → w.toInt ≤ 2 → (own_cnt (own_gq AC ST SA SN e w m) 32 : Int) + (if v = 1 ∧ w.toInt ≤ t.toInt ∧ a.toInt ≤ m.toInt ∧ m.toInt < a.toInt + k.toInt then 1 else 0) ≤ (gI R w).toInt
def own_va (v t a k : Int32) : Prop := (v = 0 ∧ ¬ (0 ≤ t.toInt ∧ t.toInt ≤ 2 ∧ 0 ≤ a.toInt ∧ a.toInt ≤ 31 ∧ 1 ≤ k.toInt ∧ a.toInt + k.toInt ≤ 32)) ∨ (v = 1 ∧ 0 ≤ t.toInt ∧ t.toInt ≤ 2 ∧ 0 ≤ a.toInt ∧ a.toInt ≤ 31 ∧ 1 ≤ k.toInt ∧ a.toInt + k.toInt ≤ 32)
theorem own_valid (t a k : Int32) : ∃ v, f_L_valid t a k = some v ∧ own_va v t a k := by
  have e0 : (0 : Int32).toInt = 0 := rfl
  have e1 : (1 : Int32).toInt = 1 := rfl
  have e2 : (2 : Int32).toInt = 2 := rfl
  have e31 : (31 : Int32).toInt = 31 := rfl
  have e32 : (32 : Int32).toInt = 32 := rfl
  unfold f_L_valid
  refine ⟨_, rfl, ?_⟩
  unfold own_va
  by_cases c1 : t < 0
  · rw [if_pos c1]; rw [ilt] at c1; exact Or.inl ⟨rfl, by omega⟩
  by_cases c2 : 2 < t
  · rw [if_neg c1, if_pos c2]; rw [ilt] at c2; exact Or.inl ⟨rfl, by omega⟩
  by_cases c3 : a < 0
  · rw [if_neg c1, if_neg c2, if_pos c3]; rw [ilt] at c3; exact Or.inl ⟨rfl, by omega⟩
  by_cases c4 : 31 < a
  · rw [if_neg c1, if_neg c2, if_neg c3, if_pos c4]; rw [ilt] at c4; exact Or.inl ⟨rfl, by omega⟩
  by_cases c5 : k < 1
  · rw [if_neg c1, if_neg c2, if_neg c3, if_neg c4, if_pos c5]; rw [ilt] at c5; exact Or.inl ⟨rfl, by omega⟩
  rw [if_neg c1, if_neg c2, if_neg c3, if_neg c4, if_neg c5]
  rw [ilt] at c1 c2 c3 c4 c5
  have es : (32 - a).toInt = 32 - a.toInt := by rw [isub_i (by omega) (by omega), e32]
  by_cases c6 : 32 - a < k
  · rw [if_pos c6]; rw [ilt, es] at c6; exact Or.inl ⟨rfl, by omega⟩
  · rw [if_neg c6]; rw [ilt, es] at c6; exact Or.inr ⟨rfl, by omega⟩
theorem own_355 {R : List Int32} {v4 v5 v6 : Int32} (g0 : gI R 0 = v4) (g1 : gI R 1 = v5) (g2 : gI R 2 = v6) {AC ST SA SN EX AL scr F PR PG PO : List Int32} {tot n pl pc pu v8 v9 v11 t ar ni sid v e x ft m a b c : Int32} (hv : own_va v t ar ni) (k1 : List Int32 → List Int32 → List Int32 → List Int32 → List Int32 → List Int32 → List Int32 → List Int32 → List Int32 → List Int32 → List Int32 → Int32 → Int32 → Int32 → Int32 → Int32 → Int32 → Int32 → Int32 → Int32 → Int32 → Int32 → Int32 → Int32 → Int32 → Int32 → Int32 → Int32 → Int32 → Int32 → Int32 → Option (Int32)) (k2 : List Int32 → List Int32 → List Int32 → List Int32 → List Int32 → List Int32 → List Int32 → List Int32 → List Int32 → List Int32 → List Int32 → Int32 → Int32 → Int32 → Int32 → Int32 → Int32 → Int32 → Int32 → Int32 → Int32 → Int32 → Int32 → Int32 → Int32 → Int32 → Int32 → Int32 → Int32 → Option (Int32))
    (ha : a.toInt = own_cnt (own_gq AC ST SA SN e 0 m) 32) (hb : b.toInt = own_cnt (own_gq AC ST SA SN e 1 m) 32) (hc : c.toInt = own_cnt (own_gq AC ST SA SN e 2 m) 32)
    (q1 : own_fn R AC ST SA SN e v t ar ni m → k1 R F AC ST SA SN EX AL PR PG PO tot n pl pc pu v4 v5 v6 v8 v9 v11 t ar ni sid v e x ft (m + 1) = some 1)
    (q2 : ¬ own_fn R AC ST SA SN e v t ar ni m → k1 R F AC ST SA SN EX AL PR PG PO tot n pl pc pu v4 v5 v6 v8 v9 v11 t ar ni sid v e x 0 (m + 1) = some 1) :
    f_L_law_355 k1 k2 scr R F AC ST SA SN EX AL PR PG PO tot n pl pc pu v4 v5 v6 v8 v9 v11 t ar ni sid v e x ft m a b c = some 1 := by
  have e0 : (0 : Int32).toInt = 0 := rfl
  have e1 : (1 : Int32).toInt = 1 := rfl
  have e2 : (2 : Int32).toInt = 2 := rfl
  have ca := own_cnt_le (own_gq AC ST SA SN e 0 m) 32
  have cb := own_cnt_le (own_gq AC ST SA SN e 1 m) 32
  have cc := own_cnt_le (own_gq AC ST SA SN e 2 m) 32
  have key : ∀ a' b' c' : Int32, a'.toInt = (own_cnt (own_gq AC ST SA SN e 0 m) 32 : Int) + (if v = 1 ∧ (0 : Int32).toInt ≤ t.toInt ∧ ar.toInt ≤ m.toInt ∧ m.toInt < ar.toInt + ni.toInt then 1 else 0) → b'.toInt = (own_cnt (own_gq AC ST SA SN e 1 m) 32 : Int) + (if v = 1 ∧ (1 : Int32).toInt ≤ t.toInt ∧ ar.toInt ≤ m.toInt ∧ m.toInt < ar.toInt + ni.toInt then 1 else 0) → c'.toInt = (own_cnt (own_gq AC ST SA SN e 2 m) 32 : Int) + (if v = 1 ∧ (2 : Int32).toInt ≤ t.toInt ∧ ar.toInt ≤ m.toInt ∧ m.toInt < ar.toInt + ni.toInt then 1 else 0) → f_L_law_393 k1 k2 scr R F AC ST SA SN EX AL PR PG PO tot n pl pc pu v4 v5 v6 v8 v9 v11 t ar ni sid v e x ft m a' b' c' = some 1 := by
    intro a' b' c' ha' hb' hc'
    unfold f_L_law_393
    by_cases d0 : v4 < a'
    · rw [if_pos d0]
      refine q2 (fun q => ?_)
      have := q 0 (by decide) (by decide)
      rw [g0, ← ha'] at this
      rw [ilt] at d0
      omega
    by_cases d1 : v5 < b'
    · rw [if_neg d0, if_pos d1]
      refine q2 (fun q => ?_)
      have := q 1 (by decide) (by decide)
      rw [g1, ← hb'] at this
      rw [ilt] at d1
      omega
    by_cases d2 : v6 < c'
    · rw [if_neg d0, if_neg d1, if_pos d2]
      refine q2 (fun q => ?_)
      have := q 2 (by decide) (by decide)
      rw [g2, ← hc'] at this
      rw [ilt] at d2
      omega
    rw [if_neg d0, if_neg d1, if_neg d2]
    refine q1 ?_
    rw [ilt] at d0 d1 d2
    intro w w0 w2
    rcases own_w3 w0 w2 with rfl | rfl | rfl
    · rw [g0, ← ha']; omega
    · rw [g1, ← hb']; omega
    · rw [g2, ← hc']; omega
  unfold f_L_law_355
  rcases hv with ⟨rfl, -⟩ | ⟨rfl, t0, t2, a0, a1, k1', ak⟩
  · have n1 : ¬ ((0 : Int32) = 1) := by decide
    rw [if_pos rfl]
    exact key a b c (by rw [if_neg (fun q => n1 q.1), ha]; omega) (by rw [if_neg (fun q => n1 q.1), hb]; omega) (by rw [if_neg (fun q => n1 q.1), hc]; omega)
  · have es : (ar + ni).toInt = ar.toInt + ni.toInt := iadd_i (by omega) (by omega)
    rw [if_neg (by decide)]
    unfold f_L_covers
    rw [Option.bind_some]
    by_cases g : ar.toInt ≤ m.toInt ∧ m.toInt < ar.toInt + ni.toInt
    · rw [if_neg (c := m < ar) (by rw [ilt]; omega), if_pos (c := m < ar + ni) (by rw [ilt, es]; omega), if_neg (by decide)]
      unfold f_L_law_384
      refine key _ _ _ ?_ ?_ ?_
      · rw [if_pos ⟨rfl, by omega, g⟩, iadd_i (by omega) (by omega), ha, e1]
      · by_cases q : t < 1
        · have q' := ilt.mp q
          rw [if_pos q, if_neg (by rintro ⟨-, r, -⟩; omega), hb]; omega
        · have q' := q
          rw [ilt] at q'
          rw [if_neg q, if_pos ⟨rfl, by omega, g⟩, iadd_i (by omega) (by omega), hb, e1]
      · by_cases q : t < 2
        · have q' := ilt.mp q
          rw [if_pos q, if_neg (by rintro ⟨-, r, -⟩; omega), hc]; omega
        · have q' := q
          rw [ilt] at q'
          rw [if_neg q, if_pos ⟨rfl, by omega, g⟩, iadd_i (by omega) (by omega), hc, e1]
    · have cz : (if m < ar then (0 : Int32) else (if m < ar + ni then (1 : Int32) else (0 : Int32))) = 0 := by
        by_cases g1 : m < ar
        · rw [if_pos g1]
        · rw [if_neg g1, if_neg]
          rw [ilt] at g1 ⊢
          omega
      rw [cz, if_pos rfl]
      exact key a b c (by rw [if_neg (fun q => g q.2.2), ha]; omega) (by rw [if_neg (fun q => g q.2.2), hb]; omega) (by rw [if_neg (fun q => g q.2.2), hc]; omega)
theorem own_245 {R F AC ST SA SN EX AL PR PG PO : List Int32} {tot n pl pc pu v4 v5 v6 v8 v9 v11 t ar ni sid v e : Int32} (hK : own_K R F AC ST SA SN EX AL PR PG PO tot n pc v4 v5 v6) {scr : List Int32} (hv : own_va v t ar ni) {k : List Int32 → List Int32 → List Int32 → List Int32 → List Int32 → List Int32 → List Int32 → List Int32 → List Int32 → List Int32 → List Int32 → Int32 → Int32 → Int32 → Int32 → Int32 → Int32 → Int32 → Int32 → Int32 → Int32 → Int32 → Int32 → Int32 → Int32 → Int32 → Int32 → Int32 → Int32 → Option (Int32)}
    (hk : ∀ ft : Int32, ((ft = 1 ∧ ∀ m : Int32, 0 ≤ m.toInt → m.toInt < 32 → own_fn R AC ST SA SN e v t ar ni m) ∨ (ft = 0 ∧ ∃ m : Int32, 0 ≤ m.toInt ∧ m.toInt < 32 ∧ ¬ own_fn R AC ST SA SN e v t ar ni m)) → k R F AC ST SA SN EX AL PR PG PO tot n pl pc pu v4 v5 v6 v8 v9 v11 t ar ni sid v n ft = some 1) :
    ∀ (f : Nat) (m x ft : Int32), 0 ≤ m.toInt → m.toInt ≤ 32 → 32 - m.toInt < f → x.toInt = (if m = 0 then 0 else (own_cnt (own_ac AC) 32 : Int)) → ((ft = 1 ∧ ∀ m' : Int32, 0 ≤ m'.toInt → m'.toInt < m.toInt → own_fn R AC ST SA SN e v t ar ni m') ∨ (ft = 0 ∧ ∃ m' : Int32, 0 ≤ m'.toInt ∧ m'.toInt < m.toInt ∧ ¬ own_fn R AC ST SA SN e v t ar ni m')) → f_L_law_245 k scr f R F AC ST SA SN EX AL PR PG PO tot n pl pc pu v4 v5 v6 v8 v9 v11 t ar ni sid v e x ft m = some 1 := by
  intro f
  have e0 : (0 : Int32).toInt = 0 := rfl
  have e1 : (1 : Int32).toInt = 1 := rfl
  have e32 : (32 : Int32).toInt = 32 := rfl
  have cx := own_cnt_le (own_ac AC) 32
  induction f with
  | zero => intro m x ft h0 h1 h2; exfalso; omega
  | succ f ih =>
    intro m x ft h0 h1 h2 hx hf
    unfold f_L_law_245
    by_cases g : m < 32
    · have g' : m.toInt < 32 := ilt.mp g
      have em : (m + 1).toInt = m.toInt + 1 := by rw [iadd_i (by omega) (by omega), e1]
      have nz : ¬ m + 1 = 0 := by rw [ieq]; omega
      rw [if_pos g]
      have step : ∀ (y : Nat), y ≤ 32 → x.toInt = y → (y : Int) + (if m = 0 then own_cnt (own_ac AC) 32 else 0 : Nat) = own_cnt (own_ac AC) 32 → f_L_law_264 (f_L_law_355 (f_L_law_245 k scr f) k scr) scr 100000 R F AC ST SA SN EX AL PR PG PO tot n pl pc pu v4 v5 v6 v8 v9 v11 t ar ni sid v e x ft m 0 0 0 0 = some 1 := by
        intro y hy xy yy
        refine own_264 hK.h hy ?_ 100000 0 0 x 0 0 0 rfl (by omega) (by omega) ?_ rfl rfl rfl
        · intro x' a b c hx' ha hb hc
          have xx : x'.toInt = (if m + 1 = 0 then 0 else (own_cnt (own_ac AC) 32 : Int)) := by
            rw [if_neg nz, hx', ← yy]
          refine own_355 hK.g0 hK.g1 hK.g2 hv _ _ ha hb hc (fun q => ?_) (fun q => ?_)
          · refine ih (m + 1) x' ft (by omega) (by omega) (by omega) xx ?_
            rcases hf with ⟨r1, r2⟩ | ⟨r1, m', r2, r3, r4⟩
            · refine Or.inl ⟨r1, fun m' p1 p2 => ?_⟩
              by_cases r : m' = m
              · rw [r]; exact q
              · rw [ieq] at r
                exact r2 m' p1 (by omega)
            · exact Or.inr ⟨r1, m', r2, by omega, r4⟩
          · exact ih (m + 1) x' 0 (by omega) (by omega) (by omega) xx (Or.inr ⟨rfl, m, h0, by omega, q⟩)
        · rw [xy]
          split <;> simp [own_cnt]
      by_cases mz : m = 0
      · rw [if_pos mz] at hx
        exact step 0 (by omega) (by omega) (by rw [if_pos mz]; omega)
      · rw [if_neg mz] at hx
        exact step (own_cnt (own_ac AC) 32) cx hx (by rw [if_neg mz]; omega)
    · rw [if_neg g]
      rw [ilt] at g
      have hm : m.toInt = 32 := by omega
      have xn : x = n := by
        have := hK.hC.2.2
        rw [if_neg (by rw [ieq]; omega)] at hx
        rw [ieq]
        omega
      rw [xn]
      rw [hm] at hf
      exact hk ft hf
theorem own_roomA {AC ST SA SN EX AL PR : List Int32} (h : own_PS AC ST SA SN EX AL) (lR : PR.length = 32) {s : Int32} (s0 : 0 ≤ s.toInt) (s1 : s.toInt < 32) (a : gI AC s = 1) : f_roomOf AC PR 1 s = some (gI PR s) := by
  unfold f_roomOf
  rcases own_act01 h s with ⟨e, z⟩ | ⟨e, -⟩
  · have := z s0 s1
    rw [a] at this
    exact absurd this (by decide)
  · rw [e, Option.bind_some, if_neg (by decide), if_neg (by decide), rdg s0 (by omega), Option.bind_some]
theorem own_ask {AC ST SA SN EX AL PR : List Int32} (h : own_PS AC ST SA SN EX AL) (lR : PR.length = 32) {s : Int32} (s0 : 0 ≤ s.toInt) (s1 : s.toInt < 32) :
    f_stayType AC ST s = some (-1) ∨ (gI AC s = 1 ∧ 0 ≤ (gI ST s).toInt ∧ (gI ST s).toInt ≤ 2 ∧ 0 ≤ (gI SA s).toInt ∧ 1 ≤ (gI SN s).toInt ∧ (gI SA s).toInt + (gI SN s).toInt ≤ 32 ∧ f_stayType AC ST s = some (gI ST s) ∧ f_stayArrive AC SA s = some (gI SA s) ∧ f_stayNights AC SN s = some (gI SN s) ∧ f_roomOf AC PR 1 s = some (gI PR s)) := by
  rcases own_act01 h s with ⟨ea, z⟩ | ⟨ea, i0, i1, ia, t0, t2, a0, k1, ak⟩
  · left
    unfold f_stayType
    rw [ea, Option.bind_some, if_pos rfl]
  · right
    obtain ⟨q1, q2, q3⟩ := own_stA h i0 i1 ia
    exact ⟨ia, t0, t2, a0, k1, ak, q1, q2, q3, own_roomA h lR i0 i1 ia⟩
theorem own_occT {PG : List Int32} (lG : PG.length = 768) {tot x n : Int32} (ht : tot.toInt ≤ 24) (x0 : 0 ≤ x.toInt) (x1 : x.toInt < tot.toInt) (n0 : 0 ≤ n.toInt) (n1 : n.toInt < 32) : f_occupant PG tot 1 x n = some (gI PG (x * 32 + n)) := by
  have e0 : (0 : Int32).toInt = 0 := rfl
  have e24 : (24 : Int32).toInt = 24 := rfl
  have e32 : (32 : Int32).toInt = 32 := rfl
  have g := own_gaX lG (r := x) (n := n) ⟨x0, by omega, n0, n1⟩
  have vr : f_isValidRoom tot x = some 1 := by
    unfold f_isValidRoom
    rw [if_neg (by rw [ilt]; omega), if_pos (by rw [ilt]; omega), if_pos (by rw [ilt]; omega)]
  have vn : f_isValidNight n = some 1 := by
    unfold f_isValidNight
    rw [if_neg (by rw [ilt]; omega), if_pos (by rw [ilt]; omega)]
  unfold f_occupant
  rw [vr, Option.bind_some, if_neg (by decide), vn, Option.bind_some, if_neg (by decide), if_neg (by decide), g, Option.bind_some]
theorem own_rty {F : List Int32} (hF : own_F F) (fm : (gI F 1).toInt ≤ (gI F 2).toInt) {tot r t : Int32} (ht : tot.toInt ≤ 24) (r0 : 0 ≤ r.toInt) (r1 : r.toInt < tot.toInt) (t0 : 0 ≤ t.toInt) (t2 : t.toInt ≤ 2) (hr : (gI F t).toInt ≤ r.toInt) : ∃ x, f_roomType F tot r = some x ∧ ¬ x < t := by
  have e0 : (0 : Int32).toInt = 0 := rfl
  have e1 : (1 : Int32).toInt = 1 := rfl
  have e2 : (2 : Int32).toInt = 2 := rfl
  have e24 : (24 : Int32).toInt = 24 := rfl
  have lF := hF.1
  have vr : f_isValidRoom tot r = some 1 := by
    unfold f_isValidRoom
    rw [if_neg (by rw [ilt]; omega), if_pos (by rw [ilt]; omega), if_pos (by rw [ilt]; omega)]
  unfold f_roomType f_roomTypeOf
  rw [vr, Option.bind_some, if_neg (by decide), rdg (by decide) (by rw [lF]; decide), Option.bind_some]
  by_cases c1 : r < gI F 1
  · rw [if_pos c1, Option.bind_some]
    refine ⟨0, rfl, ?_⟩
    rw [ilt] at c1 ⊢
    rcases own_w3 t0 t2 with rfl | rfl | rfl <;> omega
  · rw [if_neg c1, rdg (by decide) (by rw [lF]; decide), Option.bind_some, Option.bind_some]
    refine ⟨_, rfl, ?_⟩
    by_cases c2 : r < gI F 2
    · rw [if_pos c2]
      rw [ilt] at c2 ⊢
      rcases own_w3 t0 t2 with rfl | rfl | rfl <;> omega
    · rw [if_neg c2, ilt]
      omega
theorem own_924 {AC ST SA SN EX AL : List Int32} (h : own_PS AC ST SA SN EX AL) {scr R F PR PG PO : List Int32} {tot n pl pu v4 v5 v6 v8 v9 rm m o : Int32} {Q : Int32 → Prop} (hP : own_PL F AC ST SA SN PR PG tot Q) (r0 : 0 ≤ rm.toInt) (r1 : rm.toInt < 24) (m0 : 0 ≤ m.toInt) (m1 : m.toInt < 32) (ho : o = gI PG (rm * 32 + m)) {k : List Int32 → List Int32 → List Int32 → List Int32 → List Int32 → List Int32 → List Int32 → List Int32 → List Int32 → List Int32 → List Int32 → Int32 → Int32 → Int32 → Int32 → Int32 → Int32 → Int32 → Int32 → Int32 → Int32 → Int32 → Int32 → Option (Int32)}
    (hk : k R F AC ST SA SN EX AL PR PG PO tot n pl 1 pu v4 v5 v6 v8 v9 rm (m + 1) = some 1) :
    ∀ (f : Nat) (j : Int32), 0 ≤ j.toInt → j.toInt ≤ 32 → 32 - j.toInt < f → f_L_law_924 k scr f R F AC ST SA SN EX AL PR PG PO tot n pl 1 pu v4 v5 v6 v8 v9 rm m o j = some 1 := by
  intro f
  have e1 : (1 : Int32).toInt = 1 := rfl
  have e32 : (32 : Int32).toInt = 32 := rfl
  have em : (-1 : Int32).toInt = -1 := rfl
  induction f with
  | zero => intro j h0 h1 h2; exfalso; omega
  | succ f ih =>
    intro j h0 h1 h2
    unfold f_L_law_924
    by_cases g : j < 32
    · have g' : j.toInt < 32 := ilt.mp g
      have ej : (j + 1).toInt = j.toInt + 1 := by rw [iadd_i (by omega) (by omega), e1]
      have next := ih (j + 1) (by omega) (by omega) (by omega)
      rw [if_pos g]
      rcases own_ask h hP.a h0 g' with es | ⟨ia, t0, t2, a0, k1, ak, es, s1, s2, s3⟩
      · rw [es, Option.bind_some, if_pos (by decide)]
        exact next
      · rw [es, Option.bind_some, if_neg (by rw [ilt]; have e0 : (0 : Int32).toInt = 0 := rfl; omega), s3, Option.bind_some]
        have dd := hP.d rm m ⟨r0, r1, m0, m1⟩
        by_cases q : gI PR j = rm
        · rw [if_pos q, s1, Option.bind_some, s2, Option.bind_some]
          have es : (gI SA j + gI SN j).toInt = (gI SA j).toInt + (gI SN j).toInt := iadd_i (by omega) (by omega)
          have np : ¬ gI PR j = -1 := by rw [q, ieq]; omega
          unfold f_L_covers
          rw [Option.bind_some]
          unfold f_L_law_983 f_L_law_997
          by_cases c : (gI SA j).toInt ≤ m.toInt ∧ m.toInt < (gI SA j).toInt + (gI SN j).toInt
          · have oj : o = j := by rw [ho, ← q]; exact hP.e j h0 g' np m c.1 c.2
            rw [if_neg (c := m < gI SA j) (by rw [ilt]; omega), if_pos (c := m < gI SA j + gI SN j) (by rw [ilt, es]; omega), if_pos oj]
            rw [if_pos (by decide)]
            exact next
          · have cz : (if m < gI SA j then (0 : Int32) else (if m < gI SA j + gI SN j then (1 : Int32) else (0 : Int32))) = 0 := by
              by_cases g1 : m < gI SA j
              · rw [if_pos g1]
              · rw [if_neg g1, if_neg]
                rw [ilt] at g1 ⊢
                omega
            have oj : ¬ o = j := by
              intro r
              rw [ho] at r
              rcases dd with d | ⟨-, -, -, -, -, d1, d2⟩
              · rw [r, ieq] at d; omega
              · rw [r] at d1 d2
                exact c ⟨d1, d2⟩
            rw [cz, if_pos rfl, if_neg oj, if_pos rfl]
            exact next
        · rw [if_neg q]
          unfold f_L_law_983 f_L_law_997
          have oj : ¬ o = j := by
            intro r
            rw [ho] at r
            rcases dd with d | ⟨-, -, -, -, d0, -⟩
            · rw [r, ieq] at d; omega
            · rw [r] at d0
              exact q d0
          rw [if_neg oj, if_pos rfl]
          exact next
    · rw [if_neg g]
      exact hk
theorem own_873 {AC ST SA SN EX AL : List Int32} (h : own_PS AC ST SA SN EX AL) {scr R F PR PG PO : List Int32} {tot n pl pu v4 v5 v6 v8 v9 rm : Int32} {Q : Int32 → Prop} (hP : own_PL F AC ST SA SN PR PG tot Q) (ht : tot.toInt ≤ 24) (r0 : 0 ≤ rm.toInt) (r1 : rm.toInt < tot.toInt) {k : List Int32 → List Int32 → List Int32 → List Int32 → List Int32 → List Int32 → List Int32 → List Int32 → List Int32 → List Int32 → List Int32 → Int32 → Int32 → Int32 → Int32 → Int32 → Int32 → Int32 → Int32 → Int32 → Int32 → Int32 → Option (Int32)}
    (hk : k R F AC ST SA SN EX AL PR PG PO tot n pl 1 pu v4 v5 v6 v8 v9 (rm + 1) = some 1) :
    ∀ (f : Nat) (m : Int32), 0 ≤ m.toInt → m.toInt ≤ 32 → 32 - m.toInt < f → f_L_law_873 k scr f R F AC ST SA SN EX AL PR PG PO tot n pl 1 pu v4 v5 v6 v8 v9 rm m = some 1 := by
  intro f
  have e0 : (0 : Int32).toInt = 0 := rfl
  have e1 : (1 : Int32).toInt = 1 := rfl
  have e31 : (31 : Int32).toInt = 31 := rfl
  have e32 : (32 : Int32).toInt = 32 := rfl
  induction f with
  | zero => intro m h0 h1 h2; exfalso; omega
  | succ f ih =>
    intro m h0 h1 h2
    unfold f_L_law_873
    by_cases g : m < 32
    · have g' : m.toInt < 32 := ilt.mp g
      have em : (m + 1).toInt = m.toInt + 1 := by rw [iadd_i (by omega) (by omega), e1]
      have next := ih (m + 1) (by omega) (by omega) (by omega)
      rw [if_pos g, own_occT hP.b ht r0 r1 h0 g', Option.bind_some]
      have fin1 : f_L_law_924 (f_L_law_873 k scr f) scr 100000 R F AC ST SA SN EX AL PR PG PO tot n pl 1 pu v4 v5 v6 v8 v9 rm m (gI PG (rm * 32 + m)) 0 = some 1 := own_924 h hP r0 (by omega) h0 g' rfl next 100000 0 (by decide) (by decide) (by decide)
      rcases hP.d rm m ⟨r0, by omega, h0, g'⟩ with d | ⟨d0, d1, -, d3, -⟩
      · rw [if_pos d]
        exact fin1
      · have nd : ¬ gI PG (rm * 32 + m) = -1 := by rw [ieq]; have em : (-1 : Int32).toInt = -1 := rfl; omega
        rw [if_neg nd, if_neg (by rw [ilt]; omega), if_neg (by rw [ilt]; omega), (own_stA h d0 d1 d3).1, Option.bind_some]
        have ok2 := h.ok (gI PG (rm * 32 + m)) d0 d1
        rcases ok2 with ⟨z, -⟩ | ⟨-, z, -⟩
        · rw [d3] at z
          exact absurd z (by decide)
        · rw [if_neg (by rw [ilt]; omega)]
          exact fin1
    · rw [if_neg g]
      exact hk
theorem own_863 {AC ST SA SN EX AL : List Int32} (h : own_PS AC ST SA SN EX AL) {scr R F PR PG PO : List Int32} {n pl pu v4 v5 v6 v8 v9 : Int32} {Q : Int32 → Prop} (hP : own_PL F AC ST SA SN PR PG v4 Q) (ht : v4.toInt ≤ 24) {k : List Int32 → List Int32 → List Int32 → List Int32 → List Int32 → List Int32 → List Int32 → List Int32 → List Int32 → List Int32 → List Int32 → Int32 → Int32 → Int32 → Int32 → Int32 → Int32 → Int32 → Int32 → Int32 → Int32 → Option (Int32)}
    (hk : k R F AC ST SA SN EX AL PR PG PO v4 n pl 1 pu v4 v5 v6 v8 (v9 + 1) = some 1) :
    ∀ (f : Nat) (m : Int32), 0 ≤ m.toInt → m.toInt ≤ 24 → 24 - m.toInt < f → f_L_law_863 k scr f R F AC ST SA SN EX AL PR PG PO v4 n pl 1 pu v4 v5 v6 v8 v9 m = some 1 := by
  intro f
  have e1 : (1 : Int32).toInt = 1 := rfl
  induction f with
  | zero => intro m h0 h1 h2; exfalso; omega
  | succ f ih =>
    intro m h0 h1 h2
    unfold f_L_law_863
    by_cases g : m < v4
    · have g' := ilt.mp g
      have em : (m + 1).toInt = m.toInt + 1 := by rw [iadd_i (by omega) (by omega), e1]
      rw [if_pos g]
      exact own_873 h hP ht h0 g' (ih (m + 1) (by omega) (by omega) (by omega)) 100000 0 (by decide) (by decide) (by decide)
    · rw [if_neg g]
      exact hk
theorem own_780 {AC ST SA SN EX AL : List Int32} (h : own_PS AC ST SA SN EX AL) {scr R F PR PG PO : List Int32} {tot n pl pu v4 v5 v6 v8 v9 a : Int32} {Q : Int32 → Prop} (hP : own_PL F AC ST SA SN PR PG tot Q) (a0 : 0 ≤ a.toInt) (a1 : a.toInt < 32) (aa : gI AC a = 1) (an : ¬ gI PR a = -1) {k : List Int32 → List Int32 → List Int32 → List Int32 → List Int32 → List Int32 → List Int32 → List Int32 → List Int32 → List Int32 → List Int32 → Int32 → Int32 → Int32 → Int32 → Int32 → Int32 → Int32 → Int32 → Int32 → Int32 → Int32 → Option (Int32)}
    (hk : k R F AC ST SA SN EX AL PR PG PO tot n pl 1 pu v4 v5 v6 v8 v9 (a + 1) = some 1) :
    ∀ (f : Nat) (j : Int32), a.toInt < j.toInt → j.toInt ≤ 32 → 32 - j.toInt < f → f_L_law_780 k scr f R F AC ST SA SN EX AL PR PG PO tot n pl 1 pu v4 v5 v6 v8 v9 a (gI PR a) j = some 1 := by
  intro f
  have e0 : (0 : Int32).toInt = 0 := rfl
  have e1 : (1 : Int32).toInt = 1 := rfl
  have e32 : (32 : Int32).toInt = 32 := rfl
  induction f with
  | zero => intro j h0 h1 h2; exfalso; omega
  | succ f ih =>
    intro j h0 h1 h2
    unfold f_L_law_780
    by_cases g : j < 32
    · have g' : j.toInt < 32 := ilt.mp g
      have ej : (j + 1).toInt = j.toInt + 1 := by rw [iadd_i (by omega) (by omega), e1]
      have next := ih (j + 1) (by omega) (by omega) (by omega)
      rw [if_pos g]
      rcases own_ask h hP.a (s := j) (by omega) g' with es | ⟨ja, t0, t2, b0, k1, ak, es, s1, s2, s3⟩
      · rw [es, Option.bind_some, if_pos (by decide)]
        exact next
      · rw [es, Option.bind_some, if_neg (by rw [ilt]; omega), s3, Option.bind_some]
        by_cases q : gI PR j = gI PR a
        · obtain ⟨-, x1, x2⟩ := own_stA h a0 a1 aa
          have oka := h.ok a a0 a1
          rcases oka with ⟨z, -⟩ | ⟨-, -, -, y0, y1, y2⟩
          · rw [aa] at z
            exact absurd z (by decide)
          have esa : (gI SA a + gI SN a).toInt = (gI SA a).toInt + (gI SN a).toInt := iadd_i (by omega) (by omega)
          have esj : (gI SA j + gI SN j).toInt = (gI SA j).toInt + (gI SN j).toInt := iadd_i (by omega) (by omega)
          have no : ¬ ((gI SA a).toInt < (gI SA j).toInt + (gI SN j).toInt ∧ (gI SA j).toInt < (gI SA a).toInt + (gI SN a).toInt) := by
            rintro ⟨c1, c2⟩
            have kb := hP.e j (by omega) g' (by rw [q]; exact an)
            have ka := hP.e a a0 a1 an
            have nab : ¬ a = j := by rw [ieq]; omega
            apply nab
            by_cases l : (gI SA a).toInt ≤ (gI SA j).toInt
            · rw [← ka (gI SA j) l c2, ← q, kb (gI SA j) (by omega) (by omega)]
            · rw [← ka (gI SA a) (by omega) (by omega), ← q, kb (gI SA a) (by omega) c1]
          rw [if_pos q, x1, Option.bind_some, x2, Option.bind_some, s1, Option.bind_some, s2, Option.bind_some]
          have ov : f_L_overlap (gI SA a) (gI SN a) (gI SA j) (gI SN j) = some 0 := by
            unfold f_L_overlap
            by_cases c1 : gI SA a < gI SA j + gI SN j
            · rw [if_pos c1, if_neg]
              intro c2
              rw [ilt] at c1 c2
              exact no ⟨by omega, by omega⟩
            · rw [if_neg c1]
          rw [ov, Option.bind_some, if_pos rfl]
          exact next
        · rw [if_neg q]
          exact next
    · rw [if_neg g]
      exact hk
theorem own_719 {AC ST SA SN EX AL : List Int32} (h : own_PS AC ST SA SN EX AL) {scr R F PR PG PO : List Int32} {tot n pl pu v4 v5 v6 v8 v9 : Int32} {Q : Int32 → Prop} (hP : own_PL F AC ST SA SN PR PG tot Q) (ht : tot.toInt ≤ 24) (hF : own_F F) (fm : (gI F 1).toInt ≤ (gI F 2).toInt) {k : List Int32 → List Int32 → List Int32 → List Int32 → List Int32 → List Int32 → List Int32 → List Int32 → List Int32 → List Int32 → List Int32 → Int32 → Int32 → Int32 → Int32 → Int32 → Int32 → Int32 → Int32 → Int32 → Int32 → Int32 → Option (Int32)}
    (hk : k R F AC ST SA SN EX AL PR PG PO tot n pl 1 pu v4 v5 v6 v8 v9 0 = some 1) :
    ∀ (f : Nat) (j : Int32), 0 ≤ j.toInt → j.toInt ≤ 32 → 32 - j.toInt < f → f_L_law_719 k scr f R F AC ST SA SN EX AL PR PG PO tot n pl 1 pu v4 v5 v6 v8 v9 j = some 1 := by
  intro f
  have e0 : (0 : Int32).toInt = 0 := rfl
  have e1 : (1 : Int32).toInt = 1 := rfl
  have e32 : (32 : Int32).toInt = 32 := rfl
  have em : (-1 : Int32).toInt = -1 := rfl
  induction f with
  | zero => intro j h0 h1 h2; exfalso; omega
  | succ f ih =>
    intro j h0 h1 h2
    unfold f_L_law_719
    by_cases g : j < 32
    · have g' : j.toInt < 32 := ilt.mp g
      have ej : (j + 1).toInt = j.toInt + 1 := by rw [iadd_i (by omega) (by omega), e1]
      have next := ih (j + 1) (by omega) (by omega) (by omega)
      rw [if_pos g]
      rcases own_ask h hP.a (s := j) (by omega) g' with es | ⟨ja, t0, t2, b0, k1, ak, es, s1, s2, s3⟩
      · rw [es, Option.bind_some, if_pos (by decide)]
        exact next
      · rw [es, Option.bind_some, if_neg (by rw [ilt]; omega), s3, Option.bind_some]
        rcases hP.c j h0 g' with c | ⟨-, -, c1, c2, c3⟩
        · rw [c, if_pos (by decide)]
          exact next
        · rw [if_neg (by rw [ilt]; omega)]
          obtain ⟨x, ex, nx⟩ := own_rty hF fm ht c2 c3 t0 t2 c1
          rw [ex, Option.bind_some, if_neg nx]
          exact own_780 h hP h0 g' ja (by rw [ieq]; omega) next 100000 (j + 1) (by omega) (by omega) (by omega)
    · rw [if_neg g]
      exact hk
theorem own_after {scr R F AC ST SA SN EX AL PR PG PO : List Int32} {tot n pl pc pu v4 v5 v6 v8 v9 : Int32} (hK : own_K R F AC ST SA SN EX AL PR PG PO tot n pc v4 v5 v6) {k : List Int32 → List Int32 → List Int32 → List Int32 → List Int32 → List Int32 → List Int32 → List Int32 → List Int32 → List Int32 → List Int32 → Int32 → Int32 → Int32 → Int32 → Int32 → Int32 → Int32 → Int32 → Int32 → Int32 → Option (Int32)}
    (hk : k R F AC ST SA SN EX AL PR PG PO tot n pl pc pu v4 v5 v6 v8 (v9 + 1) = some 1) : f_L_law_587 (f_L_law_708 k scr) scr 100000 R F AC ST SA SN EX AL PR PG PO tot n pl pc pu v4 v5 v6 v8 v9 0 = some 1 := by
  refine own_587 hK ?_ 100000 0 (by decide) (by decide) (by decide)
  unfold f_L_law_708 f_isAssigned
  rcases hK.p with rfl | ⟨rfl, Q, hP⟩
  · rw [Option.bind_some, if_pos (by decide)]
    exact hk
  · rw [Option.bind_some, if_neg (by decide)]
    have te := hK.t
    have t24 := hK.t24
    have hF := hK.hF
    have fm := hK.fm
    have h := hK.h
    clear hK
    subst te
    refine own_719 h hP t24 hF fm ?_ 100000 0 (by decide) (by decide) (by decide)
    exact own_863 h hP t24 hk 100000 0 (by decide) (by decide) (by decide)
theorem own_Q0 {R AC ST SA SN EX AL : List Int32} {n : Int32} {b : Int} (h : own_PS AC ST SA SN EX AL) (hC : own_C AC ST SA SN EX AL n) (hQ : own_Q R AL b) : own_Q R AL 0 := by
  intro w m hw
  have := own_gqA h hC hw
  exact ⟨by omega, (hQ w m hw).2⟩
theorem own_fitX {R F AC ST SA SN EX AL PR PG PO : List Int32} {tot n pc v4 v5 v6 : Int32} (hK : own_K R F AC ST SA SN EX AL PR PG PO tot n pc v4 v5 v6) {e t a k : Int32} (t0 : 0 ≤ t.toInt) (t2 : t.toInt ≤ 2) (a0 : 0 ≤ a.toInt) (k1 : 1 ≤ k.toInt) (ak : a.toInt + k.toInt ≤ 32) (x : Int32 → Int32 → Int32) (hx : ∀ w m : Int32, own_wn w m → (gI AL (w * 32 + m)).toInt = own_cnt (own_gq AC ST SA SN e w m) 32 + (x w m).toInt ∧ 0 ≤ (x w m).toInt ∧ (x w m).toInt ≤ 1) :
    (∀ m : Int32, 0 ≤ m.toInt → m.toInt < 32 → own_fn R AC ST SA SN e 1 t a k m) ↔ own_fit R AL x t a (a + k) := by
  have es : (a + k).toInt = a.toInt + k.toInt := iadd_i (by omega) (by omega)
  have e1 : (1 : Int32).toInt = 1 := rfl
  have val : ∀ w m : Int32, own_wn w m → (gI AL (w * 32 + m) - x w m + 1).toInt = own_cnt (own_gq AC ST SA SN e w m) 32 + 1 := by
    intro w m hw
    obtain ⟨y1, y2, y3⟩ := hx w m hw
    have c := own_cnt_le (own_gq AC ST SA SN e w m) 32
    have d : (gI AL (w * 32 + m) - x w m).toInt = own_cnt (own_gq AC ST SA SN e w m) 32 := by rw [isub_i (by omega) (by omega)]; omega
    rw [iadd_i (by omega) (by omega), d, e1]
  constructor
  · intro hf m w h1 h2 h3 h4
    rw [es] at h2
    have hw : own_wn w m := ⟨h3, by omega, by omega, by omega⟩
    have f := hf m (by omega) (by omega) w h3 (by omega)
    rw [if_pos ⟨rfl, h4, h1, h2⟩] at f
    rw [ilt, val w m hw]
    omega
  · intro hf m m0 m1 w w0 w2
    have hw : own_wn w m := ⟨w0, by omega, m0, m1⟩
    by_cases g : (1 : Int32) = 1 ∧ w.toInt ≤ t.toInt ∧ a.toInt ≤ m.toInt ∧ m.toInt < a.toInt + k.toInt
    · rw [if_pos g]
      have f := hf m w g.2.2.1 (by rw [es]; exact g.2.2.2) w0 g.2.1
      rw [ilt, val w m hw] at f
      omega
    · rw [if_neg g]
      have q := (hK.hQ w m hw).2
      obtain ⟨y1, y2, y3⟩ := hx w m hw
      omega
theorem own_x0X {AC ST SA SN EX AL : List Int32} {n : Int32} (h : own_PS AC ST SA SN EX AL) (hC : own_C AC ST SA SN EX AL n) : ∀ w m : Int32, own_wn w m → (gI AL (w * 32 + m)).toInt = own_cnt (own_gq AC ST SA SN (-1) w m) 32 + ((fun _ _ => 0 : Int32 → Int32 → Int32) w m).toInt ∧ 0 ≤ ((fun _ _ => 0 : Int32 → Int32 → Int32) w m).toInt ∧ ((fun _ _ => 0 : Int32 → Int32 → Int32) w m).toInt ≤ 1 := by
  intro w m hw
  have e0 : (0 : Int32).toInt = 0 := rfl
  have := own_gqA h hC hw
  show _ = _ + (0 : Int32).toInt ∧ 0 ≤ (0 : Int32).toInt ∧ (0 : Int32).toInt ≤ 1
  omega
theorem own_x1X {AC ST SA SN EX AL : List Int32} {n : Int32} (h : own_PS AC ST SA SN EX AL) (hC : own_C AC ST SA SN EX AL n) {id : Int32} (i0 : 0 ≤ id.toInt) (i1 : id.toInt < 32) (ia : gI AC id = 1) : ∀ w m : Int32, own_wn w m → (gI AL (w * 32 + m)).toInt = own_cnt (own_gq AC ST SA SN id w m) 32 + (own_xs (gI ST id) (gI SA id) (gI SN id) w m).toInt ∧ 0 ≤ (own_xs (gI ST id) (gI SA id) (gI SN id) w m).toInt ∧ (own_xs (gI ST id) (gI SA id) (gI SN id) w m).toInt ≤ 1 := by
  intro w m hw
  have q := own_gqA h hC hw
  have r := own_gqX (ST := ST) (SA := SA) (SN := SN) i0 i1 ia (w := w) (m := m)
  refine ⟨by omega, ?_⟩
  unfold own_xs
  split <;> decide
theorem own_423 {scr R F AC ST SA SN EX AL PR PG PO : List Int32} {tot n pl pc pu v4 v5 v6 v8 v9 v11 t a k sid v e ft : Int32} (hK : own_K R F AC ST SA SN EX AL PR PG PO tot n pc v4 v5 v6) (hv : own_va v t a k) (o4 : v11.toInt ≤ 4) (he : e = if v11 = 4 then sid else -1)
    (hft : (ft = 1 ∧ ∀ m : Int32, 0 ≤ m.toInt → m.toInt < 32 → own_fn R AC ST SA SN e v t a k m) ∨ (ft = 0 ∧ ∃ m : Int32, 0 ≤ m.toInt ∧ m.toInt < 32 ∧ ¬ own_fn R AC ST SA SN e v t a k m))
    {K : List Int32 → List Int32 → List Int32 → List Int32 → List Int32 → List Int32 → List Int32 → List Int32 → List Int32 → List Int32 → List Int32 → Int32 → Int32 → Int32 → Int32 → Int32 → Int32 → Int32 → Int32 → Int32 → Int32 → Option (Int32)}
    (hk : ∀ (AC ST SA SN EX AL PR PG PO : List Int32) (n pl pc pu : Int32), own_K R F AC ST SA SN EX AL PR PG PO tot n pc v4 v5 v6 → K R F AC ST SA SN EX AL PR PG PO tot n pl pc pu v4 v5 v6 v8 (v9 + 1) = some 1) :
    f_L_law_423 K scr R F AC ST SA SN EX AL PR PG PO tot n pl pc pu v4 v5 v6 v8 v9 v11 t a k sid v n ft = some 1 := by
  have e0 : (0 : Int32).toInt = 0 := rfl
  have e3 : (3 : Int32).toInt = 3 := rfl
  have e4 : (4 : Int32).toInt = 4 := rfl
  have e31 : (31 : Int32).toInt = 31 := rfl
  obtain ⟨h, hC, hR, hQ, l1, l2, l3, g0, g1, g2, te, t24, hF, fm, p⟩ := id hK
  have hR3 := hR.1
  have next : ∀ (AC ST SA SN EX AL PR PG PO : List Int32) (n pl pc pu : Int32), own_K R F AC ST SA SN EX AL PR PG PO tot n pc v4 v5 v6 → f_L_law_587 (f_L_law_708 K scr) scr 100000 R F AC ST SA SN EX AL PR PG PO tot n pl pc pu v4 v5 v6 v8 v9 0 = some 1 := fun _ _ _ _ _ _ _ _ _ _ _ _ _ q => own_after q (hk _ _ _ _ _ _ _ _ _ _ _ _ _ q)
  unfold f_L_law_423
  by_cases o : 3 < v11
  · have o' := ilt.mp o
    have ev : v11 = 4 := by rw [ieq]; omega
    rw [if_pos ev] at he
    subst he
    rw [if_pos o]
    -- what amend answers
    have bad : ∀ x : Int32, x = 0 → (∃ r : Int32, ¬ r = 0 ∧ ∀ pc, f_amend R AC ST SA SN EX AL pc e t a k = some (r, ST, SA, SN, EX, AL, pc)) → f_L_law_495 K scr R F AC ST SA SN EX AL PR PG PO tot n pl pc pu v4 v5 v6 v8 v9 v11 t a k e x = some 1 := by
      rintro x rfl ⟨r, nr, q⟩
      unfold f_L_law_495
      rw [if_pos o, if_pos ev, q, Option.bind_some]
      show f_L_law_554 _ _ _ _ _ _ _ _ _ _ _ _ _ _ _ _ _ _ _ _ _ _ _ _ _ = _
      unfold f_L_law_554
      rw [if_neg nr, if_pos rfl]
      exact next _ _ _ _ _ _ _ _ _ _ _ _ _ hK
    rcases own_act01 h e with ⟨ea, z⟩ | ⟨ea, i0, i1, ia, t0', t2', a0', k1', ak'⟩
    · have am : ∃ r : Int32, ¬ r = 0 ∧ ∀ pc, f_amend R AC ST SA SN EX AL pc e t a k = some (r, ST, SA, SN, EX, AL, pc) := by
        refine ⟨-5, by decide, fun pc => ?_⟩
        unfold f_amend
        rw [ea, Option.bind_some, if_pos rfl]
      by_cases c1 : e < 0
      · rw [if_pos c1]
        exact bad 0 rfl am
      by_cases c2 : 31 < e
      · rw [if_neg c1, if_pos c2]
        exact bad 0 rfl am
      rw [if_neg c1, if_neg c2]
      have st : f_stayType AC ST e = some (-1) := by
        unfold f_stayType
        rw [ea, Option.bind_some, if_pos rfl]
      rw [st, Option.bind_some, if_pos (by decide)]
      exact bad 0 rfl am
    · rw [if_neg (by rw [ilt]; omega), if_neg (by rw [ilt]; omega), (own_stA h i0 i1 ia).1, Option.bind_some, if_neg (by rw [ilt]; omega)]
      rcases hv with ⟨rfl, nv⟩ | ⟨rfl, t0, t2, a0, a1, k1, ak⟩
      · rw [if_pos rfl]
        refine bad 0 rfl ?_
        rcases own_rq t a k with ⟨r, er, en⟩ | ⟨-, er⟩
        · have nx : ¬ r = 0 := by rw [ieq]; omega
          refine ⟨r, nx, fun pc => ?_⟩
          unfold f_amend
          rw [ea, Option.bind_some, if_neg (by decide), er, Option.bind_some, if_neg nx]
        · exact absurd er nv
      · rw [if_neg (by decide)]
        have fx := own_fitX hK t0 t2 a0 k1 ak (own_xs (gI ST e) (gI SA e) (gI SN e)) (own_x1X h hC i0 i1 ia)
        rcases hft with ⟨rfl, hf⟩ | ⟨rfl, m, m0, m1, hn⟩
        · rw [if_neg (by decide)]
          have hf' := fx.mp hf
          obtain ⟨EX1, AL1, EX2, AL2, c1, c2, q⟩ := own_amdS h hR3 i0 i1 ia t0 t2 a0 k1 ak hf'
          unfold f_L_law_495
          rw [if_pos o, if_pos ev, q, Option.bind_some]
          show f_L_law_554 _ _ _ _ _ _ _ _ _ _ _ _ _ _ _ _ _ _ _ _ _ _ _ _ _ = _
          unfold f_L_law_554
          rw [if_pos rfl, if_pos rfl]
          have ea2 : (a + k).toInt = a.toInt + k.toInt := iadd_i (by omega) (by omega)
          have hf1 := own_fit_sub a0' (by omega) ak' t2 a0 (by omega) c1 hf'
          have hP := own_put h (EX' := EX2) (AL' := AL2) i0 i1 t0 t2 a0 k1 ak c2.1 c2.2.1
          have hC2 := own_C_amend h hC i0 i1 ia t0 t2 a0 k1 ak c1 c2
          have eC : AC.set e.toInt.toNat 1 = AC := by
            have lC := h.lC
            refine gext (by simp; omega) (by simp) (fun i p q => ?_)
            rw [own_gs lC i0 i1 p]
            by_cases ee : e = i
            · rw [if_pos ee, ← ee, ia]
            · rw [if_neg ee]
          rw [eC] at hP hC2
          have hQ2 := own_Q0 hP hC2 (own_Q_add hR (by omega) (by omega) (own_Q_sub hR (by omega) (by omega) hQ c1) a0 hf1 c2)
          exact next _ _ _ _ _ _ _ _ _ _ _ _ _ ⟨hP, hC2, hR, hQ2, l1, l2, l3, g0, g1, g2, te, t24, hF, fm, Or.inl rfl⟩
        · rw [if_pos rfl]
          refine bad 0 rfl ?_
          rcases own_amd h hR3 e t a k with q | ⟨-, -, -, -, -, -, -, -, q⟩
          · exact q
          · exact absurd (fx.mpr q m m0 m1) hn
  · have o' := o
    rw [ilt] at o'
    have nv4 : ¬ v11 = 4 := by rw [ieq]; omega
    rw [if_neg nv4] at he
    subst he
    rw [if_neg o]
    have bad : ∀ x : Int32, x = 0 → (∃ r : Int32, r.toInt < 0 ∧ ∀ pc, f_book R AC ST SA SN EX AL n pc t a k = some (r, AC, ST, SA, SN, EX, AL, n, pc)) → f_L_law_495 K scr R F AC ST SA SN EX AL PR PG PO tot n pl pc pu v4 v5 v6 v8 v9 v11 t a k sid x = some 1 := by
      rintro x rfl ⟨r, nr, q⟩
      unfold f_L_law_495
      rw [if_neg o, q, Option.bind_some]
      show f_L_law_520 _ _ _ _ _ _ _ _ _ _ _ _ _ _ _ _ _ _ _ _ _ _ _ _ _ = _
      unfold f_L_law_520
      rw [if_pos (c := r < 0) (by rw [ilt]; omega), if_pos rfl]
      exact next _ _ _ _ _ _ _ _ _ _ _ _ _ hK
    rcases hv with ⟨rfl, nv⟩ | ⟨rfl, t0, t2, a0, a1, k1, ak⟩
    · rw [if_pos rfl]
      refine bad 0 rfl ?_
      rcases own_book h hR3 n t a k with q | ⟨id, EX', AL', -, -, -, -, ⟨y0, y1, y2, y3, y4⟩, -⟩
      · exact q
      · exact absurd ⟨y0, y1, y2, by omega, y3, y4⟩ nv
    · rw [if_neg (by decide)]
      have fx := own_fitX hK t0 t2 a0 k1 ak (fun _ _ => 0) (own_x0X h hC)
      rcases own_bookY h hC hR3 t0 t2 a0 k1 ak with ⟨gn, q⟩ | ⟨gn, nf, q⟩ | ⟨gn, hf, id, EX', AL', i0, i1, iz, -, hc, q⟩
      · rw [if_neg gn]
        exact bad 0 rfl ⟨-3, by decide, q⟩
      · rw [if_pos gn]
        rcases hft with ⟨rfl, hf⟩ | ⟨rfl, -⟩
        · exact absurd (fx.mp hf) nf
        · rw [if_pos rfl]
          exact bad 0 rfl ⟨-4, by decide, q⟩
      · rw [if_pos gn]
        rcases hft with ⟨rfl, -⟩ | ⟨rfl, m, m0, m1, hn⟩
        · rw [if_neg (by decide)]
          unfold f_L_law_495
          rw [if_neg o, q, Option.bind_some]
          show f_L_law_520 _ _ _ _ _ _ _ _ _ _ _ _ _ _ _ _ _ _ _ _ _ _ _ _ _ = _
          unfold f_L_law_520
          rw [if_neg (c := id < 0) (by rw [ilt]; omega), if_pos rfl]
          have hP := own_put h i0 i1 t0 t2 a0 k1 ak hc.1 hc.2.1
          have hC2 := own_C_book h hC i0 i1 iz t0 t2 a0 k1 ak hc
          exact next _ _ _ _ _ _ _ _ _ _ _ _ _ ⟨hP, hC2, hR, own_Q_add hR (by omega) (by omega) hQ a0 hf hc, l1, l2, l3, g0, g1, g2, te, t24, hF, fm, Or.inl rfl⟩
        · exact absurd (fx.mpr hf m m0 m1) hn
theorem own_hi {scr R F AC ST SA SN EX AL PR PG PO : List Int32} {tot n pl pc pu v4 v5 v6 v8 v9 v11 t a k sid x : Int32} (hK : own_K R F AC ST SA SN EX AL PR PG PO tot n pc v4 v5 v6) (o4 : 4 < v11.toInt)
    {K : List Int32 → List Int32 → List Int32 → List Int32 → List Int32 → List Int32 → List Int32 → List Int32 → List Int32 → List Int32 → List Int32 → Int32 → Int32 → Int32 → Int32 → Int32 → Int32 → Int32 → Int32 → Int32 → Int32 → Option (Int32)}
    (hk : ∀ (AC ST SA SN EX AL PR PG PO : List Int32) (n pl pc pu : Int32), own_K R F AC ST SA SN EX AL PR PG PO tot n pc v4 v5 v6 → K R F AC ST SA SN EX AL PR PG PO tot n pl pc pu v4 v5 v6 v8 (v9 + 1) = some 1) :
    f_L_law_495 K scr R F AC ST SA SN EX AL PR PG PO tot n pl pc pu v4 v5 v6 v8 v9 v11 t a k sid x = some 1 := by
  have e3 : (3 : Int32).toInt = 3 := rfl
  have e4 : (4 : Int32).toInt = 4 := rfl
  obtain ⟨h, hC, hR, hQ, l1, l2, l3, g0, g1, g2, te, t24, hF, fm, p⟩ := id hK
  have next : ∀ (AC ST SA SN EX AL PR PG PO : List Int32) (n pl pc pu : Int32), own_K R F AC ST SA SN EX AL PR PG PO tot n pc v4 v5 v6 → f_L_law_587 (f_L_law_708 K scr) scr 100000 R F AC ST SA SN EX AL PR PG PO tot n pl pc pu v4 v5 v6 v8 v9 0 = some 1 := fun _ _ _ _ _ _ _ _ _ _ _ _ _ q => own_after q (hk _ _ _ _ _ _ _ _ _ _ _ _ _ q)
  unfold f_L_law_495
  rw [if_pos (by rw [ilt]; omega), if_neg (by rw [ieq]; omega)]
  by_cases o5 : v11 = 5
  · rw [if_pos o5]
    rcases own_cancel h n sid with q | ⟨EX', AL', i0, i1, ia, hc, q⟩
    · rw [q, Option.bind_some]
      exact next _ _ _ _ _ _ _ _ _ _ _ _ _ hK
    · rw [q, Option.bind_some]
      have hP := own_drop h (EX' := EX') (AL' := AL') i0 i1 hc.1 hc.2.1
      have hC2 := own_C_cancel h hC i0 i1 ia hc
      exact next _ _ _ _ _ _ _ _ _ _ _ _ _ ⟨hP, hC2, hR, own_Q0 hP hC2 (own_Q_sub hR (by omega) (by omega) hQ hc), l1, l2, l3, g0, g1, g2, te, t24, hF, fm, Or.inl rfl⟩
  · rw [if_neg o5]
    obtain ⟨⟨r1, PR', PG', PO', n', pc', pu'⟩, er, q1, q2, PO2, n2, -, q3, -⟩ := own_assignX (PR := PR) (PG := PG) (PO := PO) h hF t24 pl pc pu l1 l2 l3
    rw [er, Option.bind_some]
    exact next _ _ _ _ _ _ _ _ _ _ _ _ _ ⟨h, hC, hR, hQ, q3.a, q3.b, q1, g0, g1, g2, te, t24, hF, fm, Or.inr ⟨q2, _, q3⟩⟩
theorem own_cell (scr : List Int32) (hs : scr.length ≤ 260) (j : Int32) (j0 : 0 ≤ j.toInt) : ∃ x, f_L_cell scr j = some x := by
  unfold f_L_cell
  have hl := iscr hs
  by_cases g : j < scr.length.toInt32
  · have g' := ilt.mp g
    rw [hl] at g'
    rw [if_pos g, rdg j0 g', Option.bind_some]
    exact ⟨_, rfl⟩
  · rw [if_neg g]
    exact ⟨_, rfl⟩
theorem own_mm (x : Int32) : 0 ≤ (x &&& 2147483647).toInt := (iand_rng x 2147483647 (by decide)).1
theorem own_md {x : Int32} (h : 0 ≤ x.toInt) (d : Int32) (D : Nat) (hd : d.toInt = D) (D0 : 0 < D) : 0 ≤ (x % d).toInt ∧ (x % d).toInt < D := by
  rw [Int32.toInt_mod, hd, Int.tmod_eq_emod_of_nonneg h]
  exact ⟨Int.emod_nonneg _ (by omega), Int.emod_lt_of_pos _ (by omega)⟩
theorem own_84 (scr : List Int32) (hs : scr.length ≤ 260) {R F : List Int32} {tot v4 v5 v6 v8 : Int32} (h8 : v8.toInt ≤ 150) : ∀ (f : Nat) (AC ST SA SN EX AL PR PG PO : List Int32) (n pl pc pu v9 : Int32), own_K R F AC ST SA SN EX AL PR PG PO tot n pc v4 v5 v6 → 0 ≤ v9.toInt → v9.toInt ≤ 150 → 150 - v9.toInt < f → f_L_law_84 scr f R F AC ST SA SN EX AL PR PG PO tot n pl pc pu v4 v5 v6 v8 v9 = some 1 := by
  intro f
  have e0 : (0 : Int32).toInt = 0 := rfl
  have e1 : (1 : Int32).toInt = 1 := rfl
  have e2 : (2 : Int32).toInt = 2 := rfl
  have e3 : (3 : Int32).toInt = 3 := rfl
  have e4 : (4 : Int32).toInt = 4 := rfl
  induction f with
  | zero => intro AC ST SA SN EX AL PR PG PO n pl pc pu v9 hK h0 h1 h2; exfalso; omega
  | succ f ih =>
    intro AC ST SA SN EX AL PR PG PO n pl pc pu v9 hK h0 h1 h2
    unfold f_L_law_84
    by_cases g : v9 < v8
    rotate_left
    · rw [if_neg g]
    have g' := ilt.mp g
    have p9 : (v9 + 1).toInt = v9.toInt + 1 := by rw [iadd_i (by omega) (by omega), e1]
    have q0 : (4 * v9 : Int32).toInt = 4 * v9.toInt := by rw [imul_i (by rw [e4]; omega) (by rw [e4]; omega), e4]
    have q3 : (3 + 4 * v9 : Int32).toInt = 3 + 4 * v9.toInt := by rw [iadd_i (by omega) (by omega), q0, e3]
    have q4 : (3 + 4 * v9 + 1 : Int32).toInt = 4 + 4 * v9.toInt := by rw [iadd_i (by omega) (by omega), q3, e1]; omega
    have q5 : (3 + 4 * v9 + 2 : Int32).toInt = 5 + 4 * v9.toInt := by rw [iadd_i (by omega) (by omega), q3, e2]; omega
    have q6 : (3 + 4 * v9 + 3 : Int32).toInt = 6 + 4 * v9.toInt := by rw [iadd_i (by omega) (by omega), q3, e3]; omega
    obtain ⟨x1, y1⟩ := own_cell scr hs (3 + 4 * v9) (by omega)
    obtain ⟨x2, y2⟩ := own_cell scr hs (3 + 4 * v9 + 1) (by omega)
    obtain ⟨x3, y3⟩ := own_cell scr hs (3 + 4 * v9 + 2) (by omega)
    obtain ⟨x4, y4⟩ := own_cell scr hs (3 + 4 * v9 + 3) (by omega)
    rw [if_pos g, y1, Option.bind_some]
    unfold f_L_m
    rw [Option.bind_some, y2, Option.bind_some, Option.bind_some, y3, Option.bind_some, Option.bind_some, y4, Option.bind_some, Option.bind_some]
    have next : ∀ (AC ST SA SN EX AL PR PG PO : List Int32) (n pl pc pu : Int32), own_K R F AC ST SA SN EX AL PR PG PO tot n pc v4 v5 v6 → f_L_law_84 scr f R F AC ST SA SN EX AL PR PG PO tot n pl pc pu v4 v5 v6 v8 (v9 + 1) = some 1 := fun _ _ _ _ _ _ _ _ _ n pl pc pu q => ih _ _ _ _ _ _ _ _ _ n pl pc pu _ q (by omega) (by omega) (by omega)
    unfold f_L_law_174
    generalize (if (x2 &&& 2147483647) % 7 < 6 then ((x2 &&& 2147483647) % 7) % 3 else (3 : Int32)) = t
    generalize (x3 &&& 2147483647) % 33 = a
    generalize (x4 &&& 2147483647) % 9 = k
    generalize ((x2 &&& 2147483647) / 7) % 34 - 1 = sid
    generalize (x1 &&& 2147483647) % 8 = op
    obtain ⟨v, ev, hv⟩ := own_valid t a k
    rw [ev, Option.bind_some]
    by_cases o : 4 < op
    · rw [if_pos o]
      exact own_hi hK (by have := ilt.mp o; omega) next
    · rw [if_neg o]
      unfold f_L_law_234
      refine own_245 hK hv ?_ 100000 0 0 1 (by decide) (by decide) (by decide) (by rw [if_pos rfl]; rfl) (Or.inl ⟨rfl, fun m' p1 p2 => ?_⟩)
      · intro ft hft
        refine own_423 hK hv (by rw [ilt] at o; omega) rfl hft next
      · exfalso
        rw [e0] at p2
        omega
theorem own_true (scr : List Int32) (h : scr.length ≤ 260) : f_L_law scr = some 1 := by
  have e0 : (0 : Int32).toInt = 0 := rfl
  have e3 : (3 : Int32).toInt = 3 := rfl
  have e4 : (4 : Int32).toInt = 4 := rfl
  have e8 : (8 : Int32).toInt = 8 := rfl
  have e150 : (150 : Int32).toInt = 150 := rfl
  obtain ⟨x1, y1⟩ := own_cell scr h 0 (by decide)
  obtain ⟨x2, y2⟩ := own_cell scr h 1 (by decide)
  obtain ⟨x3, y3⟩ := own_cell scr h 2 (by decide)
  unfold f_L_law
  rw [y1, Option.bind_some]
  unfold f_L_m
  rw [Option.bind_some, y2, Option.bind_some, Option.bind_some, y3, Option.bind_some, Option.bind_some, own_init, Option.bind_some]
  have c1 := own_md (own_mm x1) 4 4 rfl (by omega)
  have c2 := own_md (own_mm x2) 4 4 rfl (by omega)
  have c3 := own_md (own_mm x3) 4 4 rfl (by omega)
  generalize (x1 &&& 2147483647) % 4 = c at c1
  generalize (x2 &&& 2147483647) % 4 = d at c2
  generalize (x3 &&& 2147483647) % 4 = e at c3
  have cl : ∀ x : Int32, 0 ≤ x.toInt → x.toInt < 4 → own_cl x = x := by
    intro x p q
    unfold own_cl
    rw [if_neg (by rw [ilt]; omega), if_neg (by rw [ilt]; omega)]
  rw [cl c c1.1 c1.2, cl d c2.1 c2.2, cl e c3.1 c3.2]
  have s1 : (c + d).toInt = c.toInt + d.toInt := iadd_i (by omega) (by omega)
  have s2 : (c + d + e).toInt = c.toInt + d.toInt + e.toInt := by rw [iadd_i (by omega) (by omega), s1]
  have s3 : (d + e).toInt = d.toInt + e.toInt := iadd_i (by omega) (by omega)
  have r0 : gI [c + d + e, d + e, e] 0 = c + d + e := rfl
  have r1 : gI [c + d + e, d + e, e] 1 = d + e := rfl
  have r2 : gI [c + d + e, d + e, e] 2 = e := rfl
  have f0 : gI [0, c, c + d] 0 = 0 := rfl
  have f1 : gI [0, c, c + d] 1 = c := rfl
  have f2 : gI [0, c, c + d] 2 = c + d := rfl
  have hR : own_R [c + d + e, d + e, e] := by
    refine ⟨rfl, fun w w0 w2 => ?_⟩
    rcases own_w3 w0 w2 with rfl | rfl | rfl
    · rw [r0]; omega
    · rw [r1]; omega
    · rw [r2]; omega
  have hF : own_F [0, c, c + d] := by
    refine ⟨rfl, fun w w0 w2 => ?_⟩
    rcases own_w3 w0 (by omega) with rfl | rfl | rfl
    · rw [f0]; omega
    · rw [f1]; omega
    · rw [f2]; omega
  have hQ : own_Q [c + d + e, d + e, e] (List.replicate 96 0) 0 := by
    intro w m hw
    have ei := own_wx hw
    obtain ⟨w0, w3, m0, m1⟩ := hw
    rw [gI_rep (by omega) (by omega), e0]
    have := hR.2 w w0 (by omega)
    omega
  refine own_84 scr h ?_ 100000 _ _ _ _ _ _ _ _ _ 0 0 0 0 0 ⟨own_start.1, own_start.2, hR, hQ, by simp, by simp, by simp, rfl, rfl, rfl, rfl, by omega, hF, by rw [f1, f2]; omega, Or.inl rfl⟩ (by decide) (by decide) (by decide)
  by_cases g : 150 < scr.length.toInt32 / 4 + 1
  · rw [if_pos g]; decide
  · rw [if_neg g]
    rw [ilt] at g
    omega
set_option maxRecDepth 65536 in
theorem comes_1 {Post : Tables → Env → Array Value → State → Outcome → State → Prop} (hpost : ∀ tb e args s v u, (limb_1_1.after args s (.returned v) u = true ∧ limb_1_2.after args s (.returned v) u = true ∧ True) → FrameEnd s (.returned v) u (Jvm.fieldLocs frame_1_writes args s ++ Jvm.arrayLocs frame_1_arrays args s ++ Jvm.staticLocs frame_1_statics s) 40 2432 → Post tb e args s (.returned v) u) :
    ArmFor flags0 classFile x code maxLocals ret World_1 tables_1 room_1 Calls_1 rest_1 Pre_1 Post := by
  intro l hfl _ _ p e ha hc hk s m args below hf hA hF happ hP
  obtain ⟨hcalls, hrest, hpre⟩ := hP
  obtain ⟨-, -, -, hnamed, -, -, -, hat⟩ := (Spec.applies_iff hf).mp happ
  obtain ⟨hg, hn⟩ := and_e (Cond.before_iff.mp (show (Jvm.Cond.and given_1 narrow_1).before args s = true from hpre))
  obtain ⟨h1, h2⟩ := and_e hg
  have hw := fun d (hd : d ∈ tables_1) => atoms_spec (ws := Jvm.Cond.code x code maxLocals ret :: tables_1) hat d (List.mem_cons_of_mem _ hd)
  obtain ⟨w0, rfl⟩ : ∃ w0 : Value, args = #[w0] := by
    have hs : args.size = 1 := by simpa [Cond.value, given_1] using h1
    obtain ⟨L⟩ := args
    match L, hs with
    | [w0], _ => exact ⟨w0, rfl⟩
  have hfit : Fit s := fun {y c} hc i hi => by
    obtain ⟨ha, rfl⟩ := Array.getElem?_eq_some_iff.mp hc
    have q := List.all_eq_true.mp ((Array.all_eq_true_iff_forall_mem.mp hF) _ (Array.getElem_mem ha)) i (List.mem_range.mpr hi)
    simpa [Array.getElem?_eq_getElem hi] using q
  obtain ⟨hn1, hn2⟩ := and_e hn
  obtain ⟨ad, e0⟩ := arr_v hn1
  obtain ⟨cl, A⟩ := Arr.start e0 hn1
  obtain rfl : w0 = .ref ad := Option.some.inj e0
  obtain ⟨scr, hs1, hs2, hs3⟩ := script_of hfit A e0 hn2
  have E : OEndsQ own_P 0 0 (entL [.ref 0] d_0.maxL) [] [.inr (.inl (false, scr))] (LawQ 1 13 1178) := ok_L_law (own_true scr hs2)
  have hS : SR [ad] [.ref 0] [.ref ad] := ⟨_, _, rfl, ⟨ad, rfl, rfl⟩, rfl⟩
  have hH : HR own_P s s.heap.size s.heap [ad] [.inr (.inl (false, scr))] := hr_script rfl A hs1 hs2 hs3
  have M := law_met (l := l) own_chk (fun w hw' => hw w (own_in w hw')) hm_0 E hS (Nat.le_of_ble_eq_true rfl) hH tables_1 room_1 (Nat.le_of_ble_eq_true rfl) (Nat.le_of_ble_eq_true rfl) (Nat.le_of_ble_eq_true rfl) (Nat.le_of_ble_eq_true rfl)
  obtain ⟨n, o, h1, h2, h3, L, rfl, N, hq⟩ := M p e ha hc hk s m _ below hf ((Spec.applies_iff_loose hf).mp happ).1 ⟨rfl, State.Warmed39.refl s, rfl⟩ trivial
  refine ⟨n, _, h1, h2, h3, hpost _ _ _ _ _ _ ⟨Cond.after_iff.mpr rfl, Cond.after_iff.mpr (eq_i res_at (Term.int_eval (1)) rfl), trivial⟩ ⟨hq.1, hq.2.1, (hq.2.2.sift fun y hy => Or.inr (N y hy)).mono (by decide) (by decide)⟩⟩
theorem main_1_1 : Claimed_1_1 := comes_1 fun _ _ _ _ _ _ h hF => ⟨h.1, hF⟩
theorem main_1_2 : Claimed_1_2 := comes_1 fun _ _ _ _ _ _ h hF => ⟨h.2.1, hF⟩
end Jvm.Pilot.@@N@@
namespace Jvm.Pilot.@@N@@
open Jvm Jvm.ClassFile Sem Op Lib Jvm.Free Jvm.Stand Jvm.Pilot.@@N@@.Jvm.D
/-! MADE BY PROGRAM (witnessworld.py) out of the Statement's table words and the real class files: 11 classes; the members and pool entries that the words name. The judged class is class 1, her method 6. -/
namespace start1
open Jvm.ClassFile
def u (s : String) : CpInfo := .utf8 (stringToUtf16 s)
/-- a pool by its gaps: so many unusable entries, then the entry; so many at the end -/
def gap : Nat → List CpInfo → List CpInfo
  | 0, r => r
  | n + 1, r => .unusable :: gap n r
def poolList (es : List (Nat × CpInfo)) (last : Nat) : List CpInfo := es.foldr (fun e r => gap e.1 (e.2 :: r)) (gap last [])
def pool (es : List (Nat × CpInfo)) (last : Nat) : Array CpInfo := ⟨poolList es last⟩
def fileOf (pool : Array CpInfo) (this : Nat) (attrs : Array Attribute := #[]) (ms : Array MethodInfo := #[]) (fl : Nat := 33) (sup : Nat := 0) (ifs : Array Nat := #[]) (fds : Array FieldInfo := #[]) : ClassFile where
  minorVersion := 0
  majorVersion := 65
  constantPool := pool
  accessFlags := fl
  thisClass := this
  superClass := sup
  interfaces := ifs
  fields := fds
  methods := ms
  attributes := attrs
def plain (name : String) (sup : Option ClassId) : Class where
  name := name
  kind := .ordinary
  loader := none
  accessFlags := 33
  super := sup
  interfaces := #[]
  cf := none
  fields := #[]
  methods := #[]
  instanceTypes := #[]
  staticTypes := #[]
  resolved := #[]
  callSites := []
  init := .initialized
  statics := none
  mirror := none

def pool0 : Array CpInfo := pool [(5, u "<init>"), (0, u "()V"), (1, .class_ 10), (1, u "java/lang/Object")] 113

def k0c0 : Code := { maxStack := 0, maxLocals := 1, code := object_method_1_code, exceptionTable := #[], attributes := #[] }
def k0m0 : Method := { name := "<init>", desc := "()V", sig := { parameters := [], returnType := none }, accessFlags := 1, code := some k0c0 }
/-- java/lang/Object -/
def k0 : Class := { plain "java/lang/Object" none with
  accessFlags := 33
  interfaces := #[]
  cf := some (fileOf pool0 8 #[] #[{ accessFlags := 1, nameIndex := 5, descriptorIndex := 6, attributes := #[] }] 33 0 #[] #[])
  fields := #[]
  methods := #[k0m0]
  instanceTypes := #[]
  staticTypes := #[]
  resolved := Array.replicate 124 none
  statics := none }

def pool1 : Array CpInfo := pool [(2, .class_ 4), (1, u "java/lang/Object"), (0, u "<init>"), (0, u "()V"), (0, .integer 2147483647), (0, .methodref 9 10), (0, .class_ 11), (0, .nameAndType 12 13), (0, u "RoomPlannerOwnLaw"), (0, u "cell"), (0, u "([II)I"), (0, .methodref 9 15), (0, .nameAndType 16 17), (0, u "m"), (0, u "(I)I"), (0, .class_ 19), (0, u "RoomPlanner"), (0, .methodref 18 21), (0, .nameAndType 5 22), (0, u "(III)V"), (0, .methodref 9 24), (0, .nameAndType 25 26), (0, u "valid"), (0, u "(III)Z"), (0, .methodref 18 28), (0, .nameAndType 29 17), (0, u "stayType"), (0, .methodref 18 31), (0, .nameAndType 32 17), (0, u "stayArrive"), (0, .methodref 18 34), (0, .nameAndType 35 17), (0, u "stayNights"), (0, .methodref 9 37), (0, .nameAndType 38 26), (0, u "covers"), (0, .methodref 18 40), (0, .nameAndType 41 42), (0, u "book"), (0, u "(III)I"), (0, .methodref 18 44), (0, .nameAndType 45 46), (0, u "amend"), (0, u "(IIII)I"), (0, .methodref 18 48), (0, .nameAndType 49 17), (0, u "cancel"), (0, .methodref 18 51), (0, .nameAndType 52 53), (0, u "assign"), (0, u "()I"), (0, .methodref 18 55), (0, .nameAndType 56 57), (0, u "isAssigned"), (0, u "()Z"), (0, .methodref 18 59), (0, .nameAndType 60 17), (0, u "roomOf"), (0, .methodref 18 62), (0, .nameAndType 63 17), (0, u "roomType"), (0, .methodref 9 65), (0, .nameAndType 66 67), (0, u "overlap"), (0, u "(IIII)Z"), (0, .methodref 18 69), (0, .nameAndType 70 71), (0, u "occupant"), (0, u "(II)I"), (3, u "law"), (0, u "([I)Z")] 4

def k1m0 : Method := { name := "<init>", desc := "()V", sig := { parameters := [], returnType := none }, accessFlags := 1, code := none }
def k1c1 : Code := { maxStack := 2, maxLocals := 2, code := method_2_code, exceptionTable := #[], attributes := #[] }
def k1m1 : Method := { name := "cell", desc := "([II)I", sig := { parameters := [(.array .int), .int], returnType := some .int }, accessFlags := 10, code := some k1c1 }
def k1c2 : Code := { maxStack := 2, maxLocals := 1, code := method_3_code, exceptionTable := #[], attributes := #[] }
def k1m2 : Method := { name := "m", desc := "(I)I", sig := { parameters := [.int], returnType := some .int }, accessFlags := 10, code := some k1c2 }
def k1c3 : Code := { maxStack := 3, maxLocals := 3, code := method_4_code, exceptionTable := #[], attributes := #[] }
def k1m3 : Method := { name := "covers", desc := "(III)Z", sig := { parameters := [.int, .int, .int], returnType := some .boolean }, accessFlags := 10, code := some k1c3 }
def k1c4 : Code := { maxStack := 3, maxLocals := 3, code := method_5_code, exceptionTable := #[], attributes := #[] }
def k1m4 : Method := { name := "valid", desc := "(III)Z", sig := { parameters := [.int, .int, .int], returnType := some .boolean }, accessFlags := 10, code := some k1c4 }
def k1c5 : Code := { maxStack := 3, maxLocals := 4, code := method_6_code, exceptionTable := #[], attributes := #[] }
def k1m5 : Method := { name := "overlap", desc := "(IIII)Z", sig := { parameters := [.int, .int, .int, .int], returnType := some .boolean }, accessFlags := 10, code := some k1c5 }
def k1c6 : Code := { maxStack := 5, maxLocals := 30, code := code, exceptionTable := #[], attributes := #[] }
def k1m6 : Method := { name := "law", desc := "([I)Z", sig := { parameters := [(.array .int)], returnType := some .boolean }, accessFlags := 9, code := some k1c6 }
/-- RoomPlannerOwnLaw -/
def k1 : Class := { plain "RoomPlannerOwnLaw" (some 0) with
  accessFlags := 49
  interfaces := #[]
  cf := some (fileOf pool1 9 #[] #[{ accessFlags := 1, nameIndex := 5, descriptorIndex := 6, attributes := #[] }, { accessFlags := 10, nameIndex := 12, descriptorIndex := 13, attributes := #[] }, { accessFlags := 10, nameIndex := 16, descriptorIndex := 17, attributes := #[] }, { accessFlags := 10, nameIndex := 38, descriptorIndex := 26, attributes := #[] }, { accessFlags := 10, nameIndex := 25, descriptorIndex := 26, attributes := #[] }, { accessFlags := 10, nameIndex := 66, descriptorIndex := 67, attributes := #[] }, { accessFlags := 9, nameIndex := 75, descriptorIndex := 76, attributes := #[] }] 49 2 #[] #[])
  fields := #[]
  methods := #[k1m0, k1m1, k1m2, k1m3, k1m4, k1m5, k1m6]
  instanceTypes := #[]
  staticTypes := #[]
  resolved := Array.replicate 81 none
  statics := none }

def pool2 : Array CpInfo := pool [(1, .methodref 2 3), (0, .class_ 4), (0, .nameAndType 5 6), (0, u "java/lang/Object"), (0, u "<init>"), (0, u "()V"), (0, .fieldref 8 9), (0, .class_ 10), (0, .nameAndType 11 12), (0, u "RoomPlanner"), (0, u "roomsOfType"), (0, u "[I"), (0, .fieldref 8 14), (0, .nameAndType 15 12), (0, u "roomsAtLeast"), (0, .fieldref 8 17), (0, .nameAndType 18 12), (0, u "firstRoomOfType"), (0, .fieldref 8 20), (0, .nameAndType 21 22), (0, u "slotActive"), (0, u "[Z"), (0, .fieldref 8 24), (0, .nameAndType 25 12), (0, u "slotType"), (0, .fieldref 8 27), (0, .nameAndType 28 12), (0, u "slotArrive"), (0, .fieldref 8 30), (0, .nameAndType 31 12), (0, u "slotNights"), (0, .fieldref 8 33), (0, .nameAndType 34 12), (0, u "exactCount"), (0, .fieldref 8 36), (0, .nameAndType 37 12), (0, u "atLeastCount"), (0, .fieldref 8 39), (0, .nameAndType 40 12), (0, u "planRoom"), (0, .fieldref 8 42), (0, .nameAndType 43 12), (0, u "planGrid"), (0, .fieldref 8 45), (0, .nameAndType 46 12), (0, u "planOrder"), (0, .methodref 8 48), (0, .nameAndType 49 50), (0, u "clampRooms"), (0, u "(I)I"), (0, .methodref 8 52), (0, .nameAndType 53 6), (0, u "computeRoomTables"), (0, .methodref 8 55), (0, .nameAndType 56 6), (0, u "resetStays"), (0, .methodref 8 58), (0, .nameAndType 59 6), (0, u "resetCounts"), (0, .methodref 8 61), (0, .nameAndType 62 6), (0, u "clearPlan"), (0, .fieldref 8 64), (0, .nameAndType 65 66), (0, u "planCurrent"), (0, u "Z"), (0, .fieldref 8 68), (0, .nameAndType 69 70), (0, u "planUnplaced"), (0, u "I"), (0, .methodref 8 72), (0, .nameAndType 73 74), (0, u "requestError"), (0, u "(III)I"), (0, .fieldref 8 76), (0, .nameAndType 77 70), (0, u "activeStays"), (0, .methodref 8 79), (0, .nameAndType 80 81), (0, u "fitsWith"), (0, u "(IIII)Z"), (0, .methodref 8 83), (0, .nameAndType 84 85), (0, u "lowestInactiveSlot"), (0, u "()I"), (0, .methodref 8 87), (0, .nameAndType 88 89), (0, u "activateStay"), (0, u "(IIII)V"), (0, .methodref 8 91), (0, .nameAndType 92 6), (0, u "discardPlan"), (0, .methodref 8 94), (0, .nameAndType 95 96), (0, u "isActiveStay"), (0, u "(I)Z"), (0, .methodref 8 98), (0, .nameAndType 99 100), (0, u "adjustCoverage"), (0, u "(II)V"), (0, .methodref 8 102), (0, .nameAndType 103 89), (0, u "storeStay"), (0, .methodref 8 105), (0, .nameAndType 106 107), (0, u "deactivateStay"), (0, u "(I)V"), (0, .methodref 8 109), (0, .nameAndType 110 96), (0, u "isValidType"), (0, .methodref 8 112), (0, .nameAndType 113 96), (0, u "isValidNight"), (3, u "(II)I"), (6, .methodref 8 125), (0, .nameAndType 126 6), (0, u "buildOrder"), (0, .fieldref 8 128), (0, .nameAndType 129 70), (0, u "planOrderLength"), (0, .methodref 8 131), (0, .nameAndType 132 96), (0, u "placeStay"), (0, .methodref 8 134), (0, .nameAndType 135 96), (0, u "isValidRoom"), (0, .methodref 8 137), (0, .nameAndType 138 117), (0, u "gridAt"), (0, .methodref 8 140), (0, .nameAndType 141 50), (0, u "roomTypeOf"), (0, .fieldref 8 143), (0, .nameAndType 144 70), (0, u "totalRooms"), (0, .methodref 8 146), (0, .nameAndType 147 148), (0, u "isValidLength"), (0, u "(II)Z"), (0, .methodref 8 150), (0, .nameAndType 151 117), (0, u "countIndex"), (0, .methodref 8 153), (0, .nameAndType 154 117), (0, u "endOf"), (3, .methodref 8 159), (0, .nameAndType 160 117), (0, u "atLeastAt"), (3, .methodref 8 165), (0, .nameAndType 166 148), (0, u "coversNight"), (0, .methodref 8 168), (0, .nameAndType 169 74), (0, u "exclusion"), (0, .methodref 8 171), (0, .nameAndType 172 173), (0, u "nightFits"), (0, u "(III)Z"), (0, .methodref 8 175), (0, .nameAndType 176 117), (0, u "gridIndex"), (0, .methodref 8 178), (0, .nameAndType 179 107), (0, u "appendToOrder"), (0, .methodref 8 181), (0, .nameAndType 182 173), (0, u "roomIsFree"), (0, .methodref 8 184), (0, .nameAndType 185 89), (0, u "markRoom"), (0, u "NUM_TYPES"), (2, u "HORIZON"), (1, u "MAX_STAYS"), (0, u "MAX_ROOMS_PER_TYPE"), (1, u "OK"), (1, u "NONE"), (1, u "ERR_TYPE"), (0, u "ERR_RANGE"), (1, u "ERR_FULL"), (1, u "ERR_NO_ROOM"), (1, u "ERR_NO_STAY"), (1, u "MAX_ROOMS"), (1, u "(III)V"), (2, u "book"), (1, u "amend"), (0, u "(IIII)I"), (0, u "cancel"), (4, u "stayType"), (0, u "stayArrive"), (0, u "stayNights"), (1, u "assign"), (0, u "isAssigned"), (0, u "()Z"), (0, u "roomOf"), (0, u "occupant"), (0, u "roomType")] 2

def k2c0 : Code := { maxStack := 4, maxLocals := 4, code := prog_1_method_1_code, exceptionTable := #[], attributes := #[] }
def k2m0 : Method := { name := "<init>", desc := "(III)V", sig := { parameters := [.int, .int, .int], returnType := none }, accessFlags := 1, code := some k2c0 }
def k2c1 : Code := { maxStack := 5, maxLocals := 6, code := prog_1_method_2_code, exceptionTable := #[], attributes := #[] }
def k2m1 : Method := { name := "book", desc := "(III)I", sig := { parameters := [.int, .int, .int], returnType := some .int }, accessFlags := 1, code := some k2c1 }
def k2c2 : Code := { maxStack := 5, maxLocals := 6, code := prog_1_method_3_code, exceptionTable := #[], attributes := #[] }
def k2m2 : Method := { name := "amend", desc := "(IIII)I", sig := { parameters := [.int, .int, .int, .int], returnType := some .int }, accessFlags := 1, code := some k2c2 }
def k2c3 : Code := { maxStack := 2, maxLocals := 2, code := prog_1_method_4_code, exceptionTable := #[], attributes := #[] }
def k2m3 : Method := { name := "cancel", desc := "(I)I", sig := { parameters := [.int], returnType := some .int }, accessFlags := 1, code := some k2c3 }
def k2c4 : Code := { maxStack := 2, maxLocals := 2, code := prog_1_method_9_code, exceptionTable := #[], attributes := #[] }
def k2m4 : Method := { name := "stayType", desc := "(I)I", sig := { parameters := [.int], returnType := some .int }, accessFlags := 1, code := some k2c4 }
def k2c5 : Code := { maxStack := 2, maxLocals := 2, code := prog_1_method_10_code, exceptionTable := #[], attributes := #[] }
def k2m5 : Method := { name := "stayArrive", desc := "(I)I", sig := { parameters := [.int], returnType := some .int }, accessFlags := 1, code := some k2c5 }
def k2c6 : Code := { maxStack := 2, maxLocals := 2, code := prog_1_method_11_code, exceptionTable := #[], attributes := #[] }
def k2m6 : Method := { name := "stayNights", desc := "(I)I", sig := { parameters := [.int], returnType := some .int }, accessFlags := 1, code := some k2c6 }
def k2c7 : Code := { maxStack := 2, maxLocals := 5, code := prog_1_method_13_code, exceptionTable := #[], attributes := #[] }
def k2m7 : Method := { name := "assign", desc := "()I", sig := { parameters := [], returnType := some .int }, accessFlags := 1, code := some k2c7 }
def k2c8 : Code := { maxStack := 1, maxLocals := 1, code := prog_1_method_14_code, exceptionTable := #[], attributes := #[] }
def k2m8 : Method := { name := "isAssigned", desc := "()Z", sig := { parameters := [], returnType := some .boolean }, accessFlags := 1, code := some k2c8 }
def k2c9 : Code := { maxStack := 2, maxLocals := 2, code := prog_1_method_15_code, exceptionTable := #[], attributes := #[] }
def k2m9 : Method := { name := "roomOf", desc := "(I)I", sig := { parameters := [.int], returnType := some .int }, accessFlags := 1, code := some k2c9 }
def k2c10 : Code := { maxStack := 3, maxLocals := 3, code := prog_1_method_16_code, exceptionTable := #[], attributes := #[] }
def k2m10 : Method := { name := "occupant", desc := "(II)I", sig := { parameters := [.int, .int], returnType := some .int }, accessFlags := 1, code := some k2c10 }
def k2c11 : Code := { maxStack := 2, maxLocals := 2, code := prog_1_method_17_code, exceptionTable := #[], attributes := #[] }
def k2m11 : Method := { name := "roomType", desc := "(I)I", sig := { parameters := [.int], returnType := some .int }, accessFlags := 1, code := some k2c11 }
def k2c12 : Code := { maxStack := 2, maxLocals := 2, code := prog_1_method_18_code, exceptionTable := #[], attributes := #[] }
def k2m12 : Method := { name := "clampRooms", desc := "(I)I", sig := { parameters := [.int], returnType := some .int }, accessFlags := 2, code := some k2c12 }
def k2c13 : Code := { maxStack := 4, maxLocals := 4, code := prog_1_method_19_code, exceptionTable := #[], attributes := #[] }
def k2m13 : Method := { name := "computeRoomTables", desc := "()V", sig := { parameters := [], returnType := none }, accessFlags := 2, code := some k2c13 }
def k2c14 : Code := { maxStack := 2, maxLocals := 2, code := prog_1_method_20_code, exceptionTable := #[], attributes := #[] }
def k2m14 : Method := { name := "isValidRoom", desc := "(I)Z", sig := { parameters := [.int], returnType := some .boolean }, accessFlags := 2, code := some k2c14 }
def k2c15 : Code := { maxStack := 3, maxLocals := 2, code := prog_1_method_21_code, exceptionTable := #[], attributes := #[] }
def k2m15 : Method := { name := "roomTypeOf", desc := "(I)I", sig := { parameters := [.int], returnType := some .int }, accessFlags := 2, code := some k2c15 }
def k2c16 : Code := { maxStack := 2, maxLocals := 2, code := prog_1_method_23_code, exceptionTable := #[], attributes := #[] }
def k2m16 : Method := { name := "isValidType", desc := "(I)Z", sig := { parameters := [.int], returnType := some .boolean }, accessFlags := 2, code := some k2c16 }
def k2c17 : Code := { maxStack := 2, maxLocals := 2, code := prog_1_method_24_code, exceptionTable := #[], attributes := #[] }
def k2m17 : Method := { name := "isValidNight", desc := "(I)Z", sig := { parameters := [.int], returnType := some .boolean }, accessFlags := 2, code := some k2c17 }
def k2c18 : Code := { maxStack := 3, maxLocals := 3, code := prog_1_method_25_code, exceptionTable := #[], attributes := #[] }
def k2m18 : Method := { name := "isValidLength", desc := "(II)Z", sig := { parameters := [.int, .int], returnType := some .boolean }, accessFlags := 2, code := some k2c18 }
def k2c19 : Code := { maxStack := 2, maxLocals := 2, code := prog_1_method_26_code, exceptionTable := #[], attributes := #[] }
def k2m19 : Method := { name := "isActiveStay", desc := "(I)Z", sig := { parameters := [.int], returnType := some .boolean }, accessFlags := 2, code := some k2c19 }
def k2c20 : Code := { maxStack := 3, maxLocals := 4, code := prog_1_method_27_code, exceptionTable := #[], attributes := #[] }
def k2m20 : Method := { name := "requestError", desc := "(III)I", sig := { parameters := [.int, .int, .int], returnType := some .int }, accessFlags := 2, code := some k2c20 }
def k2c21 : Code := { maxStack := 3, maxLocals := 2, code := prog_1_method_28_code, exceptionTable := #[], attributes := #[] }
def k2m21 : Method := { name := "resetStays", desc := "()V", sig := { parameters := [], returnType := none }, accessFlags := 2, code := some k2c21 }
def k2c22 : Code := { maxStack := 2, maxLocals := 2, code := prog_1_method_29_code, exceptionTable := #[], attributes := #[] }
def k2m22 : Method := { name := "lowestInactiveSlot", desc := "()I", sig := { parameters := [], returnType := some .int }, accessFlags := 2, code := some k2c22 }
def k2c23 : Code := { maxStack := 3, maxLocals := 5, code := prog_1_method_30_code, exceptionTable := #[], attributes := #[] }
def k2m23 : Method := { name := "storeStay", desc := "(IIII)V", sig := { parameters := [.int, .int, .int, .int], returnType := none }, accessFlags := 2, code := some k2c23 }
def k2c24 : Code := { maxStack := 5, maxLocals := 5, code := prog_1_method_31_code, exceptionTable := #[], attributes := #[] }
def k2m24 : Method := { name := "activateStay", desc := "(IIII)V", sig := { parameters := [.int, .int, .int, .int], returnType := none }, accessFlags := 2, code := some k2c24 }
def k2c25 : Code := { maxStack := 5, maxLocals := 2, code := prog_1_method_32_code, exceptionTable := #[], attributes := #[] }
def k2m25 : Method := { name := "deactivateStay", desc := "(I)V", sig := { parameters := [.int], returnType := none }, accessFlags := 2, code := some k2c25 }
def k2c26 : Code := { maxStack := 3, maxLocals := 4, code := prog_1_method_33_code, exceptionTable := #[], attributes := #[] }
def k2m26 : Method := { name := "coversNight", desc := "(II)Z", sig := { parameters := [.int, .int], returnType := some .boolean }, accessFlags := 2, code := some k2c26 }
def k2c27 : Code := { maxStack := 2, maxLocals := 4, code := prog_1_method_34_code, exceptionTable := #[], attributes := #[] }
def k2m27 : Method := { name := "endOf", desc := "(II)I", sig := { parameters := [.int, .int], returnType := some .int }, accessFlags := 2, code := some k2c27 }
def k2c28 : Code := { maxStack := 3, maxLocals := 2, code := prog_1_method_35_code, exceptionTable := #[], attributes := #[] }
def k2m28 : Method := { name := "resetCounts", desc := "()V", sig := { parameters := [], returnType := none }, accessFlags := 2, code := some k2c28 }
def k2c29 : Code := { maxStack := 2, maxLocals := 3, code := prog_1_method_36_code, exceptionTable := #[], attributes := #[] }
def k2m29 : Method := { name := "countIndex", desc := "(II)I", sig := { parameters := [.int, .int], returnType := some .int }, accessFlags := 2, code := some k2c29 }
def k2c30 : Code := { maxStack := 4, maxLocals := 3, code := prog_1_method_38_code, exceptionTable := #[], attributes := #[] }
def k2m30 : Method := { name := "atLeastAt", desc := "(II)I", sig := { parameters := [.int, .int], returnType := some .int }, accessFlags := 2, code := some k2c30 }
def k2c31 : Code := { maxStack := 4, maxLocals := 8, code := prog_1_method_39_code, exceptionTable := #[], attributes := #[] }
def k2m31 : Method := { name := "adjustCoverage", desc := "(II)V", sig := { parameters := [.int, .int], returnType := none }, accessFlags := 2, code := some k2c31 }
def k2c32 : Code := { maxStack := 3, maxLocals := 4, code := prog_1_method_42_code, exceptionTable := #[], attributes := #[] }
def k2m32 : Method := { name := "exclusion", desc := "(III)I", sig := { parameters := [.int, .int, .int], returnType := some .int }, accessFlags := 2, code := some k2c32 }
def k2c33 : Code := { maxStack := 4, maxLocals := 8, code := prog_1_method_43_code, exceptionTable := #[], attributes := #[] }
def k2m33 : Method := { name := "nightFits", desc := "(III)Z", sig := { parameters := [.int, .int, .int], returnType := some .boolean }, accessFlags := 2, code := some k2c33 }
def k2c34 : Code := { maxStack := 4, maxLocals := 7, code := prog_1_method_44_code, exceptionTable := #[], attributes := #[] }
def k2m34 : Method := { name := "fitsWith", desc := "(IIII)Z", sig := { parameters := [.int, .int, .int, .int], returnType := some .boolean }, accessFlags := 2, code := some k2c34 }
def k2c35 : Code := { maxStack := 2, maxLocals := 1, code := prog_1_method_46_code, exceptionTable := #[], attributes := #[] }
def k2m35 : Method := { name := "discardPlan", desc := "()V", sig := { parameters := [], returnType := none }, accessFlags := 2, code := some k2c35 }
def k2c36 : Code := { maxStack := 3, maxLocals := 2, code := prog_1_method_47_code, exceptionTable := #[], attributes := #[] }
def k2m36 : Method := { name := "clearPlan", desc := "()V", sig := { parameters := [], returnType := none }, accessFlags := 2, code := some k2c36 }
def k2c37 : Code := { maxStack := 2, maxLocals := 3, code := prog_1_method_48_code, exceptionTable := #[], attributes := #[] }
def k2m37 : Method := { name := "gridIndex", desc := "(II)I", sig := { parameters := [.int, .int], returnType := some .int }, accessFlags := 2, code := some k2c37 }
def k2c38 : Code := { maxStack := 4, maxLocals := 3, code := prog_1_method_49_code, exceptionTable := #[], attributes := #[] }
def k2m38 : Method := { name := "gridAt", desc := "(II)I", sig := { parameters := [.int, .int], returnType := some .int }, accessFlags := 2, code := some k2c38 }
def k2c39 : Code := { maxStack := 2, maxLocals := 3, code := prog_1_method_50_code, exceptionTable := #[], attributes := #[] }
def k2m39 : Method := { name := "buildOrder", desc := "()V", sig := { parameters := [], returnType := none }, accessFlags := 2, code := some k2c39 }
def k2c40 : Code := { maxStack := 3, maxLocals := 2, code := prog_1_method_51_code, exceptionTable := #[], attributes := #[] }
def k2m40 : Method := { name := "appendToOrder", desc := "(I)V", sig := { parameters := [.int], returnType := none }, accessFlags := 2, code := some k2c40 }
def k2c41 : Code := { maxStack := 5, maxLocals := 6, code := prog_1_method_52_code, exceptionTable := #[], attributes := #[] }
def k2m41 : Method := { name := "placeStay", desc := "(I)Z", sig := { parameters := [.int], returnType := some .boolean }, accessFlags := 2, code := some k2c41 }
def k2c42 : Code := { maxStack := 3, maxLocals := 6, code := prog_1_method_53_code, exceptionTable := #[], attributes := #[] }
def k2m42 : Method := { name := "roomIsFree", desc := "(III)Z", sig := { parameters := [.int, .int, .int], returnType := some .boolean }, accessFlags := 2, code := some k2c42 }
def k2c43 : Code := { maxStack := 4, maxLocals := 7, code := prog_1_method_54_code, exceptionTable := #[], attributes := #[] }
def k2m43 : Method := { name := "markRoom", desc := "(IIII)V", sig := { parameters := [.int, .int, .int, .int], returnType := none }, accessFlags := 2, code := some k2c43 }
/-- RoomPlanner -/
def k2 : Class := { plain "RoomPlanner" (some 0) with
  accessFlags := 49
  interfaces := #[]
  cf := some (fileOf pool2 8 #[] #[{ accessFlags := 1, nameIndex := 5, descriptorIndex := 209, attributes := #[] }, { accessFlags := 1, nameIndex := 212, descriptorIndex := 74, attributes := #[] }, { accessFlags := 1, nameIndex := 214, descriptorIndex := 215, attributes := #[] }, { accessFlags := 1, nameIndex := 216, descriptorIndex := 50, attributes := #[] }, { accessFlags := 1, nameIndex := 221, descriptorIndex := 50, attributes := #[] }, { accessFlags := 1, nameIndex := 222, descriptorIndex := 50, attributes := #[] }, { accessFlags := 1, nameIndex := 223, descriptorIndex := 50, attributes := #[] }, { accessFlags := 1, nameIndex := 225, descriptorIndex := 85, attributes := #[] }, { accessFlags := 1, nameIndex := 226, descriptorIndex := 227, attributes := #[] }, { accessFlags := 1, nameIndex := 228, descriptorIndex := 50, attributes := #[] }, { accessFlags := 1, nameIndex := 229, descriptorIndex := 117, attributes := #[] }, { accessFlags := 1, nameIndex := 230, descriptorIndex := 50, attributes := #[] }, { accessFlags := 2, nameIndex := 49, descriptorIndex := 50, attributes := #[] }, { accessFlags := 2, nameIndex := 53, descriptorIndex := 6, attributes := #[] }, { accessFlags := 2, nameIndex := 135, descriptorIndex := 96, attributes := #[] }, { accessFlags := 2, nameIndex := 141, descriptorIndex := 50, attributes := #[] }, { accessFlags := 2, nameIndex := 110, descriptorIndex := 96, attributes := #[] }, { accessFlags := 2, nameIndex := 113, descriptorIndex := 96, attributes := #[] }, { accessFlags := 2, nameIndex := 147, descriptorIndex := 148, attributes := #[] }, { accessFlags := 2, nameIndex := 95, descriptorIndex := 96, attributes := #[] }, { accessFlags := 2, nameIndex := 73, descriptorIndex := 74, attributes := #[] }, { accessFlags := 2, nameIndex := 56, descriptorIndex := 6, attributes := #[] }, { accessFlags := 2, nameIndex := 84, descriptorIndex := 85, attributes := #[] }, { accessFlags := 2, nameIndex := 103, descriptorIndex := 89, attributes := #[] }, { accessFlags := 2, nameIndex := 88, descriptorIndex := 89, attributes := #[] }, { accessFlags := 2, nameIndex := 106, descriptorIndex := 107, attributes := #[] }, { accessFlags := 2, nameIndex := 166, descriptorIndex := 148, attributes := #[] }, { accessFlags := 2, nameIndex := 154, descriptorIndex := 117, attributes := #[] }, { accessFlags := 2, nameIndex := 59, descriptorIndex := 6, attributes := #[] }, { accessFlags := 2, nameIndex := 151, descriptorIndex := 117, attributes := #[] }, { accessFlags := 2, nameIndex := 160, descriptorIndex := 117, attributes := #[] }, { accessFlags := 2, nameIndex := 99, descriptorIndex := 100, attributes := #[] }, { accessFlags := 2, nameIndex := 169, descriptorIndex := 74, attributes := #[] }, { accessFlags := 2, nameIndex := 172, descriptorIndex := 173, attributes := #[] }, { accessFlags := 2, nameIndex := 80, descriptorIndex := 81, attributes := #[] }, { accessFlags := 2, nameIndex := 92, descriptorIndex := 6, attributes := #[] }, { accessFlags := 2, nameIndex := 62, descriptorIndex := 6, attributes := #[] }, { accessFlags := 2, nameIndex := 176, descriptorIndex := 117, attributes := #[] }, { accessFlags := 2, nameIndex := 138, descriptorIndex := 117, attributes := #[] }, { accessFlags := 2, nameIndex := 126, descriptorIndex := 6, attributes := #[] }, { accessFlags := 2, nameIndex := 179, descriptorIndex := 107, attributes := #[] }, { accessFlags := 2, nameIndex := 132, descriptorIndex := 96, attributes := #[] }, { accessFlags := 2, nameIndex := 182, descriptorIndex := 173, attributes := #[] }, { accessFlags := 2, nameIndex := 185, descriptorIndex := 89, attributes := #[] }] 49 2 #[] #[{ accessFlags := 25, nameIndex := 186, descriptorIndex := 70, attributes := #[] }, { accessFlags := 25, nameIndex := 189, descriptorIndex := 70, attributes := #[] }, { accessFlags := 25, nameIndex := 191, descriptorIndex := 70, attributes := #[] }, { accessFlags := 25, nameIndex := 192, descriptorIndex := 70, attributes := #[] }, { accessFlags := 25, nameIndex := 194, descriptorIndex := 70, attributes := #[] }, { accessFlags := 25, nameIndex := 196, descriptorIndex := 70, attributes := #[] }, { accessFlags := 25, nameIndex := 198, descriptorIndex := 70, attributes := #[] }, { accessFlags := 25, nameIndex := 199, descriptorIndex := 70, attributes := #[] }, { accessFlags := 25, nameIndex := 201, descriptorIndex := 70, attributes := #[] }, { accessFlags := 25, nameIndex := 203, descriptorIndex := 70, attributes := #[] }, { accessFlags := 25, nameIndex := 205, descriptorIndex := 70, attributes := #[] }, { accessFlags := 26, nameIndex := 207, descriptorIndex := 70, attributes := #[] }, { accessFlags := 18, nameIndex := 11, descriptorIndex := 12, attributes := #[] }, { accessFlags := 18, nameIndex := 15, descriptorIndex := 12, attributes := #[] }, { accessFlags := 18, nameIndex := 18, descriptorIndex := 12, attributes := #[] }, { accessFlags := 2, nameIndex := 144, descriptorIndex := 70, attributes := #[] }, { accessFlags := 18, nameIndex := 21, descriptorIndex := 22, attributes := #[] }, { accessFlags := 18, nameIndex := 25, descriptorIndex := 12, attributes := #[] }, { accessFlags := 18, nameIndex := 28, descriptorIndex := 12, attributes := #[] }, { accessFlags := 18, nameIndex := 31, descriptorIndex := 12, attributes := #[] }, { accessFlags := 2, nameIndex := 77, descriptorIndex := 70, attributes := #[] }, { accessFlags := 18, nameIndex := 34, descriptorIndex := 12, attributes := #[] }, { accessFlags := 18, nameIndex := 37, descriptorIndex := 12, attributes := #[] }, { accessFlags := 2, nameIndex := 65, descriptorIndex := 66, attributes := #[] }, { accessFlags := 18, nameIndex := 40, descriptorIndex := 12, attributes := #[] }, { accessFlags := 18, nameIndex := 43, descriptorIndex := 12, attributes := #[] }, { accessFlags := 18, nameIndex := 46, descriptorIndex := 12, attributes := #[] }, { accessFlags := 2, nameIndex := 129, descriptorIndex := 70, attributes := #[] }, { accessFlags := 2, nameIndex := 69, descriptorIndex := 70, attributes := #[] }])
  fields := #[{ name := "NUM_TYPES", type := .int, accessFlags := 25, slot := 0, constantValue := 0 }, { name := "HORIZON", type := .int, accessFlags := 25, slot := 1, constantValue := 0 }, { name := "MAX_STAYS", type := .int, accessFlags := 25, slot := 2, constantValue := 0 }, { name := "MAX_ROOMS_PER_TYPE", type := .int, accessFlags := 25, slot := 3, constantValue := 0 }, { name := "OK", type := .int, accessFlags := 25, slot := 4, constantValue := 0 }, { name := "NONE", type := .int, accessFlags := 25, slot := 5, constantValue := 0 }, { name := "ERR_TYPE", type := .int, accessFlags := 25, slot := 6, constantValue := 0 }, { name := "ERR_RANGE", type := .int, accessFlags := 25, slot := 7, constantValue := 0 }, { name := "ERR_FULL", type := .int, accessFlags := 25, slot := 8, constantValue := 0 }, { name := "ERR_NO_ROOM", type := .int, accessFlags := 25, slot := 9, constantValue := 0 }, { name := "ERR_NO_STAY", type := .int, accessFlags := 25, slot := 10, constantValue := 0 }, { name := "MAX_ROOMS", type := .int, accessFlags := 26, slot := 11, constantValue := 0 }, { name := "roomsOfType", type := (.array .int), accessFlags := 18, slot := 0, constantValue := 0 }, { name := "roomsAtLeast", type := (.array .int), accessFlags := 18, slot := 1, constantValue := 0 }, { name := "firstRoomOfType", type := (.array .int), accessFlags := 18, slot := 2, constantValue := 0 }, { name := "totalRooms", type := .int, accessFlags := 2, slot := 3, constantValue := 0 }, { name := "slotActive", type := (.array .boolean), accessFlags := 18, slot := 4, constantValue := 0 }, { name := "slotType", type := (.array .int), accessFlags := 18, slot := 5, constantValue := 0 }, { name := "slotArrive", type := (.array .int), accessFlags := 18, slot := 6, constantValue := 0 }, { name := "slotNights", type := (.array .int), accessFlags := 18, slot := 7, constantValue := 0 }, { name := "activeStays", type := .int, accessFlags := 2, slot := 8, constantValue := 0 }, { name := "exactCount", type := (.array .int), accessFlags := 18, slot := 9, constantValue := 0 }, { name := "atLeastCount", type := (.array .int), accessFlags := 18, slot := 10, constantValue := 0 }, { name := "planCurrent", type := .boolean, accessFlags := 2, slot := 11, constantValue := 0 }, { name := "planRoom", type := (.array .int), accessFlags := 18, slot := 12, constantValue := 0 }, { name := "planGrid", type := (.array .int), accessFlags := 18, slot := 13, constantValue := 0 }, { name := "planOrder", type := (.array .int), accessFlags := 18, slot := 14, constantValue := 0 }, { name := "planOrderLength", type := .int, accessFlags := 2, slot := 15, constantValue := 0 }, { name := "planUnplaced", type := .int, accessFlags := 2, slot := 16, constantValue := 0 }]
  methods := #[k2m0, k2m1, k2m2, k2m3, k2m4, k2m5, k2m6, k2m7, k2m8, k2m9, k2m10, k2m11, k2m12, k2m13, k2m14, k2m15, k2m16, k2m17, k2m18, k2m19, k2m20, k2m21, k2m22, k2m23, k2m24, k2m25, k2m26, k2m27, k2m28, k2m29, k2m30, k2m31, k2m32, k2m33, k2m34, k2m35, k2m36, k2m37, k2m38, k2m39, k2m40, k2m41, k2m42, k2m43]
  instanceTypes := #[(.array .int), (.array .int), (.array .int), .int, (.array .boolean), (.array .int), (.array .int), (.array .int), .int, (.array .int), (.array .int), .boolean, (.array .int), (.array .int), (.array .int), .int, .int]
  staticTypes := #[.int, .int, .int, .int, .int, .int, .int, .int, .int, .int, .int, .int]
  resolved := Array.replicate 233 none
  statics := none }

def pool3 : Array CpInfo := pool [(1, u "java/lang/Cloneable"), (0, .class_ 1), (0, u "java/lang/Object"), (0, .class_ 3)] 3

/-- java/lang/Cloneable -/
def k3 : Class := { plain "java/lang/Cloneable" (some 0) with
  accessFlags := 1537
  interfaces := #[]
  cf := some (fileOf pool3 2 #[] #[] 1537 4 #[] #[])
  fields := #[]
  methods := #[]
  instanceTypes := #[]
  staticTypes := #[]
  resolved := Array.replicate 8 none
  statics := none }

def pool4 : Array CpInfo := pool [(1, u "java/io/Serializable"), (0, .class_ 1), (0, u "java/lang/Object"), (0, .class_ 3)] 3

/-- java/io/Serializable -/
def k4 : Class := { plain "java/io/Serializable" (some 0) with
  accessFlags := 1537
  interfaces := #[]
  cf := some (fileOf pool4 2 #[] #[] 1537 4 #[] #[])
  fields := #[]
  methods := #[]
  instanceTypes := #[]
  staticTypes := #[]
  resolved := Array.replicate 8 none
  statics := none }

/-- the primitive boolean -/
def k5 : Class := { plain "boolean" none with kind := .primitive 'Z', accessFlags := 0x411 }
/-- [Z -/
def k6 : Class := { plain "[Z" (some 0) with kind := .array 5 .boolean, interfaces := #[3, 4], accessFlags := 1041 }

/-- the primitive byte -/
def k7 : Class := { plain "byte" none with kind := .primitive 'B', accessFlags := 0x411 }
/-- [B -/
def k8 : Class := { plain "[B" (some 0) with kind := .array 7 .byte, interfaces := #[3, 4], accessFlags := 1041 }

/-- the primitive int -/
def k9 : Class := { plain "int" none with kind := .primitive 'I', accessFlags := 0x411 }
/-- [I -/
def k10 : Class := { plain "[I" (some 0) with kind := .array 9 .int, interfaces := #[3, 4], accessFlags := 1041 }

def heap : Heap := #[{ cls := 10, slots := #[.int 1, .int 2, .int 3], vm := .none }]
def classes : Array Class := #[k0, k1, k2, k3, k4, k5, k6, k7, k8, k9, k10]
def interned : List (Array UInt16 × Addr) := []
def slotsUsed : Nat := 3
def theMethod : MethodId := ⟨1, 6⟩
def args0 : Array Value := #[.ref 0]
def aboutOver (below : List Frame) : State where
  vm := { classes := classes, interned := interned.toArray }
  heap := heap
  slotsUsed := slotsUsed
  threads := #[{ frames := .invoking theMethod args0 :: below }]
def below0 : List Frame := [.native { method := ⟨0, 0⟩, args := #[] }]
def about1 : State := aboutOver below0
def p0 : Program := .bare "" "" ""
def e0 : Env := launch0.env 0 0 0
theorem w_frames : about1.frames = Frame.invoking theMethod args0 :: below0 := rfl
set_option maxRecDepth 65536 in
theorem w_args : argsFit about1.vm theMethod args0 = true := by decide +kernel
set_option maxRecDepth 65536 in
theorem w_heap : heapFits about1 = true := by decide +kernel
set_option maxRecDepth 65536 in
theorem w_runnable : about1.curStatus? = some .runnable := by decide +kernel
set_option maxRecDepth 65536 in
theorem w_alone : about1.alone = true := by decide +kernel
set_option maxRecDepth 65536 in
theorem w_named : about1.methodNamed? x = some theMethod := by decide +kernel
set_option maxRecDepth 65536 in
theorem w_hears : about1.hears theMethod below0 = true := by decide +kernel
set_option maxRecDepth 65536 in
theorem w_ripe : about1.ripe theMethod args0 below0 = true := by decide +kernel
theorem w_running : about1.status = .running := rfl
set_option maxRecDepth 65536 in
theorem w_room : about1.hasRoom e0.platform room_1 = true :=
  launch0.hasRoom_least _ room_1 (by decide +kernel) (by decide +kernel) (by decide +kernel) (by decide +kernel) (by decide +kernel) (by decide +kernel)
theorem allAtoms_all (ts : List Jvm.Cond) (a : Array Jvm.Value) (st : Jvm.State) : (allAtoms ts).before a st = ts.all (fun c => c.before a st) := by
  induction ts with
  | nil => rfl
  | cons c t ih =>
    show (Jvm.Cond.and c (allAtoms t)).before a st = _
    rw [Jvm.Cond.before_and, ih, List.all_cons]
def words1 : List Jvm.Cond := Jvm.Cond.code x code maxLocals ret :: tables_1
/-- a 'code' word, met by the world's own term for the bytes: nothing is compared byte by byte -/
theorem code_word {y : MethodName} {bytes : ByteArray} {mx : Nat} {rt : Option FieldType} {a : Array Value} {s : State} {m : MethodId} {meth : Method} {c : Code} (h1 : s.methodNamed? y = some m) (h2 : s.vm.method? m = some meth) (h3 : meth.code = some c) (h4 : c.code = bytes)
    (h5 : (c.maxLocals == mx && c.exceptionTable.isEmpty && decide (c.maxStack ≤ mostOperands) && decide (meth.sig.returnType = rt) && !meth.locks && decide (parseMethodDescriptor y.desc = some meth.sig)) = true) : (Jvm.Cond.code y bytes mx rt).before a s = true := by
  simp only [Bool.and_eq_true, beq_iff_eq, Bool.not_eq_true', decide_eq_true_eq] at h5
  obtain ⟨⟨⟨⟨⟨g1, g2⟩, g3⟩, g4⟩, g5⟩, g6⟩ := h5
  simp [Cond.before, Cond.holds, Cond.value, h1, h2, h3, h4, g1, g2, g3, g4, g5, g6]
def isCode : Jvm.Cond → Bool
  | .code _ _ _ _ => true
  | _ => false
theorem all_split {L : List Jvm.Cond} {P : Jvm.Cond → Bool} (h1 : L.all (fun c => isCode c || P c) = true) (h2 : ∀ c ∈ L.filter isCode, P c = true) : L.all P = true := by
  refine List.all_eq_true.mpr fun c hc => ?_
  have h := List.all_eq_true.mp h1 c hc
  rcases Bool.eq_false_or_eq_true (isCode c) with hi | hi
  · exact h2 c (List.mem_filter.mpr ⟨hc, hi⟩)
  · simpa [hi] using h
set_option maxRecDepth 65536 in
theorem w_c0 : (Jvm.Cond.code x code maxLocals ret).before args0 about1 = true := code_word (m := ⟨1, 6⟩) (meth := k1m6) (c := k1c6) (by decide +kernel) rfl rfl rfl (by decide +kernel)
set_option maxRecDepth 65536 in
theorem w_c1 : (Jvm.Cond.code ({ cls := "RoomPlannerOwnLaw", name := "cell", desc := "([II)I" } : Jvm.MethodName) method_2_code (2 : Nat) (Option.some Jvm.ClassFile.FieldType.int)).before args0 about1 = true := code_word (m := ⟨1, 1⟩) (meth := k1m1) (c := k1c1) (by decide +kernel) rfl rfl rfl (by decide +kernel)
set_option maxRecDepth 65536 in
theorem w_c2 : (Jvm.Cond.code ({ cls := "RoomPlannerOwnLaw", name := "m", desc := "(I)I" } : Jvm.MethodName) method_3_code (1 : Nat) (Option.some Jvm.ClassFile.FieldType.int)).before args0 about1 = true := code_word (m := ⟨1, 2⟩) (meth := k1m2) (c := k1c2) (by decide +kernel) rfl rfl rfl (by decide +kernel)
set_option maxRecDepth 65536 in
theorem w_c3 : (Jvm.Cond.code ({ cls := "RoomPlanner", name := "<init>", desc := "(III)V" } : Jvm.MethodName) prog_1_method_1_code (4 : Nat) (Option.none : Option Jvm.ClassFile.FieldType)).before args0 about1 = true := code_word (m := ⟨2, 0⟩) (meth := k2m0) (c := k2c0) (by decide +kernel) rfl rfl rfl (by decide +kernel)
set_option maxRecDepth 65536 in
theorem w_c4 : (Jvm.Cond.code ({ cls := "java/lang/Object", name := "<init>", desc := "()V" } : Jvm.MethodName) object_method_1_code (1 : Nat) (Option.none : Option Jvm.ClassFile.FieldType)).before args0 about1 = true := code_word (m := ⟨0, 0⟩) (meth := k0m0) (c := k0c0) (by decide +kernel) rfl rfl rfl (by decide +kernel)
set_option maxRecDepth 65536 in
theorem w_c5 : (Jvm.Cond.code ({ cls := "RoomPlanner", name := "clampRooms", desc := "(I)I" } : Jvm.MethodName) prog_1_method_18_code (2 : Nat) (Option.some Jvm.ClassFile.FieldType.int)).before args0 about1 = true := code_word (m := ⟨2, 12⟩) (meth := k2m12) (c := k2c12) (by decide +kernel) rfl rfl rfl (by decide +kernel)
set_option maxRecDepth 65536 in
theorem w_c6 : (Jvm.Cond.code ({ cls := "RoomPlanner", name := "computeRoomTables", desc := "()V" } : Jvm.MethodName) prog_1_method_19_code (4 : Nat) (Option.none : Option Jvm.ClassFile.FieldType)).before args0 about1 = true := code_word (m := ⟨2, 13⟩) (meth := k2m13) (c := k2c13) (by decide +kernel) rfl rfl rfl (by decide +kernel)
set_option maxRecDepth 65536 in
theorem w_c7 : (Jvm.Cond.code ({ cls := "RoomPlanner", name := "resetStays", desc := "()V" } : Jvm.MethodName) prog_1_method_28_code (2 : Nat) (Option.none : Option Jvm.ClassFile.FieldType)).before args0 about1 = true := code_word (m := ⟨2, 21⟩) (meth := k2m21) (c := k2c21) (by decide +kernel) rfl rfl rfl (by decide +kernel)
set_option maxRecDepth 65536 in
theorem w_c8 : (Jvm.Cond.code ({ cls := "RoomPlanner", name := "resetCounts", desc := "()V" } : Jvm.MethodName) prog_1_method_35_code (2 : Nat) (Option.none : Option Jvm.ClassFile.FieldType)).before args0 about1 = true := code_word (m := ⟨2, 28⟩) (meth := k2m28) (c := k2c28) (by decide +kernel) rfl rfl rfl (by decide +kernel)
set_option maxRecDepth 65536 in
theorem w_c9 : (Jvm.Cond.code ({ cls := "RoomPlanner", name := "clearPlan", desc := "()V" } : Jvm.MethodName) prog_1_method_47_code (2 : Nat) (Option.none : Option Jvm.ClassFile.FieldType)).before args0 about1 = true := code_word (m := ⟨2, 36⟩) (meth := k2m36) (c := k2c36) (by decide +kernel) rfl rfl rfl (by decide +kernel)
set_option maxRecDepth 65536 in
theorem w_c10 : (Jvm.Cond.code ({ cls := "RoomPlannerOwnLaw", name := "valid", desc := "(III)Z" } : Jvm.MethodName) method_5_code (3 : Nat) (Option.some Jvm.ClassFile.FieldType.boolean)).before args0 about1 = true := code_word (m := ⟨1, 4⟩) (meth := k1m4) (c := k1c4) (by decide +kernel) rfl rfl rfl (by decide +kernel)
set_option maxRecDepth 65536 in
theorem w_c11 : (Jvm.Cond.code ({ cls := "RoomPlanner", name := "stayType", desc := "(I)I" } : Jvm.MethodName) prog_1_method_9_code (2 : Nat) (Option.some Jvm.ClassFile.FieldType.int)).before args0 about1 = true := code_word (m := ⟨2, 4⟩) (meth := k2m4) (c := k2c4) (by decide +kernel) rfl rfl rfl (by decide +kernel)
set_option maxRecDepth 65536 in
theorem w_c12 : (Jvm.Cond.code ({ cls := "RoomPlanner", name := "isActiveStay", desc := "(I)Z" } : Jvm.MethodName) prog_1_method_26_code (2 : Nat) (Option.some Jvm.ClassFile.FieldType.boolean)).before args0 about1 = true := code_word (m := ⟨2, 19⟩) (meth := k2m19) (c := k2c19) (by decide +kernel) rfl rfl rfl (by decide +kernel)
set_option maxRecDepth 65536 in
theorem w_c13 : (Jvm.Cond.code ({ cls := "RoomPlannerOwnLaw", name := "covers", desc := "(III)Z" } : Jvm.MethodName) method_4_code (3 : Nat) (Option.some Jvm.ClassFile.FieldType.boolean)).before args0 about1 = true := code_word (m := ⟨1, 3⟩) (meth := k1m3) (c := k1c3) (by decide +kernel) rfl rfl rfl (by decide +kernel)
set_option maxRecDepth 65536 in
theorem w_c14 : (Jvm.Cond.code ({ cls := "RoomPlanner", name := "book", desc := "(III)I" } : Jvm.MethodName) prog_1_method_2_code (6 : Nat) (Option.some Jvm.ClassFile.FieldType.int)).before args0 about1 = true := code_word (m := ⟨2, 1⟩) (meth := k2m1) (c := k2c1) (by decide +kernel) rfl rfl rfl (by decide +kernel)
set_option maxRecDepth 65536 in
theorem w_c15 : (Jvm.Cond.code ({ cls := "RoomPlanner", name := "requestError", desc := "(III)I" } : Jvm.MethodName) prog_1_method_27_code (4 : Nat) (Option.some Jvm.ClassFile.FieldType.int)).before args0 about1 = true := code_word (m := ⟨2, 20⟩) (meth := k2m20) (c := k2c20) (by decide +kernel) rfl rfl rfl (by decide +kernel)
set_option maxRecDepth 65536 in
theorem w_c16 : (Jvm.Cond.code ({ cls := "RoomPlanner", name := "isValidType", desc := "(I)Z" } : Jvm.MethodName) prog_1_method_23_code (2 : Nat) (Option.some Jvm.ClassFile.FieldType.boolean)).before args0 about1 = true := code_word (m := ⟨2, 16⟩) (meth := k2m16) (c := k2c16) (by decide +kernel) rfl rfl rfl (by decide +kernel)
set_option maxRecDepth 65536 in
theorem w_c17 : (Jvm.Cond.code ({ cls := "RoomPlanner", name := "isValidNight", desc := "(I)Z" } : Jvm.MethodName) prog_1_method_24_code (2 : Nat) (Option.some Jvm.ClassFile.FieldType.boolean)).before args0 about1 = true := code_word (m := ⟨2, 17⟩) (meth := k2m17) (c := k2c17) (by decide +kernel) rfl rfl rfl (by decide +kernel)
set_option maxRecDepth 65536 in
theorem w_c18 : (Jvm.Cond.code ({ cls := "RoomPlanner", name := "isValidLength", desc := "(II)Z" } : Jvm.MethodName) prog_1_method_25_code (3 : Nat) (Option.some Jvm.ClassFile.FieldType.boolean)).before args0 about1 = true := code_word (m := ⟨2, 18⟩) (meth := k2m18) (c := k2c18) (by decide +kernel) rfl rfl rfl (by decide +kernel)
set_option maxRecDepth 65536 in
theorem w_c19 : (Jvm.Cond.code ({ cls := "RoomPlanner", name := "fitsWith", desc := "(IIII)Z" } : Jvm.MethodName) prog_1_method_44_code (7 : Nat) (Option.some Jvm.ClassFile.FieldType.boolean)).before args0 about1 = true := code_word (m := ⟨2, 34⟩) (meth := k2m34) (c := k2c34) (by decide +kernel) rfl rfl rfl (by decide +kernel)
set_option maxRecDepth 65536 in
theorem w_c20 : (Jvm.Cond.code ({ cls := "RoomPlanner", name := "endOf", desc := "(II)I" } : Jvm.MethodName) prog_1_method_34_code (4 : Nat) (Option.some Jvm.ClassFile.FieldType.int)).before args0 about1 = true := code_word (m := ⟨2, 27⟩) (meth := k2m27) (c := k2c27) (by decide +kernel) rfl rfl rfl (by decide +kernel)
set_option maxRecDepth 65536 in
theorem w_c21 : (Jvm.Cond.code ({ cls := "RoomPlanner", name := "nightFits", desc := "(III)Z" } : Jvm.MethodName) prog_1_method_43_code (8 : Nat) (Option.some Jvm.ClassFile.FieldType.boolean)).before args0 about1 = true := code_word (m := ⟨2, 33⟩) (meth := k2m33) (c := k2c33) (by decide +kernel) rfl rfl rfl (by decide +kernel)
set_option maxRecDepth 65536 in
theorem w_c22 : (Jvm.Cond.code ({ cls := "RoomPlanner", name := "atLeastAt", desc := "(II)I" } : Jvm.MethodName) prog_1_method_38_code (3 : Nat) (Option.some Jvm.ClassFile.FieldType.int)).before args0 about1 = true := code_word (m := ⟨2, 30⟩) (meth := k2m30) (c := k2c30) (by decide +kernel) rfl rfl rfl (by decide +kernel)
set_option maxRecDepth 65536 in
theorem w_c23 : (Jvm.Cond.code ({ cls := "RoomPlanner", name := "countIndex", desc := "(II)I" } : Jvm.MethodName) prog_1_method_36_code (3 : Nat) (Option.some Jvm.ClassFile.FieldType.int)).before args0 about1 = true := code_word (m := ⟨2, 29⟩) (meth := k2m29) (c := k2c29) (by decide +kernel) rfl rfl rfl (by decide +kernel)
set_option maxRecDepth 65536 in
theorem w_c24 : (Jvm.Cond.code ({ cls := "RoomPlanner", name := "exclusion", desc := "(III)I" } : Jvm.MethodName) prog_1_method_42_code (4 : Nat) (Option.some Jvm.ClassFile.FieldType.int)).before args0 about1 = true := code_word (m := ⟨2, 32⟩) (meth := k2m32) (c := k2c32) (by decide +kernel) rfl rfl rfl (by decide +kernel)
set_option maxRecDepth 65536 in
theorem w_c25 : (Jvm.Cond.code ({ cls := "RoomPlanner", name := "lowestInactiveSlot", desc := "()I" } : Jvm.MethodName) prog_1_method_29_code (2 : Nat) (Option.some Jvm.ClassFile.FieldType.int)).before args0 about1 = true := code_word (m := ⟨2, 22⟩) (meth := k2m22) (c := k2c22) (by decide +kernel) rfl rfl rfl (by decide +kernel)
set_option maxRecDepth 65536 in
theorem w_c26 : (Jvm.Cond.code ({ cls := "RoomPlanner", name := "activateStay", desc := "(IIII)V" } : Jvm.MethodName) prog_1_method_31_code (5 : Nat) (Option.none : Option Jvm.ClassFile.FieldType)).before args0 about1 = true := code_word (m := ⟨2, 24⟩) (meth := k2m24) (c := k2c24) (by decide +kernel) rfl rfl rfl (by decide +kernel)
set_option maxRecDepth 65536 in
theorem w_c27 : (Jvm.Cond.code ({ cls := "RoomPlanner", name := "storeStay", desc := "(IIII)V" } : Jvm.MethodName) prog_1_method_30_code (5 : Nat) (Option.none : Option Jvm.ClassFile.FieldType)).before args0 about1 = true := code_word (m := ⟨2, 23⟩) (meth := k2m23) (c := k2c23) (by decide +kernel) rfl rfl rfl (by decide +kernel)
set_option maxRecDepth 65536 in
theorem w_c28 : (Jvm.Cond.code ({ cls := "RoomPlanner", name := "adjustCoverage", desc := "(II)V" } : Jvm.MethodName) prog_1_method_39_code (8 : Nat) (Option.none : Option Jvm.ClassFile.FieldType)).before args0 about1 = true := code_word (m := ⟨2, 31⟩) (meth := k2m31) (c := k2c31) (by decide +kernel) rfl rfl rfl (by decide +kernel)
set_option maxRecDepth 65536 in
theorem w_c29 : (Jvm.Cond.code ({ cls := "RoomPlanner", name := "discardPlan", desc := "()V" } : Jvm.MethodName) prog_1_method_46_code (1 : Nat) (Option.none : Option Jvm.ClassFile.FieldType)).before args0 about1 = true := code_word (m := ⟨2, 35⟩) (meth := k2m35) (c := k2c35) (by decide +kernel) rfl rfl rfl (by decide +kernel)
set_option maxRecDepth 65536 in
theorem w_c30 : (Jvm.Cond.code ({ cls := "RoomPlanner", name := "stayArrive", desc := "(I)I" } : Jvm.MethodName) prog_1_method_10_code (2 : Nat) (Option.some Jvm.ClassFile.FieldType.int)).before args0 about1 = true := code_word (m := ⟨2, 5⟩) (meth := k2m5) (c := k2c5) (by decide +kernel) rfl rfl rfl (by decide +kernel)
set_option maxRecDepth 65536 in
theorem w_c31 : (Jvm.Cond.code ({ cls := "RoomPlanner", name := "stayNights", desc := "(I)I" } : Jvm.MethodName) prog_1_method_11_code (2 : Nat) (Option.some Jvm.ClassFile.FieldType.int)).before args0 about1 = true := code_word (m := ⟨2, 6⟩) (meth := k2m6) (c := k2c6) (by decide +kernel) rfl rfl rfl (by decide +kernel)
set_option maxRecDepth 65536 in
theorem w_c32 : (Jvm.Cond.code ({ cls := "RoomPlanner", name := "isAssigned", desc := "()Z" } : Jvm.MethodName) prog_1_method_14_code (1 : Nat) (Option.some Jvm.ClassFile.FieldType.boolean)).before args0 about1 = true := code_word (m := ⟨2, 8⟩) (meth := k2m8) (c := k2c8) (by decide +kernel) rfl rfl rfl (by decide +kernel)
set_option maxRecDepth 65536 in
theorem w_c33 : (Jvm.Cond.code ({ cls := "RoomPlanner", name := "cancel", desc := "(I)I" } : Jvm.MethodName) prog_1_method_4_code (2 : Nat) (Option.some Jvm.ClassFile.FieldType.int)).before args0 about1 = true := code_word (m := ⟨2, 3⟩) (meth := k2m3) (c := k2c3) (by decide +kernel) rfl rfl rfl (by decide +kernel)
set_option maxRecDepth 65536 in
theorem w_c34 : (Jvm.Cond.code ({ cls := "RoomPlanner", name := "deactivateStay", desc := "(I)V" } : Jvm.MethodName) prog_1_method_32_code (2 : Nat) (Option.none : Option Jvm.ClassFile.FieldType)).before args0 about1 = true := code_word (m := ⟨2, 25⟩) (meth := k2m25) (c := k2c25) (by decide +kernel) rfl rfl rfl (by decide +kernel)
set_option maxRecDepth 65536 in
theorem w_c35 : (Jvm.Cond.code ({ cls := "RoomPlanner", name := "assign", desc := "()I" } : Jvm.MethodName) prog_1_method_13_code (5 : Nat) (Option.some Jvm.ClassFile.FieldType.int)).before args0 about1 = true := code_word (m := ⟨2, 7⟩) (meth := k2m7) (c := k2c7) (by decide +kernel) rfl rfl rfl (by decide +kernel)
set_option maxRecDepth 65536 in
theorem w_c36 : (Jvm.Cond.code ({ cls := "RoomPlanner", name := "buildOrder", desc := "()V" } : Jvm.MethodName) prog_1_method_50_code (3 : Nat) (Option.none : Option Jvm.ClassFile.FieldType)).before args0 about1 = true := code_word (m := ⟨2, 39⟩) (meth := k2m39) (c := k2c39) (by decide +kernel) rfl rfl rfl (by decide +kernel)
set_option maxRecDepth 65536 in
theorem w_c37 : (Jvm.Cond.code ({ cls := "RoomPlanner", name := "occupant", desc := "(II)I" } : Jvm.MethodName) prog_1_method_16_code (3 : Nat) (Option.some Jvm.ClassFile.FieldType.int)).before args0 about1 = true := code_word (m := ⟨2, 10⟩) (meth := k2m10) (c := k2c10) (by decide +kernel) rfl rfl rfl (by decide +kernel)
set_option maxRecDepth 65536 in
theorem w_c38 : (Jvm.Cond.code ({ cls := "RoomPlanner", name := "isValidRoom", desc := "(I)Z" } : Jvm.MethodName) prog_1_method_20_code (2 : Nat) (Option.some Jvm.ClassFile.FieldType.boolean)).before args0 about1 = true := code_word (m := ⟨2, 14⟩) (meth := k2m14) (c := k2c14) (by decide +kernel) rfl rfl rfl (by decide +kernel)
set_option maxRecDepth 65536 in
theorem w_c39 : (Jvm.Cond.code ({ cls := "RoomPlanner", name := "gridAt", desc := "(II)I" } : Jvm.MethodName) prog_1_method_49_code (3 : Nat) (Option.some Jvm.ClassFile.FieldType.int)).before args0 about1 = true := code_word (m := ⟨2, 38⟩) (meth := k2m38) (c := k2c38) (by decide +kernel) rfl rfl rfl (by decide +kernel)
set_option maxRecDepth 65536 in
theorem w_c40 : (Jvm.Cond.code ({ cls := "RoomPlanner", name := "gridIndex", desc := "(II)I" } : Jvm.MethodName) prog_1_method_48_code (3 : Nat) (Option.some Jvm.ClassFile.FieldType.int)).before args0 about1 = true := code_word (m := ⟨2, 37⟩) (meth := k2m37) (c := k2c37) (by decide +kernel) rfl rfl rfl (by decide +kernel)
set_option maxRecDepth 65536 in
theorem w_c41 : (Jvm.Cond.code ({ cls := "RoomPlanner", name := "amend", desc := "(IIII)I" } : Jvm.MethodName) prog_1_method_3_code (6 : Nat) (Option.some Jvm.ClassFile.FieldType.int)).before args0 about1 = true := code_word (m := ⟨2, 2⟩) (meth := k2m2) (c := k2c2) (by decide +kernel) rfl rfl rfl (by decide +kernel)
set_option maxRecDepth 65536 in
theorem w_c42 : (Jvm.Cond.code ({ cls := "RoomPlanner", name := "appendToOrder", desc := "(I)V" } : Jvm.MethodName) prog_1_method_51_code (2 : Nat) (Option.none : Option Jvm.ClassFile.FieldType)).before args0 about1 = true := code_word (m := ⟨2, 40⟩) (meth := k2m40) (c := k2c40) (by decide +kernel) rfl rfl rfl (by decide +kernel)
set_option maxRecDepth 65536 in
theorem w_c43 : (Jvm.Cond.code ({ cls := "RoomPlanner", name := "placeStay", desc := "(I)Z" } : Jvm.MethodName) prog_1_method_52_code (6 : Nat) (Option.some Jvm.ClassFile.FieldType.boolean)).before args0 about1 = true := code_word (m := ⟨2, 41⟩) (meth := k2m41) (c := k2c41) (by decide +kernel) rfl rfl rfl (by decide +kernel)
set_option maxRecDepth 65536 in
theorem w_c44 : (Jvm.Cond.code ({ cls := "RoomPlanner", name := "roomIsFree", desc := "(III)Z" } : Jvm.MethodName) prog_1_method_53_code (6 : Nat) (Option.some Jvm.ClassFile.FieldType.boolean)).before args0 about1 = true := code_word (m := ⟨2, 42⟩) (meth := k2m42) (c := k2c42) (by decide +kernel) rfl rfl rfl (by decide +kernel)
set_option maxRecDepth 65536 in
theorem w_c45 : (Jvm.Cond.code ({ cls := "RoomPlanner", name := "markRoom", desc := "(IIII)V" } : Jvm.MethodName) prog_1_method_54_code (7 : Nat) (Option.none : Option Jvm.ClassFile.FieldType)).before args0 about1 = true := code_word (m := ⟨2, 43⟩) (meth := k2m43) (c := k2c43) (by decide +kernel) rfl rfl rfl (by decide +kernel)
set_option maxRecDepth 65536 in
theorem w_c46 : (Jvm.Cond.code ({ cls := "RoomPlanner", name := "roomOf", desc := "(I)I" } : Jvm.MethodName) prog_1_method_15_code (2 : Nat) (Option.some Jvm.ClassFile.FieldType.int)).before args0 about1 = true := code_word (m := ⟨2, 9⟩) (meth := k2m9) (c := k2c9) (by decide +kernel) rfl rfl rfl (by decide +kernel)
set_option maxRecDepth 65536 in
theorem w_c47 : (Jvm.Cond.code ({ cls := "RoomPlanner", name := "roomType", desc := "(I)I" } : Jvm.MethodName) prog_1_method_17_code (2 : Nat) (Option.some Jvm.ClassFile.FieldType.int)).before args0 about1 = true := code_word (m := ⟨2, 11⟩) (meth := k2m11) (c := k2c11) (by decide +kernel) rfl rfl rfl (by decide +kernel)
set_option maxRecDepth 65536 in
theorem w_c48 : (Jvm.Cond.code ({ cls := "RoomPlanner", name := "roomTypeOf", desc := "(I)I" } : Jvm.MethodName) prog_1_method_21_code (2 : Nat) (Option.some Jvm.ClassFile.FieldType.int)).before args0 about1 = true := code_word (m := ⟨2, 15⟩) (meth := k2m15) (c := k2c15) (by decide +kernel) rfl rfl rfl (by decide +kernel)
set_option maxRecDepth 65536 in
theorem w_c49 : (Jvm.Cond.code ({ cls := "RoomPlannerOwnLaw", name := "overlap", desc := "(IIII)Z" } : Jvm.MethodName) method_6_code (4 : Nat) (Option.some Jvm.ClassFile.FieldType.boolean)).before args0 about1 = true := code_word (m := ⟨1, 5⟩) (meth := k1m5) (c := k1c5) (by decide +kernel) rfl rfl rfl (by decide +kernel)
set_option maxRecDepth 65536 in
theorem w_c50 : (Jvm.Cond.code ({ cls := "RoomPlanner", name := "coversNight", desc := "(II)Z" } : Jvm.MethodName) prog_1_method_33_code (4 : Nat) (Option.some Jvm.ClassFile.FieldType.boolean)).before args0 about1 = true := code_word (m := ⟨2, 26⟩) (meth := k2m26) (c := k2c26) (by decide +kernel) rfl rfl rfl (by decide +kernel)
def codes1 : List Jvm.Cond := [Jvm.Cond.code x code maxLocals ret, Jvm.Cond.code ({ cls := "RoomPlannerOwnLaw", name := "cell", desc := "([II)I" } : Jvm.MethodName) method_2_code (2 : Nat) (Option.some Jvm.ClassFile.FieldType.int), Jvm.Cond.code ({ cls := "RoomPlannerOwnLaw", name := "m", desc := "(I)I" } : Jvm.MethodName) method_3_code (1 : Nat) (Option.some Jvm.ClassFile.FieldType.int), Jvm.Cond.code ({ cls := "RoomPlanner", name := "<init>", desc := "(III)V" } : Jvm.MethodName) prog_1_method_1_code (4 : Nat) (Option.none : Option Jvm.ClassFile.FieldType), Jvm.Cond.code ({ cls := "java/lang/Object", name := "<init>", desc := "()V" } : Jvm.MethodName) object_method_1_code (1 : Nat) (Option.none : Option Jvm.ClassFile.FieldType), Jvm.Cond.code ({ cls := "RoomPlanner", name := "clampRooms", desc := "(I)I" } : Jvm.MethodName) prog_1_method_18_code (2 : Nat) (Option.some Jvm.ClassFile.FieldType.int), Jvm.Cond.code ({ cls := "RoomPlanner", name := "computeRoomTables", desc := "()V" } : Jvm.MethodName) prog_1_method_19_code (4 : Nat) (Option.none : Option Jvm.ClassFile.FieldType), Jvm.Cond.code ({ cls := "RoomPlanner", name := "resetStays", desc := "()V" } : Jvm.MethodName) prog_1_method_28_code (2 : Nat) (Option.none : Option Jvm.ClassFile.FieldType), Jvm.Cond.code ({ cls := "RoomPlanner", name := "resetCounts", desc := "()V" } : Jvm.MethodName) prog_1_method_35_code (2 : Nat) (Option.none : Option Jvm.ClassFile.FieldType), Jvm.Cond.code ({ cls := "RoomPlanner", name := "clearPlan", desc := "()V" } : Jvm.MethodName) prog_1_method_47_code (2 : Nat) (Option.none : Option Jvm.ClassFile.FieldType), Jvm.Cond.code ({ cls := "RoomPlannerOwnLaw", name := "valid", desc := "(III)Z" } : Jvm.MethodName) method_5_code (3 : Nat) (Option.some Jvm.ClassFile.FieldType.boolean), Jvm.Cond.code ({ cls := "RoomPlanner", name := "stayType", desc := "(I)I" } : Jvm.MethodName) prog_1_method_9_code (2 : Nat) (Option.some Jvm.ClassFile.FieldType.int), Jvm.Cond.code ({ cls := "RoomPlanner", name := "isActiveStay", desc := "(I)Z" } : Jvm.MethodName) prog_1_method_26_code (2 : Nat) (Option.some Jvm.ClassFile.FieldType.boolean), Jvm.Cond.code ({ cls := "RoomPlannerOwnLaw", name := "covers", desc := "(III)Z" } : Jvm.MethodName) method_4_code (3 : Nat) (Option.some Jvm.ClassFile.FieldType.boolean), Jvm.Cond.code ({ cls := "RoomPlanner", name := "book", desc := "(III)I" } : Jvm.MethodName) prog_1_method_2_code (6 : Nat) (Option.some Jvm.ClassFile.FieldType.int), Jvm.Cond.code ({ cls := "RoomPlanner", name := "requestError", desc := "(III)I" } : Jvm.MethodName) prog_1_method_27_code (4 : Nat) (Option.some Jvm.ClassFile.FieldType.int), Jvm.Cond.code ({ cls := "RoomPlanner", name := "isValidType", desc := "(I)Z" } : Jvm.MethodName) prog_1_method_23_code (2 : Nat) (Option.some Jvm.ClassFile.FieldType.boolean), Jvm.Cond.code ({ cls := "RoomPlanner", name := "isValidNight", desc := "(I)Z" } : Jvm.MethodName) prog_1_method_24_code (2 : Nat) (Option.some Jvm.ClassFile.FieldType.boolean), Jvm.Cond.code ({ cls := "RoomPlanner", name := "isValidLength", desc := "(II)Z" } : Jvm.MethodName) prog_1_method_25_code (3 : Nat) (Option.some Jvm.ClassFile.FieldType.boolean), Jvm.Cond.code ({ cls := "RoomPlanner", name := "fitsWith", desc := "(IIII)Z" } : Jvm.MethodName) prog_1_method_44_code (7 : Nat) (Option.some Jvm.ClassFile.FieldType.boolean), Jvm.Cond.code ({ cls := "RoomPlanner", name := "endOf", desc := "(II)I" } : Jvm.MethodName) prog_1_method_34_code (4 : Nat) (Option.some Jvm.ClassFile.FieldType.int), Jvm.Cond.code ({ cls := "RoomPlanner", name := "nightFits", desc := "(III)Z" } : Jvm.MethodName) prog_1_method_43_code (8 : Nat) (Option.some Jvm.ClassFile.FieldType.boolean), Jvm.Cond.code ({ cls := "RoomPlanner", name := "atLeastAt", desc := "(II)I" } : Jvm.MethodName) prog_1_method_38_code (3 : Nat) (Option.some Jvm.ClassFile.FieldType.int), Jvm.Cond.code ({ cls := "RoomPlanner", name := "countIndex", desc := "(II)I" } : Jvm.MethodName) prog_1_method_36_code (3 : Nat) (Option.some Jvm.ClassFile.FieldType.int), Jvm.Cond.code ({ cls := "RoomPlanner", name := "exclusion", desc := "(III)I" } : Jvm.MethodName) prog_1_method_42_code (4 : Nat) (Option.some Jvm.ClassFile.FieldType.int), Jvm.Cond.code ({ cls := "RoomPlanner", name := "lowestInactiveSlot", desc := "()I" } : Jvm.MethodName) prog_1_method_29_code (2 : Nat) (Option.some Jvm.ClassFile.FieldType.int), Jvm.Cond.code ({ cls := "RoomPlanner", name := "activateStay", desc := "(IIII)V" } : Jvm.MethodName) prog_1_method_31_code (5 : Nat) (Option.none : Option Jvm.ClassFile.FieldType), Jvm.Cond.code ({ cls := "RoomPlanner", name := "storeStay", desc := "(IIII)V" } : Jvm.MethodName) prog_1_method_30_code (5 : Nat) (Option.none : Option Jvm.ClassFile.FieldType), Jvm.Cond.code ({ cls := "RoomPlanner", name := "adjustCoverage", desc := "(II)V" } : Jvm.MethodName) prog_1_method_39_code (8 : Nat) (Option.none : Option Jvm.ClassFile.FieldType), Jvm.Cond.code ({ cls := "RoomPlanner", name := "discardPlan", desc := "()V" } : Jvm.MethodName) prog_1_method_46_code (1 : Nat) (Option.none : Option Jvm.ClassFile.FieldType), Jvm.Cond.code ({ cls := "RoomPlanner", name := "stayArrive", desc := "(I)I" } : Jvm.MethodName) prog_1_method_10_code (2 : Nat) (Option.some Jvm.ClassFile.FieldType.int), Jvm.Cond.code ({ cls := "RoomPlanner", name := "stayNights", desc := "(I)I" } : Jvm.MethodName) prog_1_method_11_code (2 : Nat) (Option.some Jvm.ClassFile.FieldType.int), Jvm.Cond.code ({ cls := "RoomPlanner", name := "isAssigned", desc := "()Z" } : Jvm.MethodName) prog_1_method_14_code (1 : Nat) (Option.some Jvm.ClassFile.FieldType.boolean), Jvm.Cond.code ({ cls := "RoomPlanner", name := "cancel", desc := "(I)I" } : Jvm.MethodName) prog_1_method_4_code (2 : Nat) (Option.some Jvm.ClassFile.FieldType.int), Jvm.Cond.code ({ cls := "RoomPlanner", name := "deactivateStay", desc := "(I)V" } : Jvm.MethodName) prog_1_method_32_code (2 : Nat) (Option.none : Option Jvm.ClassFile.FieldType), Jvm.Cond.code ({ cls := "RoomPlanner", name := "assign", desc := "()I" } : Jvm.MethodName) prog_1_method_13_code (5 : Nat) (Option.some Jvm.ClassFile.FieldType.int), Jvm.Cond.code ({ cls := "RoomPlanner", name := "buildOrder", desc := "()V" } : Jvm.MethodName) prog_1_method_50_code (3 : Nat) (Option.none : Option Jvm.ClassFile.FieldType), Jvm.Cond.code ({ cls := "RoomPlanner", name := "occupant", desc := "(II)I" } : Jvm.MethodName) prog_1_method_16_code (3 : Nat) (Option.some Jvm.ClassFile.FieldType.int), Jvm.Cond.code ({ cls := "RoomPlanner", name := "isValidRoom", desc := "(I)Z" } : Jvm.MethodName) prog_1_method_20_code (2 : Nat) (Option.some Jvm.ClassFile.FieldType.boolean), Jvm.Cond.code ({ cls := "RoomPlanner", name := "gridAt", desc := "(II)I" } : Jvm.MethodName) prog_1_method_49_code (3 : Nat) (Option.some Jvm.ClassFile.FieldType.int), Jvm.Cond.code ({ cls := "RoomPlanner", name := "gridIndex", desc := "(II)I" } : Jvm.MethodName) prog_1_method_48_code (3 : Nat) (Option.some Jvm.ClassFile.FieldType.int), Jvm.Cond.code ({ cls := "RoomPlanner", name := "amend", desc := "(IIII)I" } : Jvm.MethodName) prog_1_method_3_code (6 : Nat) (Option.some Jvm.ClassFile.FieldType.int), Jvm.Cond.code ({ cls := "RoomPlanner", name := "appendToOrder", desc := "(I)V" } : Jvm.MethodName) prog_1_method_51_code (2 : Nat) (Option.none : Option Jvm.ClassFile.FieldType), Jvm.Cond.code ({ cls := "RoomPlanner", name := "placeStay", desc := "(I)Z" } : Jvm.MethodName) prog_1_method_52_code (6 : Nat) (Option.some Jvm.ClassFile.FieldType.boolean), Jvm.Cond.code ({ cls := "RoomPlanner", name := "roomIsFree", desc := "(III)Z" } : Jvm.MethodName) prog_1_method_53_code (6 : Nat) (Option.some Jvm.ClassFile.FieldType.boolean), Jvm.Cond.code ({ cls := "RoomPlanner", name := "markRoom", desc := "(IIII)V" } : Jvm.MethodName) prog_1_method_54_code (7 : Nat) (Option.none : Option Jvm.ClassFile.FieldType), Jvm.Cond.code ({ cls := "RoomPlanner", name := "roomOf", desc := "(I)I" } : Jvm.MethodName) prog_1_method_15_code (2 : Nat) (Option.some Jvm.ClassFile.FieldType.int), Jvm.Cond.code ({ cls := "RoomPlanner", name := "roomType", desc := "(I)I" } : Jvm.MethodName) prog_1_method_17_code (2 : Nat) (Option.some Jvm.ClassFile.FieldType.int), Jvm.Cond.code ({ cls := "RoomPlanner", name := "roomTypeOf", desc := "(I)I" } : Jvm.MethodName) prog_1_method_21_code (2 : Nat) (Option.some Jvm.ClassFile.FieldType.int), Jvm.Cond.code ({ cls := "RoomPlannerOwnLaw", name := "overlap", desc := "(IIII)Z" } : Jvm.MethodName) method_6_code (4 : Nat) (Option.some Jvm.ClassFile.FieldType.boolean), Jvm.Cond.code ({ cls := "RoomPlanner", name := "coversNight", desc := "(II)Z" } : Jvm.MethodName) prog_1_method_33_code (4 : Nat) (Option.some Jvm.ClassFile.FieldType.boolean)]
set_option maxRecDepth 65536 in
theorem codes_eq : words1.filter isCode = codes1 := rfl
theorem w_codes : ∀ c ∈ words1.filter isCode, c.before args0 about1 = true := by
  rw [codes_eq]
  intro c hc
  simp only [codes1, List.mem_cons, List.not_mem_nil, or_false] at hc
  rcases hc with rfl | rfl | rfl | rfl | rfl | rfl | rfl | rfl | rfl | rfl | rfl | rfl | rfl | rfl | rfl | rfl | rfl | rfl | rfl | rfl | rfl | rfl | rfl | rfl | rfl | rfl | rfl | rfl | rfl | rfl | rfl | rfl | rfl | rfl | rfl | rfl | rfl | rfl | rfl | rfl | rfl | rfl | rfl | rfl | rfl | rfl | rfl | rfl | rfl | rfl | rfl
  · exact w_c0
  · exact w_c1
  · exact w_c2
  · exact w_c3
  · exact w_c4
  · exact w_c5
  · exact w_c6
  · exact w_c7
  · exact w_c8
  · exact w_c9
  · exact w_c10
  · exact w_c11
  · exact w_c12
  · exact w_c13
  · exact w_c14
  · exact w_c15
  · exact w_c16
  · exact w_c17
  · exact w_c18
  · exact w_c19
  · exact w_c20
  · exact w_c21
  · exact w_c22
  · exact w_c23
  · exact w_c24
  · exact w_c25
  · exact w_c26
  · exact w_c27
  · exact w_c28
  · exact w_c29
  · exact w_c30
  · exact w_c31
  · exact w_c32
  · exact w_c33
  · exact w_c34
  · exact w_c35
  · exact w_c36
  · exact w_c37
  · exact w_c38
  · exact w_c39
  · exact w_c40
  · exact w_c41
  · exact w_c42
  · exact w_c43
  · exact w_c44
  · exact w_c45
  · exact w_c46
  · exact w_c47
  · exact w_c48
  · exact w_c49
  · exact w_c50
set_option maxRecDepth 65536 in
theorem w_t1 : (words1.take 24).all (fun c => isCode c || c.before args0 about1) = true := by decide +kernel
set_option maxRecDepth 65536 in
theorem w_t2 : ((words1.drop 24).take 24).all (fun c => isCode c || c.before args0 about1) = true := by decide +kernel
set_option maxRecDepth 65536 in
theorem w_t3 : (((words1.drop 24).drop 24).take 24).all (fun c => isCode c || c.before args0 about1) = true := by decide +kernel
set_option maxRecDepth 65536 in
theorem w_t4 : ((((words1.drop 24).drop 24).drop 24).take 24).all (fun c => isCode c || c.before args0 about1) = true := by decide +kernel
set_option maxRecDepth 65536 in
theorem w_t5 : (((((words1.drop 24).drop 24).drop 24).drop 24).take 24).all (fun c => isCode c || c.before args0 about1) = true := by decide +kernel
set_option maxRecDepth 65536 in
theorem w_t6 : ((((((words1.drop 24).drop 24).drop 24).drop 24).drop 24).take 24).all (fun c => isCode c || c.before args0 about1) = true := by decide +kernel
set_option maxRecDepth 65536 in
theorem w_t7 : (((((((words1.drop 24).drop 24).drop 24).drop 24).drop 24).drop 24).take 24).all (fun c => isCode c || c.before args0 about1) = true := by decide +kernel
set_option maxRecDepth 65536 in
theorem w_t8 : ((((((((words1.drop 24).drop 24).drop 24).drop 24).drop 24).drop 24).drop 24).take 24).all (fun c => isCode c || c.before args0 about1) = true := by decide +kernel
set_option maxRecDepth 65536 in
theorem w_t9 : (((((((((words1.drop 24).drop 24).drop 24).drop 24).drop 24).drop 24).drop 24).drop 24).take 24).all (fun c => isCode c || c.before args0 about1) = true := by decide +kernel
set_option maxRecDepth 65536 in
theorem w_t10 : ((((((((((words1.drop 24).drop 24).drop 24).drop 24).drop 24).drop 24).drop 24).drop 24).drop 24).take 24).all (fun c => isCode c || c.before args0 about1) = true := by decide +kernel
set_option maxRecDepth 65536 in
theorem w_t11 : ((((((((((words1.drop 24).drop 24).drop 24).drop 24).drop 24).drop 24).drop 24).drop 24).drop 24).drop 24).all (fun c => isCode c || c.before args0 about1) = true := by decide +kernel
theorem w_tables : (allAtoms (Jvm.Cond.code x code maxLocals ret :: tables_1)).before args0 about1 = true := by
  rw [allAtoms_all]
  show words1.all (fun c => c.before args0 about1) = true
  refine all_split ?_ w_codes
  rw [← List.take_append_drop 24 words1, List.all_append, w_t1, ← List.take_append_drop 24 (words1.drop 24), List.all_append, w_t2, ← List.take_append_drop 24 ((words1.drop 24).drop 24), List.all_append, w_t3, ← List.take_append_drop 24 (((words1.drop 24).drop 24).drop 24), List.all_append, w_t4, ← List.take_append_drop 24 ((((words1.drop 24).drop 24).drop 24).drop 24), List.all_append, w_t5, ← List.take_append_drop 24 (((((words1.drop 24).drop 24).drop 24).drop 24).drop 24), List.all_append, w_t6, ← List.take_append_drop 24 ((((((words1.drop 24).drop 24).drop 24).drop 24).drop 24).drop 24), List.all_append, w_t7, ← List.take_append_drop 24 (((((((words1.drop 24).drop 24).drop 24).drop 24).drop 24).drop 24).drop 24), List.all_append, w_t8, ← List.take_append_drop 24 ((((((((words1.drop 24).drop 24).drop 24).drop 24).drop 24).drop 24).drop 24).drop 24), List.all_append, w_t9, ← List.take_append_drop 24 (((((((((words1.drop 24).drop 24).drop 24).drop 24).drop 24).drop 24).drop 24).drop 24).drop 24), List.all_append, w_t10, w_t11]
  rfl
set_option maxRecDepth 65536 in
theorem w_rest : rest_1_c.before args0 about1 = true := by decide +kernel
set_option maxRecDepth 65536 in
theorem w_case : (Jvm.Cond.and given_1 narrow_1).before args0 about1 = true := by decide +kernel
theorem w_applies : (headSpec (Jvm.Cond.code x code maxLocals ret :: tables_1) room_1).applies x e0.platform about1 = true :=
  (Spec.applies_iff w_frames).mpr ⟨w_running, w_runnable, w_alone, w_named, w_hears, w_ripe, w_room, w_tables⟩
theorem atStart : AtStart classFile x code maxLocals ret World_1 tables_1 room_1 Calls_1 rest_1 Pre_1 launch0 p0 e0 about1 theMethod args0 below0 :=
  ⟨lists_1, trivial, launch0.admits_env _ _ _, launch0.least_env, fairChoices_fair.cas, fairChoices_fair.clock, w_frames, w_args, w_heap, w_applies, trivial, w_rest, w_case⟩
end start1
theorem witness_1 : WitnessClaimed_1 := ⟨start1.p0, start1.e0, start1.about1, start1.theMethod, start1.args0, start1.below0, start1.atStart⟩
end Jvm.Pilot.@@N@@
