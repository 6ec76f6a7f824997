import JvmDerived
import JvmDerived.Pilot.@@N@@Statement
import JvmDerived.Pilot.@@N@@Code
set_option linter.unusedVariables false
set_option linter.unusedSimpArgs false
namespace Jvm.Own
open Jvm Jvm.ClassFile Sem Op Lib Jvm.Free Jvm.Stand Jvm.LawKit Jvm.RoadKit Bundle

/-! A plain machine: the few instructions that these classes use, over a heap of plain lists. -/
/-- an object (class number, fields in order) | an int array (false) or boolean array (true) | a long array -/
abbrev ACell := (Nat × List Value) ⊕ ((Bool × List Int32) ⊕ List Int64)
abbrev AHeap := List ACell
/-- instruction, length, variables forgotten ahead of it, link number, constant -/
abbrev It := Instr × Nat × List Bool × Nat × Int
/-- a field: name, descriptor, type, final -/
abbrev FD := String × String × FieldType × Bool
/-- a class: name, number of its slots, its fields -/
abbrev CD := String × Nat × List FD
/-- a method: name, bytes, variables, return type; kind (0 static, 1 constructor, 2 private, 3 virtual), parameters, class number, frames, words; code -/
abbrev MD := MethodName × ByteArray × Nat × Option FieldType × Nat × Nat × Nat × Nat × Nat × List (Nat × It)
/-- classes, methods, number of cells that are only read -/
abbrev PD := List CD × List MD × Nat
abbrev PD.cls (P : PD) : List CD := P.1
abbrev PD.mth (P : PD) : List MD := P.2.1
abbrev PD.nr (P : PD) : Nat := P.2.2
abbrev MD.name (d : MD) : MethodName := d.1
abbrev MD.bytes (d : MD) : ByteArray := d.2.1
abbrev MD.maxL (d : MD) : Nat := d.2.2.1
abbrev MD.ret (d : MD) : Option FieldType := d.2.2.2.1
abbrev MD.kind (d : MD) : Nat := d.2.2.2.2.1
abbrev MD.npar (d : MD) : Nat := d.2.2.2.2.2.1
abbrev MD.cid (d : MD) : Nat := d.2.2.2.2.2.2.1
abbrev MD.rf (d : MD) : Nat := d.2.2.2.2.2.2.2.1
abbrev MD.rw (d : MD) : Nat := d.2.2.2.2.2.2.2.2.1
abbrev MD.code (d : MD) : List (Nat × It) := d.2.2.2.2.2.2.2.2.2

def rdA {α : Type} (L : List α) (j : Int32) : Option α := if j < 0 then none else L[j.toNatClampNeg]?
def wrA {α : Type} (L : List α) (j : Int32) (x : α) : Option (List α) := if j < 0 then none else if j.toNatClampNeg < L.length then some (L.set j.toNatClampNeg x) else none
def getL (L : List Slot) (k : Nat) : Option Value := match L[k]? with | some (.val v) => some v | _ => none
def isC2 : Option Slot → Bool | some (.val v) => v.category == 2 | _ => false
def isSec : Option Slot → Bool | some .second => true | _ => false
def free1 : Option Slot → Bool | some .unset => true | some (.val v) => v.category == 1 | _ => false
def st1 (L : List Slot) (k : Nat) (v : Value) : Option (List Slot) :=
  if free1 L[k]? && (k == 0 || !isC2 L[k - 1]?) && !isSec L[k + 1]? then some (L.set k (.val v)) else none
def free2 : Option Slot → Option Slot → Bool | some .unset, some .unset => true | some (.val v), some .second => v.category == 2 | _, _ => false
def st2 (L : List Slot) (k : Nat) (v : Value) : Option (List Slot) :=
  if free2 L[k]? L[k + 1]? && (k == 0 || !isC2 L[k - 1]?) && !isSec L[k + 2]? then some ((L.set k (.val v)).set (k + 1) .second) else none
def forget : List Bool → List Slot → List Slot
  | [], L => L
  | _ :: _, [] => []
  | true :: r, _ :: L => .unset :: forget r L
  | false :: r, s :: L => s :: forget r L
def catSum : List Value → Nat
  | [] => 0
  | v :: r => v.category + catSum r
def entA : List Value → List Slot
  | [] => []
  | v :: r => if v.category = 2 then .val v :: .second :: entA r else .val v :: entA r
def entL (as : List Value) (n : Nat) : List Slot := entA as ++ List.replicate (n - (entA as).length) .unset
def putOk : FieldType → Value → Bool
  | .int, .int _ => true
  | .long, .long _ => true
  | .boolean, .int x => (x == 0) || (x == 1)
  | .array _, .ref _ => true
  | _, _ => false
def dflt : FieldType → Value
  | .long => .long 0
  | .array _ => .null
  | _ => .int 0
def dfOk : FieldType → Bool
  | .int => true
  | .boolean => true
  | .long => true
  | .array _ => true
  | _ => false
def tgt (pc : Nat) (o : Int) : Option Nat := if 0 ≤ (pc : Int) + o then some ((pc : Int) + o).toNat else none
def fetch : List (Nat × It) → Nat → Option It
  | [], _ => none
  | (q, i) :: r, pc => if q = pc then some i else fetch r pc
/-- one instruction that neither branches nor calls nor returns -/
def xI (P : PD) (ini : Bool) (cid : Nat) (i : Instr) (a : Nat) (b : Int) (L : List Slot) (S : List Value) (H : AHeap) : Option (List Slot × List Value × AHeap) :=
  match i with
  | .aload_n k => match getL L k.val with | some (.ref x) => some (L, .ref x :: S, H) | _ => none
  | .aload k => match getL L k with | some (.ref x) => some (L, .ref x :: S, H) | _ => none
  | .iload_n k => match getL L k.val with | some (.int x) => some (L, .int x :: S, H) | _ => none
  | .iload k => match getL L k with | some (.int x) => some (L, .int x :: S, H) | _ => none
  | .lload_n k => match getL L k.val with | some (.long x) => some (L, .long x :: S, H) | _ => none
  | .lload k => match getL L k with | some (.long x) => some (L, .long x :: S, H) | _ => none
  | .istore_n k => match S with | .int x :: S' => (st1 L k.val (.int x)).map fun L' => (L', S', H) | _ => none
  | .istore k => match S with | .int x :: S' => (st1 L k (.int x)).map fun L' => (L', S', H) | _ => none
  | .astore_n k => match S with | .ref x :: S' => (st1 L k.val (.ref x)).map fun L' => (L', S', H) | _ => none
  | .astore k => match S with | .ref x :: S' => (st1 L k (.ref x)).map fun L' => (L', S', H) | _ => none
  | .lstore_n k => match S with | .long x :: S' => (st2 L k.val (.long x)).map fun L' => (L', S', H) | _ => none
  | .lstore k => match S with | .long x :: S' => (st2 L k (.long x)).map fun L' => (L', S', H) | _ => none
  | .iinc k d => match getL L k with | some (.int x) => (st1 L k (.int (x + Int32.ofInt d))).map fun L' => (L', S, H) | _ => none
  | .iconst d => some (L, .int (Int32.ofInt d) :: S, H)
  | .bipush d => some (L, .int (Int8.ofInt d).toInt32 :: S, H)
  | .sipush d => some (L, .int (Int16.ofInt d).toInt32 :: S, H)
  | .lconst k => some (L, .long (Int64.ofNat k) :: S, H)
  | .ldc _ => some (L, .int (Int32.ofInt b) :: S, H)
  | .ldc2_w _ => some (L, .long (Int64.ofInt b) :: S, H)
  | .iadd => match S with | .int y :: .int x :: S' => some (L, .int (x + y) :: S', H) | _ => none
  | .isub => match S with | .int y :: .int x :: S' => some (L, .int (x - y) :: S', H) | _ => none
  | .imul => match S with | .int y :: .int x :: S' => some (L, .int (x * y) :: S', H) | _ => none
  | .iand => match S with | .int y :: .int x :: S' => some (L, .int (x &&& y) :: S', H) | _ => none
  | .ior => match S with | .int y :: .int x :: S' => some (L, .int (x ||| y) :: S', H) | _ => none
  | .ixor => match S with | .int y :: .int x :: S' => some (L, .int (x ^^^ y) :: S', H) | _ => none
  | .ishl => match S with | .int y :: .int x :: S' => some (L, .int (x <<< (y &&& 31)) :: S', H) | _ => none
  | .ishr => match S with | .int y :: .int x :: S' => some (L, .int (x >>> (y &&& 31)) :: S', H) | _ => none
  | .iushr => match S with | .int y :: .int x :: S' => some (L, .int (XT.ushr x y) :: S', H) | _ => none
  | .idiv => match S with | .int y :: .int x :: S' => if y = 0 then none else some (L, .int (x / y) :: S', H) | _ => none
  | .irem => match S with | .int y :: .int x :: S' => if y = 0 then none else some (L, .int (x % y) :: S', H) | _ => none
  | .ladd => match S with | .long y :: .long x :: S' => some (L, .long (x + y) :: S', H) | _ => none
  | .lsub => match S with | .long y :: .long x :: S' => some (L, .long (x - y) :: S', H) | _ => none
  | .lmul => match S with | .long y :: .long x :: S' => some (L, .long (x * y) :: S', H) | _ => none
  | .land => match S with | .long y :: .long x :: S' => some (L, .long (x &&& y) :: S', H) | _ => none
  | .lor => match S with | .long y :: .long x :: S' => some (L, .long (x ||| y) :: S', H) | _ => none
  | .lxor => match S with | .long y :: .long x :: S' => some (L, .long (x ^^^ y) :: S', H) | _ => none
  | .lshl => match S with | .int y :: .long x :: S' => some (L, .long (x <<< (y.toInt64 &&& 63)) :: S', H) | _ => none
  | .lshr => match S with | .int y :: .long x :: S' => some (L, .long (x >>> (y.toInt64 &&& 63)) :: S', H) | _ => none
  | .lushr => match S with | .int y :: .long x :: S' => some (L, .long (XT.ushrL x y) :: S', H) | _ => none
  | .ldiv => match S with | .long y :: .long x :: S' => if y = 0 then none else some (L, .long (x / y) :: S', H) | _ => none
  | .lrem => match S with | .long y :: .long x :: S' => if y = 0 then none else some (L, .long (x % y) :: S', H) | _ => none
  | .lcmp => match S with | .long y :: .long x :: S' => some (L, .int (XT.cmpL x y) :: S', H) | _ => none
  | .i2l => match S with | .int x :: S' => some (L, .long x.toInt64 :: S', H) | _ => none
  | .l2i => match S with | .long x :: S' => some (L, .int x.toInt32 :: S', H) | _ => none
  | .dup => match S with
    | .int x :: S' => some (L, .int x :: .int x :: S', H)
    | .ref x :: S' => some (L, .ref x :: .ref x :: S', H)
    | _ => none
  | .dup2 => match S with
    | .int x :: .ref y :: S' => some (L, .int x :: .ref y :: .int x :: .ref y :: S', H)
    | .long x :: S' => some (L, .long x :: .long x :: S', H)
    | _ => none
  | .pop => match S with | .int _ :: S' => some (L, S', H) | _ => none
  | .getfield _ => match S with
    | .ref o :: S' => match H[o]? with
      | some (.inl (c, fs)) => if c = cid then match fs[a]? with
        | some (.int x) => some (L, .int x :: S', H)
        | some (.long x) => some (L, .long x :: S', H)
        | some (.ref x) => some (L, .ref x :: S', H)
        | _ => none
        else none
      | _ => none
    | _ => none
  | .putfield _ => match S with
    | v :: .ref o :: S' => match H[o]? with
      | some (.inl (c, fs)) => if c = cid ∧ P.nr ≤ o then match (P.cls[c]?).bind fun cd => cd.2.2[a]? with
        | some (_, _, ty, fin) => if putOk ty v && (!fin || ini) then some (L, S', H.set o (.inl (c, fs.set a v))) else none
        | none => none
        else none
      | _ => none
    | _ => none
  | .iaload => match S with
    | .int j :: .ref o :: S' => match H[o]? with
      | some (.inr (.inl (false, A))) => (rdA A j).map fun x => (L, .int x :: S', H)
      | _ => none
    | _ => none
  | .baload => match S with
    | .int j :: .ref o :: S' => match H[o]? with
      | some (.inr (.inl (true, A))) => (rdA A j).map fun x => (L, .int x :: S', H)
      | _ => none
    | _ => none
  | .laload => match S with
    | .int j :: .ref o :: S' => match H[o]? with
      | some (.inr (.inr A)) => (rdA A j).map fun x => (L, .long x :: S', H)
      | _ => none
    | _ => none
  | .iastore => match S with
    | .int x :: .int j :: .ref o :: S' => match H[o]? with
      | some (.inr (.inl (false, A))) => if P.nr ≤ o then (wrA A j x).map fun A' => (L, S', H.set o (.inr (.inl (false, A')))) else none
      | _ => none
    | _ => none
  | .bastore => match S with
    | .int x :: .int j :: .ref o :: S' => match H[o]? with
      | some (.inr (.inl (true, A))) => if P.nr ≤ o then (wrA A j (x &&& 1)).map fun A' => (L, S', H.set o (.inr (.inl (true, A')))) else none
      | _ => none
    | _ => none
  | .lastore => match S with
    | .long x :: .int j :: .ref o :: S' => match H[o]? with
      | some (.inr (.inr A)) => if P.nr ≤ o then (wrA A j x).map fun A' => (L, S', H.set o (.inr (.inr A'))) else none
      | _ => none
    | _ => none
  | .arraylength => match S with
    | .ref o :: S' => match H[o]? with
      | some (.inr (.inl (_, A))) => some (L, .int A.length.toInt32 :: S', H)
      | _ => none
    | _ => none
  | _ => none
/-- one instruction that makes a cell: how many slots it takes stands last -/
def xN (P : PD) (i : Instr) (a : Nat) (S : List Value) (H : AHeap) : Option (List Value × AHeap × Nat) :=
  match i with
  | .new _ => match P.cls[a]? with
    | some cd => some (.ref H.length :: S, H ++ [.inl (a, cd.2.2.map fun f => dflt f.2.2.1)], cd.2.1)
    | none => none
  | .newarray t => match S with
    | .int n :: S' => if n < 0 ∨ 100000 < n.toNatClampNeg then none else match t with
      | .int => some (.ref H.length :: S', H ++ [.inr (.inl (false, List.replicate n.toNatClampNeg 0))], n.toNatClampNeg)
      | .boolean => some (.ref H.length :: S', H ++ [.inr (.inl (true, List.replicate n.toNatClampNeg 0))], n.toNatClampNeg)
      | .long => some (.ref H.length :: S', H ++ [.inr (.inr (List.replicate n.toNatClampNeg 0))], n.toNatClampNeg)
      | _ => none
    | _ => none
  | _ => none
/-- the words that a call from d to y asks -/
def fitsRoom (d y : MD) (rest : List Value) : Bool := decide (y.rf + 1 ≤ d.rf) && decide (catSum rest + (y.maxL + 11) + y.rw ≤ d.rw)
/-- the arguments of a call, first to last, and what lies under them -/
def argsOf (n : Nat) (S : List Value) : Option (List Value × List Value) := if n ≤ S.length then some ((S.take n).reverse, S.drop n) else none
def recvOk (P : PD) (H : AHeap) (y : MD) (as : List Value) : Bool :=
  if y.kind = 0 then true else match as with
    | .ref o :: _ => match H[o]? with
      | some (.inl (c, _)) => decide (c = y.cid)
      | _ => false
    | _ => false
def nargs (y : MD) : Nat := if y.kind = 0 then y.npar else y.npar + 1
def invKind (i : Instr) (k : Nat) : Bool := match i with
  | .invokestatic _ => k == 0
  | .invokespecial _ => k == 1
  | .invokevirtual _ => k == 2 || k == 3
  | _ => false
/-- what a method returns of an int on its stack -/
def retV (r : Option FieldType) (x : Int32) : Option Value := match r with
  | some .int => some (.int x)
  | some .boolean => some (.int (x &&& 1))
  | _ => none
def isInv : Instr → Bool
  | .invokestatic _ => true
  | .invokespecial _ => true
  | .invokevirtual _ => true
  | _ => false
def isNew : Instr → Bool
  | .new _ => true
  | .newarray _ => true
  | _ => false
/-- what a run answers: what it returns, the heap, how many cells and slots it has made -/
abbrev Res := Option Value × AHeap × Nat × Nat
def addR (r : Res) (kc ks : Nat) : Res := (r.1, r.2.1, r.2.2.1 + kc, r.2.2.2 + ks)
/-- n instructions at the most, from pc of method mi to its return -/
def exe (P : PD) : Nat → Nat → Nat → List Slot → List Value → AHeap → Option Res
  | 0, _, _, _, _, _ => none
  | n + 1, mi, pc, L0, S, H => match P.mth[mi]? with
    | none => none
    | some d => match fetch d.code pc with
      | none => none
      | some (i, len, er, a, b) =>
        let L := forget er L0
        match i with
        | .goto o => match tgt pc o with
          | some q => exe P n mi q L S H
          | none => none
        | .if_icmp cd o => match S with
          | .int y :: .int x :: S' => if if_icmp.holds cd x y = true then match tgt pc o with
              | some q => exe P n mi q L S' H
              | none => none
            else exe P n mi (pc + 3) L S' H
          | _ => none
        | .ifCond cd o => match S with
          | .int x :: S' => if ifCond.holds cd x = true then match tgt pc o with
              | some q => exe P n mi q L S' H
              | none => none
            else exe P n mi (pc + 3) L S' H
          | _ => none
        | .ifnonnull o => match S with
          | .ref _ :: S' => match tgt pc o with
            | some q => exe P n mi q L S' H
            | none => none
          | _ => none
        | .ireturn => match S with
          | [.int x] => match retV d.ret x with
            | some v => some (some v, H, 0, 0)
            | none => none
          | _ => none
        | .lreturn => match S with
          | [.long x] => if d.ret = some .long then some (some (.long x), H, 0, 0) else none
          | _ => none
        | .return_ => match S with
          | [] => if d.ret = none then some (none, H, 0, 0) else none
          | _ => none
        | i => if isInv i = true then
            if b = -1 then match i, S with
              | .invokespecial _, .ref _ :: S' => if 1 ≤ d.rf ∧ catSum S' + 12 ≤ d.rw then exe P n mi (pc + 3) L S' H else none
              | _, _ => none
            else match P.mth[a]? with
              | none => none
              | some y => match argsOf (nargs y) S with
                | none => none
                | some (as, rest) =>
                  if decide (0 < a) && invKind i y.kind && recvOk P H y as && fitsRoom d y rest && decide ((entA as).length ≤ y.maxL) then
                    match exe P n a 0 (entL as y.maxL) [] H with
                    | some (v, H1, kc, ks) => (exe P n mi (pc + 3) L (v.toList ++ rest) H1).map fun r => addR r kc ks
                    | none => none
                  else none
          else if isNew i = true then match xN P i a S H with
            | some (S', H', ks) => (exe P n mi (pc + len) L S' H').map fun r => addR r 1 ks
            | none => none
          else match xI P (d.name.name == "<init>") d.cid i a b L S H with
            | some (L', S', H') => exe P n mi (pc + len) L' S' H'
            | none => none
end Jvm.Own
namespace Jvm.Own
open Jvm Jvm.ClassFile Sem Op Lib Jvm.Free Jvm.Stand Jvm.LawKit Jvm.RoadKit Bundle

/-! The words that the machine's program rests on -/
def fWord (C : String) (f : FD) : Jvm.Cond := if f.2.2.2 then .laysFinal C C f.1 f.2.1 else .lays C C f.1 f.2.1
def cWords (cd : CD) : List Jvm.Cond := .instantiable cd.1 cd.2.1 :: .initialized cd.1 :: cd.2.2.map (fWord cd.1)
def mWords (y : MD) : List Jvm.Cond := .code y.name y.bytes y.maxL y.ret :: .initialized y.name.cls ::
  (if y.kind = 0 then [.static y.name] else if y.kind = 1 then [.instanceMethod y.name] else if y.kind = 2 then [.instanceMethod y.name, .privateMethod y.name]
   else [.declares y.name, .selects y.name.cls y.name y.name, .instanceMethod y.name])
def fieldOf (P : PD) (c a : Nat) : Option FD := (P.cls[c]?).bind fun cd => cd.2.2[a]?
def fLink (P : PD) (d : MD) (k a : Nat) : List Jvm.Cond := match fieldOf P d.cid a with | some f => [.fieldLink d.name.cls k d.name.cls f.1 f.2.1] | none => []
def mLink (P : PD) (d : MD) (k a : Nat) (b : Int) : List Jvm.Cond :=
  if b = -1 then [.methodLink d.name.cls k Lib.objectInit, .instanceMethod Lib.objectInit, .code Lib.objectInit ⟨#[0xb1]⟩ 1 none]
  else match P.mth[a]? with | some y => [.methodLink d.name.cls k y.name] | none => []
def iWords (P : PD) (d : MD) (x : Nat × It) : List Jvm.Cond := match x with
  | (_, .getfield k, _, _, a, _) => fLink P d k a
  | (_, .putfield k, _, _, a, _) => fLink P d k a
  | (_, .ldc k, _, _, _, b) => [.constant d.name.cls k (Int32.ofInt b)]
  | (_, .ldc2_w k, _, _, _, b) => [.constantLong d.name.cls k (Int64.ofInt b)]
  | (_, .new k, _, _, a, _) => match P.cls[a]? with | some cd => [.classLink d.name.cls k cd.1] | none => []
  | (_, .newarray t, _, _, _, _) => [.arrayClass (newarray.typeOf t)]
  | (_, .invokestatic k, _, _, a, b) => mLink P d k a b
  | (_, .invokespecial k, _, _, a, b) => mLink P d k a b
  | (_, .invokevirtual k, _, _, a, b) => mLink P d k a b
  | _ => []
def wordsOf (P : PD) : List Jvm.Cond := P.cls.flatMap cWords ++ (P.mth.drop 1).flatMap mWords ++ P.mth.flatMap fun d => d.code.flatMap (iWords P d)
/-! What can be looked up in the program itself -/
def nodup : List String → Bool
  | [] => true
  | x :: r => !r.contains x && nodup r
def fChk (f : FD) : Bool := decide (parseFieldDescriptor f.2.1 = some f.2.2.1) && dfOk f.2.2.1
def cChk (cd : CD) : Bool := nodup (cd.2.2.map fun f => f.1) && cd.2.2.all fChk
def sigChk (y : MD) : Bool := match parseMethodDescriptor y.name.desc with
  | some g => decide (g.parameters.length = y.npar)
  | none => false
def lenOk (i : Instr) (n : Nat) : Bool := match i with
  | .aload _ | .iload _ | .lload _ | .istore _ | .astore _ | .lstore _ | .bipush _ | .ldc _ | .newarray _ => n == 2
  | .iinc _ _ | .sipush _ | .ldc2_w _ | .getfield _ | .putfield _ | .new _ | .goto _ | .if_icmp _ _ | .ifCond _ _ | .ifnonnull _ | .invokestatic _ | .invokespecial _ | .invokevirtual _ => n == 3
  | _ => n == 1
def codeChk (y : MD) : Bool := y.code.all fun x => decide (decode y.bytes x.1 = .ok (x.2.1, x.2.2.1)) && lenOk x.2.1 x.2.2.1
def clsChk (P : PD) (y : MD) : Bool := match P.cls[y.cid]? with | some cd => cd.1 == y.name.cls | none => y.kind == 0
def mChk (P : PD) (y : MD) : Bool := plainName y.name.cls && sigChk y && codeChk y && clsChk P y && decide (y.name.cls ≠ "java/lang/invoke/MethodHandle") && decide (y.name.cls ≠ "java/lang/invoke/VarHandle") && (y.kind != 1 || (y.name.name == "<init>" && decide (y.ret = none)))
def chk (P : PD) : Bool := P.cls.all cChk && P.mth.all (mChk P)

/-! Plain and real values -/
def VR (ρ : List Addr) : Value → Value → Prop
  | .ref k, w => ∃ a, ρ[k]? = some a ∧ w = .ref a
  | v, w => w = v
def SR (ρ : List Addr) : List Value → List Value → Prop
  | [], ws => ws = []
  | v :: vs, ws => ∃ w ws', ws = w :: ws' ∧ VR ρ v w ∧ SR ρ vs ws'
def OV (ρ : List Addr) : Option Value → Option Value → Prop
  | none, w => w = none
  | some v, w => ∃ u, w = some u ∧ VR ρ v u
def WFc (A : Array Slot) : Prop := (∀ (i : Nat) w, A[i]? = some (.val w) → w.category = 2 → A[i + 1]? = some .second) ∧ ∀ (i : Nat), A[i]? = some .second → ∃ j w, i = j + 1 ∧ A[j]? = some (.val w) ∧ w.category = 2
def SlR (ρ : List Addr) : Slot → Option Slot → Prop
  | .unset, _ => True
  | .second, o => o = some .second
  | .val v, o => ∃ w, VR ρ v w ∧ o = some (.val w)
def LR (ρ : List Addr) (L : List Slot) (A : Array Slot) : Prop := A.size = L.length ∧ WFc A ∧ ∀ (i : Nat) s, L[i]? = some s → SlR ρ s A[i]?
theorem VR.mono {ρ t : List Addr} {v w : Value} (h : VR ρ v w) : VR (ρ ++ t) v w := by
  cases v <;> first | exact h | skip
  obtain ⟨a, h1, h2⟩ := h
  exact ⟨a, by rw [List.getElem?_append_left (List.getElem?_eq_some_iff.mp h1).1]; exact h1, h2⟩
theorem SR.mono {ρ t : List Addr} : ∀ {v w : List Value}, SR ρ v w → SR (ρ ++ t) v w
  | [], _, h => h
  | _ :: _, _, ⟨w, ws, h1, h2, h3⟩ => ⟨w, ws, h1, h2.mono, SR.mono h3⟩
theorem SlR.mono {ρ t : List Addr} {s : Slot} {o : Option Slot} (h : SlR ρ s o) : SlR (ρ ++ t) s o := by
  cases s with
  | unset => trivial
  | second => exact h
  | val v => obtain ⟨w, h1, h2⟩ := h; exact ⟨w, h1.mono, h2⟩
theorem LR.mono {ρ t : List Addr} {L : List Slot} {A : Array Slot} (h : LR ρ L A) : LR (ρ ++ t) L A := ⟨h.1, h.2.1, fun i s q => (h.2.2 i s q).mono⟩
theorem VR.cat {ρ : List Addr} {v w : Value} (h : VR ρ v w) : w.category = v.category := by
  cases v <;> first | (obtain ⟨a, -, rfl⟩ := h; rfl) | (cases h; rfl)
theorem SR.cat {ρ : List Addr} : ∀ {v w : List Value}, SR ρ v w → (w.map fun v => v.category).sum = catSum v
  | [], _, h => by cases h; rfl
  | _ :: _, _, ⟨w, ws, h1, h2, h3⟩ => by subst h1; simp [catSum, h2.cat, SR.cat h3]
theorem SR.len {ρ : List Addr} : ∀ {v w : List Value}, SR ρ v w → w.length = v.length
  | [], _, h => by cases h; rfl
  | _ :: _, _, ⟨w, ws, h1, h2, h3⟩ => by subst h1; simp [SR.len h3]
theorem SR.app {ρ : List Addr} : ∀ {v w v' w' : List Value}, SR ρ v w → SR ρ v' w' → SR ρ (v ++ v') (w ++ w')
  | [], _, _, _, h, h' => by cases h; exact h'
  | _ :: _, _, _, _, ⟨w, ws, h1, h2, h3⟩, h' => by subst h1; exact ⟨w, ws ++ _, rfl, h2, SR.app h3 h'⟩
theorem SR.rev {ρ : List Addr} : ∀ {v w : List Value}, SR ρ v w → SR ρ v.reverse w.reverse
  | [], _, h => by cases h; exact rfl
  | _ :: _, _, ⟨w, ws, h1, h2, h3⟩ => by subst h1; simp only [List.reverse_cons]; exact (SR.rev h3).app ⟨w, [], rfl, h2, rfl⟩
theorem SR.take {ρ : List Addr} : ∀ (n : Nat) {v w : List Value}, SR ρ v w → SR ρ (v.take n) (w.take n)
  | 0, _, _, _ => rfl
  | n + 1, [], _, h => by cases h; exact rfl
  | n + 1, _ :: _, _, ⟨w, ws, h1, h2, h3⟩ => by subst h1; exact ⟨w, _, rfl, h2, SR.take n h3⟩
theorem SR.drop {ρ : List Addr} : ∀ (n : Nat) {v w : List Value}, SR ρ v w → SR ρ (v.drop n) (w.drop n)
  | 0, _, _, h => h
  | n + 1, [], _, h => by cases h; exact rfl
  | n + 1, _ :: _, _, ⟨w, ws, h1, h2, h3⟩ => by subst h1; exact SR.drop n h3
theorem OV.list {ρ : List Addr} {v w : Option Value} (h : OV ρ v w) : SR ρ v.toList w.toList := by
  cases v with
  | none => cases h; exact rfl
  | some v => obtain ⟨u, rfl, h⟩ := h; exact ⟨u, [], rfl, h, rfl⟩
theorem LR.get {ρ : List Addr} {L : List Slot} {A : Array Slot} (h : LR ρ L A) {k : Nat} {v : Value} (g : getL L k = some v) : ∃ w, VR ρ v w ∧ A[k]? = some (.val w) := by
  unfold getL at g
  split at g
  · rename_i u q
    cases g
    exact h.2.2 k _ q
  · cases g
theorem forget_get : ∀ (er : List Bool) (L : List Slot) (i : Nat) (s : Slot), (forget er L)[i]? = some s → s = .unset ∨ L[i]? = some s
  | [], L, i, s, h => Or.inr h
  | _ :: _, [], i, s, h => by simp [forget] at h
  | true :: r, t :: L, 0, s, h => by simp [forget] at h; exact Or.inl h.symm
  | false :: r, t :: L, 0, s, h => by simp [forget] at h; exact Or.inr (by simp [h])
  | true :: r, t :: L, i + 1, s, h => by simp [forget] at h; simpa using forget_get r L i s h
  | false :: r, t :: L, i + 1, s, h => by simp [forget] at h; simpa using forget_get r L i s h
theorem forget_len : ∀ (er : List Bool) (L : List Slot), (forget er L).length = L.length
  | [], _ => rfl
  | _ :: _, [] => rfl
  | true :: r, _ :: L => by simp [forget, forget_len r L]
  | false :: r, _ :: L => by simp [forget, forget_len r L]
theorem LR.forget {ρ : List Addr} {A : Array Slot} (er : List Bool) {L : List Slot} (h : LR ρ L A) : LR ρ (forget er L) A :=
  ⟨by rw [forget_len]; exact h.1, h.2.1, fun i s q => by
    rcases forget_get er L i s q with rfl | z
    · trivial
    · exact h.2.2 i s z⟩
/-! Stores -/
theorem setAt_ok {A : Array Slot} {i : Nat} (h : i < A.size) (x : Slot) : setAt A i x = some (A.setIfInBounds i x) := by simp [setAt, h]
theorem get_set (A : Array Slot) (i j : Nat) (x : Slot) : (A.setIfInBounds i x)[j]? = if i = j then (if i < A.size then some x else none) else A[j]? := by
  rw [Array.getElem?_setIfInBounds]
theorem sl_unset {A : Array Slot} {k : Nat} {w : Value} (h : A[k]? = some .unset) : storeLocals A k w = storeSelf A k w := by
  unfold storeLocals; rw [h]; rfl
theorem sl_second {A : Array Slot} {k : Nat} {w : Value} (h : A[k]? = some .second) (hk : k - 1 < A.size) : storeLocals A k w = storeSelf (A.setIfInBounds (k - 1) .unset) k w := by
  unfold storeLocals; rw [h]
  show (setAt A (k - 1) .unset).bind _ = _
  rw [setAt_ok hk]; rfl
theorem sl_val2 {A : Array Slot} {k : Nat} {w u : Value} (h : A[k]? = some (.val u)) (hu : u.category = 2) (hk : k + 1 < A.size) : storeLocals A k w = storeSelf (A.setIfInBounds (k + 1) .unset) k w := by
  unfold storeLocals; rw [h]
  show (if u.category = 2 then (setAt A (k + 1) .unset).bind _ else _) = _
  rw [if_pos hu, setAt_ok hk]; rfl
theorem sl_val1 {A : Array Slot} {k : Nat} {w u : Value} (h : A[k]? = some (.val u)) (hu : ¬ u.category = 2) : storeLocals A k w = storeSelf A k w := by
  unfold storeLocals; rw [h]
  show (if u.category = 2 then (setAt A (k + 1) .unset).bind _ else _) = _
  rw [if_neg hu]
theorem ss_1 {A : Array Slot} {k : Nat} {w : Value} (hk : k < A.size) (hw : ¬ w.category = 2) : storeSelf A k w = some (A.setIfInBounds k (.val w)) := by
  unfold storeSelf; rw [setAt_ok hk]
  show (if w.category = 2 then _ else _) = _
  rw [if_neg hw]
theorem ss_2c {A : Array Slot} {k : Nat} {w u : Value} (hk : k < A.size) (hk1 : k + 1 < A.size) (hk2 : k + 2 < A.size) (hw : w.category = 2) (h : (A.setIfInBounds k (.val w))[k + 1]? = some (.val u)) (hu : u.category = 2) : storeSelf A k w = some (((A.setIfInBounds k (.val w)).setIfInBounds (k + 2) .unset).setIfInBounds (k + 1) .second) := by
  unfold storeSelf; rw [setAt_ok hk]
  show (if w.category = 2 then _ else _) = _
  rw [if_pos hw, h]
  show (if u.category = 2 then (setAt _ (k + 2) .unset).bind _ else _) = _
  rw [if_pos hu, setAt_ok (by simpa using hk2)]
  exact setAt_ok (by simpa using hk1) _
theorem ss_2 {A : Array Slot} {k : Nat} {w : Value} {o : Slot} (hk : k < A.size) (hk1 : k + 1 < A.size) (hw : w.category = 2) (h : (A.setIfInBounds k (.val w))[k + 1]? = some o) (ho : ¬ ∃ u, o = .val u ∧ u.category = 2) : storeSelf A k w = some ((A.setIfInBounds k (.val w)).setIfInBounds (k + 1) .second) := by
  unfold storeSelf; rw [setAt_ok hk]
  show (if w.category = 2 then _ else _) = _
  rw [if_pos hw, h]
  cases o with
  | unset => exact setAt_ok (by simpa using hk1) _
  | second => exact setAt_ok (by simpa using hk1) _
  | val u =>
    show (if u.category = 2 then _ else _) = _
    rw [if_neg fun z => ho ⟨u, rfl, z⟩]
    exact setAt_ok (by simpa using hk1) _
theorem store1_sim {ρ : List Addr} {L : List Slot} {A : Array Slot} (h : LR ρ L A) {k : Nat} {v w : Value} {L' : List Slot} (hs : st1 L k v = some L') (hv : VR ρ v w) (hc : w.category = 1) : ∃ A', storeLocals A k w = some A' ∧ LR ρ L' A' := by
  unfold st1 at hs
  split at hs
  · rename_i q
    cases hs
    simp only [Bool.and_eq_true] at q
    obtain ⟨⟨q1, q2⟩, q3⟩ := q
    obtain ⟨hA, ⟨w1, w2⟩, hl⟩ := h
    have hk : k < L.length := by
      rcases Nat.lt_or_ge k L.length with z | z
      · exact z
      · rw [List.getElem?_eq_none z] at q1; cases q1
    have hkA : k < A.size := hA ▸ hk
    obtain ⟨sl, hsl⟩ : ∃ sl, A[k]? = some sl := ⟨A[k], Array.getElem?_eq_getElem hkA⟩
    have hc2 : ¬ w.category = 2 := by rw [hc]; decide
    classical
    have key : ∃ A', storeLocals A k w = some A' ∧ A'.size = A.size ∧ (∀ j, A'[j]? = if j = k then some (.val w) else if (sl = .second ∧ j + 1 = k) ∨ ((∃ u, sl = .val u ∧ u.category = 2) ∧ j = k + 1) then some .unset else A[j]?) := by
      cases sl with
      | unset =>
        refine ⟨A.setIfInBounds k (.val w), by rw [sl_unset hsl]; exact ss_1 hkA hc2, by simp, fun j => ?_⟩
        rw [get_set]
        by_cases e : k = j
        · subst e; simp [hkA]
        · have e' : ¬ j = k := fun z => e z.symm
          simp [e, e']
      | second =>
        obtain ⟨j0, u, rfl, g1, g2⟩ := w2 k hsl
        refine ⟨(A.setIfInBounds j0 .unset).setIfInBounds (j0 + 1) (.val w), by rw [sl_second hsl (show j0 + 1 - 1 < A.size by omega)]; exact ss_1 (by simpa using hkA) hc2, by simp, fun j => ?_⟩
        rw [get_set, get_set]
        by_cases e : j0 + 1 = j
        · subst e; simp [hkA]
        · by_cases e2 : j0 = j
          · subst e2; simp; omega
          · have e' : ¬ j = j0 + 1 := fun z => e z.symm
            have e2' : ¬ j = j0 := fun z => e2 z.symm
            simp [e, e', e2, e2']
      | val u =>
        by_cases hu : u.category = 2
        · have g := w1 k u hsl hu
          have hk1 : k + 1 < A.size := (Array.getElem?_eq_some_iff.mp g).1
          refine ⟨(A.setIfInBounds (k + 1) .unset).setIfInBounds k (.val w), by rw [sl_val2 hsl hu hk1]; exact ss_1 (by simpa using hkA) hc2, by simp, fun j => ?_⟩
          rw [get_set, get_set]
          by_cases e : k = j
          · subst e; simp [hkA]
          · have e' : ¬ j = k := fun z => e z.symm
            by_cases e2 : k + 1 = j
            · subst e2; simp [hk1, hu]
            · have e2' : ¬ j = k + 1 := fun z => e2 z.symm
              simp [e, e', e2, e2']
        · refine ⟨A.setIfInBounds k (.val w), by rw [sl_val1 hsl hu]; exact ss_1 hkA hc2, by simp, fun j => ?_⟩
          rw [get_set]
          by_cases e : k = j
          · subst e; simp [hkA]
          · have e' : ¬ j = k := fun z => e z.symm
            simp [e, e', hu]
    obtain ⟨A', k1, k2, k3⟩ := key
    refine ⟨A', k1, by rw [k2, hA]; simp, ⟨fun i u g1 g2 => ?_, fun i g1 => ?_⟩, fun i s g => ?_⟩
    · rw [k3] at g1
      split at g1
      · cases g1; exact absurd g2 hc2
      · rename_i e1
        split at g1
        · cases g1
        · rename_i e2
          have g3 := w1 i u g1 g2
          rw [k3]
          split
          · rename_i e3
            have : sl = .second := by rw [← e3] at hsl; exact Option.some.inj (hsl.symm.trans g3)
            exact absurd (Or.inl ⟨this, e3⟩) e2
          · rename_i e3
            split
            · rename_i e4
              rcases e4 with ⟨z1, z2⟩ | ⟨⟨u', z1, z2⟩, z3⟩
              · exfalso
                have : k = i + 1 + 1 := z2.symm
                subst this
                rw [z1] at hsl
                obtain ⟨j0, u0, y1, y2, y3⟩ := w2 _ hsl
                have : j0 = i + 1 := by omega
                subst this
                rw [g3] at y2; cases y2
              · exact absurd (by omega) e1
            · exact g3
    · rw [k3] at g1
      split at g1
      · cases g1
      · rename_i e1
        split at g1
        · cases g1
        · rename_i e2
          obtain ⟨j, u, z1, z2, z3⟩ := w2 i g1
          refine ⟨j, u, z1, ?_, z3⟩
          rw [k3]
          split
          · rename_i e3
            subst e3
            have : sl = .val u := Option.some.inj (hsl.symm.trans z2)
            exact absurd (Or.inr ⟨⟨u, this, z3⟩, z1⟩) e2
          · split
            · rename_i e3 e4
              rcases e4 with ⟨y1, y2⟩ | ⟨⟨u', y1, y2⟩, y3⟩
              · exact absurd (z1.trans y2) e1
              · subst y3
                have g5 := w1 k u' (y1 ▸ hsl) y2
                rw [z2] at g5; cases g5
            · exact z2
    · rw [List.getElem?_set] at g
      split at g
      · rename_i e
        subst e
        cases g
        exact ⟨w, hv, by rw [k3]; simp⟩
      · rename_i e
        have e' : ¬ i = k := fun z => e z.symm
        have g2 := hl i s g
        rw [k3, if_neg e']
        split
        · rename_i e4
          cases s with
          | unset => trivial
          | second =>
            exfalso
            have g2' : A[i]? = some .second := g2
            rcases e4 with ⟨y1, y2⟩ | ⟨⟨u', y1, y2⟩, y3⟩
            · obtain ⟨j0, u0, x1, x2, x3⟩ := w2 k (y1 ▸ hsl)
              have : i = j0 := by omega
              subst this
              rw [x2] at g2'; cases g2'
            · subst y3
              rw [g] at q3
              simp [isSec] at q3
          | val v0 =>
            exfalso
            obtain ⟨w0, x1, x2⟩ := g2
            rcases e4 with ⟨y1, y2⟩ | ⟨⟨u', y1, y2⟩, y3⟩
            · obtain ⟨j0, u0, z1, z2, z3⟩ := w2 k (y1 ▸ hsl)
              have : i = j0 := by omega
              subst this
              have hw0 : w0 = u0 := by rw [x2] at z2; cases z2; rfl
              have hcat : v0.category = 2 := by rw [← x1.cat, hw0]; exact z3
              subst y2
              have : L[i + 1 - 1]? = some (.val v0) := g
              rw [this] at q2
              simp [isC2, hcat] at q2
            · subst y3
              have g5 := w1 k u' (y1 ▸ hsl) y2
              rw [x2] at g5; cases g5
        · exact g2
  · cases hs
end Jvm.Own
namespace Jvm.Own
open Jvm Jvm.ClassFile Sem Op Lib Jvm.Free Jvm.Stand Jvm.LawKit Jvm.RoadKit Bundle
theorem store2_sim {ρ : List Addr} {L : List Slot} {A : Array Slot} (h : LR ρ L A) {k : Nat} {v w : Value} {L' : List Slot} (hs : st2 L k v = some L') (hv : VR ρ v w) (hc : w.category = 2) : ∃ A', storeLocals A k w = some A' ∧ LR ρ L' A' := by
  unfold st2 at hs
  split at hs
  · rename_i q
    cases hs
    simp only [Bool.and_eq_true] at q
    obtain ⟨⟨q1, q2⟩, q3⟩ := q
    obtain ⟨hA, ⟨w1, w2⟩, hl⟩ := h
    have hk1 : k + 1 < L.length := by
      rcases Nat.lt_or_ge (k + 1) L.length with z | z
      · exact z
      · rw [List.getElem?_eq_none z] at q1
        cases h0 : L[k]? with
        | none => rw [h0] at q1; cases q1
        | some s0 => rw [h0] at q1; cases s0 <;> cases q1
    have hk : k < L.length := by omega
    have hkA : k < A.size := hA ▸ hk
    have hkA1 : k + 1 < A.size := hA ▸ hk1
    obtain ⟨sl, hsl⟩ : ∃ sl, A[k]? = some sl := ⟨A[k], Array.getElem?_eq_getElem hkA⟩
    obtain ⟨sm, hsm⟩ : ∃ sm, A[k + 1]? = some sm := ⟨A[k + 1], Array.getElem?_eq_getElem hkA1⟩
    have n1 : ¬ k = k + 1 := by omega
    have n2 : ¬ k + 2 = k + 1 := by omega
    have n3 : ¬ k + 2 = k := by omega
    classical
    have key : ∃ A', storeLocals A k w = some A' ∧ A'.size = A.size ∧ (∀ j, A'[j]? = if j = k then some (.val w) else if j = k + 1 then some .second else if (sl = .second ∧ j + 1 = k) ∨ ((∃ u, sm = .val u ∧ u.category = 2) ∧ j = k + 2) then some .unset else A[j]?) := by
      by_cases hm : ∃ u, sm = .val u ∧ u.category = 2
      · obtain ⟨u, rfl, hu⟩ := hm
        have g := w1 (k + 1) u hsm hu
        have hk2 : k + 2 < A.size := (Array.getElem?_eq_some_iff.mp g).1
        cases sl with
        | unset =>
          refine ⟨((A.setIfInBounds k (.val w)).setIfInBounds (k + 2) .unset).setIfInBounds (k + 1) .second, ?_, by simp, fun j => ?_⟩
          · rw [sl_unset hsl]; exact ss_2c hkA hkA1 hk2 hc (by rw [get_set, if_neg n1]; exact hsm) hu
          · rw [get_set, get_set, get_set]
            by_cases e0 : j = k
            · subst e0; simp [hkA]
            · by_cases e1 : j = k + 1
              · subst e1; simp [hkA1]
              · by_cases e2 : j = k + 2
                · subst e2; simp [hk2, hu]
                · have e0' : ¬ k = j := fun z => e0 z.symm
                  have e1' : ¬ k + 1 = j := fun z => e1 z.symm
                  have e2' : ¬ k + 2 = j := fun z => e2 z.symm
                  simp [e0, e1, e2, e0', e1', e2']
        | second =>
          obtain ⟨j0, u0, rfl, g1, g2⟩ := w2 k hsl
          have hj0 : j0 < A.size := by omega
          refine ⟨(((A.setIfInBounds j0 .unset).setIfInBounds (j0 + 1) (.val w)).setIfInBounds (j0 + 1 + 2) .unset).setIfInBounds (j0 + 1 + 1) .second, ?_, by simp, fun j => ?_⟩
          · have m1 : ¬ j0 + 1 = j0 + 1 + 1 := by omega
            have m2 : ¬ j0 = j0 + 1 + 1 := by omega
            rw [sl_second hsl (show j0 + 1 - 1 < A.size by omega)]
            exact ss_2c (by simpa using hkA) (by simpa using hkA1) (by simpa using hk2) hc (by rw [get_set, if_neg m1, get_set, if_neg (by omega)]; exact hsm) hu
          · rw [get_set, get_set, get_set, get_set]
            by_cases e0 : j = j0 + 1
            · subst e0; simp [hkA]
            · by_cases e1 : j = j0 + 1 + 1
              · subst e1; simp [hkA1]
              · by_cases e2 : j = j0 + 1 + 2
                · subst e2; simp [hk2, hu]
                · by_cases e3 : j = j0
                  · subst e3
                    rw [if_neg (by omega), if_neg (by omega), if_neg (by omega), if_pos rfl, if_pos hj0, if_neg (by omega), if_neg (by omega), if_pos (Or.inl ⟨rfl, rfl⟩)]
                  · have e0' : ¬ j0 + 1 = j := fun z => e0 z.symm
                    have e1' : ¬ j0 + 1 + 1 = j := fun z => e1 z.symm
                    have e2' : ¬ j0 + 1 + 2 = j := fun z => e2 z.symm
                    have e3' : ¬ j0 = j := fun z => e3 z.symm
                    simp [e0, e1, e2, e3, e0', e1', e2', e3']
        | val u1 =>
          have hu1 : ¬ u1.category = 2 := fun z => by have := w1 k u1 hsl z; rw [hsm] at this; cases this
          refine ⟨((A.setIfInBounds k (.val w)).setIfInBounds (k + 2) .unset).setIfInBounds (k + 1) .second, ?_, by simp, fun j => ?_⟩
          · rw [sl_val1 hsl hu1]; exact ss_2c hkA hkA1 hk2 hc (by rw [get_set, if_neg n1]; exact hsm) hu
          · rw [get_set, get_set, get_set]
            by_cases e0 : j = k
            · subst e0; simp [hkA]
            · by_cases e1 : j = k + 1
              · subst e1; simp [hkA1]
              · by_cases e2 : j = k + 2
                · subst e2; simp [hk2, hu]
                · have e0' : ¬ k = j := fun z => e0 z.symm
                  have e1' : ¬ k + 1 = j := fun z => e1 z.symm
                  have e2' : ¬ k + 2 = j := fun z => e2 z.symm
                  simp [e0, e1, e2, e0', e1', e2']
      · cases sl with
        | unset =>
          refine ⟨(A.setIfInBounds k (.val w)).setIfInBounds (k + 1) .second, ?_, by simp, fun j => ?_⟩
          · rw [sl_unset hsl]; exact ss_2 hkA hkA1 hc (by rw [get_set, if_neg n1]; exact hsm) hm
          · rw [get_set, get_set]
            by_cases e0 : j = k
            · subst e0; simp [hkA]
            · by_cases e1 : j = k + 1
              · subst e1; simp [hkA1]
              · have e0' : ¬ k = j := fun z => e0 z.symm
                have e1' : ¬ k + 1 = j := fun z => e1 z.symm
                simp [e0, e1, e0', e1', hm]
        | second =>
          obtain ⟨j0, u0, rfl, g1, g2⟩ := w2 k hsl
          have hj0 : j0 < A.size := by omega
          have m1 : ¬ j0 + 1 = j0 + 1 + 1 := by omega
          have m2 : ¬ j0 = j0 + 1 + 1 := by omega
          refine ⟨((A.setIfInBounds j0 .unset).setIfInBounds (j0 + 1) (.val w)).setIfInBounds (j0 + 1 + 1) .second, ?_, by simp, fun j => ?_⟩
          · rw [sl_second hsl (show j0 + 1 - 1 < A.size by omega)]
            exact ss_2 (by simpa using hkA) (by simpa using hkA1) hc (by rw [get_set, if_neg m1, get_set, if_neg (by omega)]; exact hsm) hm
          · rw [get_set, get_set, get_set]
            by_cases e0 : j = j0 + 1
            · subst e0; simp [hkA]
            · by_cases e1 : j = j0 + 1 + 1
              · subst e1; simp [hkA1]
              · by_cases e3 : j = j0
                · subst e3
                  rw [if_neg (by omega), if_neg (by omega), if_pos rfl, if_pos hj0, if_neg (by omega), if_neg (by omega), if_pos (Or.inl ⟨rfl, rfl⟩)]
                · have e0' : ¬ j0 + 1 = j := fun z => e0 z.symm
                  have e1' : ¬ j0 + 1 + 1 = j := fun z => e1 z.symm
                  have e3' : ¬ j0 = j := fun z => e3 z.symm
                  simp [e0, e1, e3, e0', e1', e3', hm]
        | val u1 =>
          by_cases hu1 : u1.category = 2
          · refine ⟨((A.setIfInBounds (k + 1) .unset).setIfInBounds k (.val w)).setIfInBounds (k + 1) .second, ?_, by simp, fun j => ?_⟩
            · rw [sl_val2 hsl hu1 hkA1]
              exact ss_2 (o := .unset) (by simpa using hkA) (by simpa using hkA1) hc (by rw [get_set, if_neg n1, get_set, if_pos rfl, if_pos hkA1]) (by rintro ⟨u, z, -⟩; cases z)
            · rw [get_set, get_set, get_set]
              by_cases e0 : j = k
              · subst e0; simp [hkA]
              · by_cases e1 : j = k + 1
                · subst e1; simp [hkA1]
                · have e0' : ¬ k = j := fun z => e0 z.symm
                  have e1' : ¬ k + 1 = j := fun z => e1 z.symm
                  simp [e0, e1, e0', e1', hm]
          · refine ⟨(A.setIfInBounds k (.val w)).setIfInBounds (k + 1) .second, ?_, by simp, fun j => ?_⟩
            · rw [sl_val1 hsl hu1]; exact ss_2 hkA hkA1 hc (by rw [get_set, if_neg n1]; exact hsm) hm
            · rw [get_set, get_set]
              by_cases e0 : j = k
              · subst e0; simp [hkA]
              · by_cases e1 : j = k + 1
                · subst e1; simp [hkA1]
                · have e0' : ¬ k = j := fun z => e0 z.symm
                  have e1' : ¬ k + 1 = j := fun z => e1 z.symm
                  simp [e0, e1, e0', e1', hm]
    obtain ⟨A', k1, k2, k3⟩ := key
    refine ⟨A', k1, by rw [k2, hA]; simp, ⟨fun i u g1 g2 => ?_, fun i g1 => ?_⟩, fun i s g => ?_⟩
    · by_cases e1 : i = k
      · subst e1; rw [k3]; simp
      · have g1' := g1
        rw [k3, if_neg e1] at g1'
        split at g1'
        · cases g1'
        · rename_i e2
          split at g1'
          · cases g1'
          · rename_i e4
            have g3 := w1 i u g1' g2
            rw [k3]
            have c1 : ¬ i + 1 = k := fun e3 => by
              have : sl = .second := by rw [← e3] at hsl; exact Option.some.inj (hsl.symm.trans g3)
              exact e4 (Or.inl ⟨this, e3⟩)
            have c2 : ¬ i + 1 = k + 1 := by omega
            have c3 : ¬ ((sl = .second ∧ i + 1 + 1 = k) ∨ ((∃ u, sm = .val u ∧ u.category = 2) ∧ i + 1 = k + 2)) := fun z => by
              rcases z with ⟨z1, z2⟩ | ⟨z1, z2⟩
              · subst z2
                rw [z1] at hsl
                obtain ⟨j0, u0, y1, y2, y3⟩ := w2 _ hsl
                have : j0 = i + 1 := by omega
                subst this
                rw [g3] at y2; cases y2
              · omega
            rw [if_neg c1, if_neg c2, if_neg c3]
            exact g3
    · rw [k3] at g1
      split at g1
      · cases g1
      · rename_i e1
        split at g1
        · rename_i e2
          exact ⟨k, w, e2, by rw [k3]; simp, hc⟩
        · rename_i e2
          split at g1
          · cases g1
          · rename_i e4
            obtain ⟨j, u, z1, z2, z3⟩ := w2 i g1
            refine ⟨j, u, z1, ?_, z3⟩
            rw [k3]
            have c1 : ¬ j = k := by omega
            have c2 : ¬ j = k + 1 := fun e => by
              subst e
              exact e4 (Or.inr ⟨⟨u, Option.some.inj (hsm.symm.trans z2), z3⟩, by omega⟩)
            have c3 : ¬ ((sl = .second ∧ j + 1 = k) ∨ ((∃ u, sm = .val u ∧ u.category = 2) ∧ j = k + 2)) := fun z => by
              rcases z with ⟨y1, y2⟩ | ⟨⟨u', y1, y2⟩, y3⟩
              · exact e1 (z1.trans y2)
              · subst y3
                have g5 := w1 (k + 1) u' (y1 ▸ hsm) y2
                rw [z2] at g5; cases g5
            rw [if_neg c1, if_neg c2, if_neg c3]
            exact z2
    · rw [List.getElem?_set] at g
      split at g
      · rename_i e
        subst e
        have : k + 1 < (L.set k (.val v)).length := by simp [hk1]
        rw [if_pos this] at g
        cases g
        show A'[k + 1]? = some .second
        rw [k3]; simp
      · rename_i e
        have e' : ¬ i = k + 1 := fun z => e z.symm
        rw [List.getElem?_set] at g
        split at g
        · rename_i e0
          subst e0
          cases g
          exact ⟨w, hv, by rw [k3]; simp⟩
        · rename_i e0
          have e0' : ¬ i = k := fun z => e0 z.symm
          have g2 := hl i s g
          rw [k3, if_neg e0', if_neg e']
          split
          · rename_i e4
            cases s with
            | unset => trivial
            | second =>
              exfalso
              have g2' : A[i]? = some .second := g2
              rcases e4 with ⟨y1, y2⟩ | ⟨⟨u', y1, y2⟩, y3⟩
              · obtain ⟨j0, u0, x1, x2, x3⟩ := w2 k (y1 ▸ hsl)
                have : i = j0 := by omega
                subst this
                rw [x2] at g2'; cases g2'
              · subst y3
                rw [g] at q3
                simp [isSec] at q3
            | val v0 =>
              exfalso
              obtain ⟨w0, x1, x2⟩ := g2
              rcases e4 with ⟨y1, y2⟩ | ⟨⟨u', y1, y2⟩, y3⟩
              · obtain ⟨j0, u0, z1, z2, z3⟩ := w2 k (y1 ▸ hsl)
                have : i = j0 := by omega
                subst this
                have hw0 : w0 = u0 := by rw [x2] at z2; cases z2; rfl
                have hcat : v0.category = 2 := by rw [← x1.cat, hw0]; exact z3
                subst y2
                have : L[i + 1 - 1]? = some (.val v0) := g
                rw [this] at q2
                simp [isC2, hcat] at q2
              · subst y3
                have g5 := w1 (k + 1) u' (y1 ▸ hsm) y2
                rw [x2] at g5; cases g5
          · exact g2
  · cases hs
/-! The frame with which a method is entered -/
theorem entA_app (ws : List Value) : ∀ acc : Array Slot, ws.foldl (fun acc v => if v.category = 2 then (acc.push (.val v)).push .second else acc.push (.val v)) acc = acc ++ (entA ws).toArray := by
  induction ws with
  | nil => intro acc; simp [entA]
  | cons v r ih =>
    intro acc
    rw [List.foldl_cons, ih]
    show _ = acc ++ (if v.category = 2 then .val v :: .second :: entA r else .val v :: entA r).toArray
    by_cases h : v.category = 2
    · rw [if_pos h, if_pos h]; simp
    · rw [if_neg h, if_neg h]; simp
theorem argsToLocals_eq (ws : List Value) (n : Nat) : argsToLocals ws.toArray n = (entL ws n).toArray := by
  unfold argsToLocals entL
  have h := entA_app ws #[]
  simp only [List.foldl_toArray', List.size_toArray] at *
  simp [h]
theorem entA_len {ρ : List Addr} : ∀ {v w : List Value}, SR ρ v w → (entA w).length = (entA v).length
  | [], _, h => by cases h; rfl
  | _ :: _, _, ⟨w, ws, h1, h2, h3⟩ => by
    subst h1
    unfold entA
    rw [h2.cat]
    split <;> simp [entA_len h3]
theorem entA_rel {ρ : List Addr} : ∀ {v w : List Value}, SR ρ v w → ∀ (m i : Nat) (s : Slot), (entA v ++ List.replicate m .unset)[i]? = some s → SlR ρ s (entA w ++ List.replicate m .unset)[i]?
  | [], _, h, m, i, s, q => by
    cases h
    simp only [entA, List.nil_append] at q ⊢
    rw [List.getElem?_replicate] at q
    split at q
    · cases q; trivial
    · cases q
  | v :: vs, _, ⟨w, ws, h1, h2, h3⟩, m, i, s, q => by
    subst h1
    unfold entA at q ⊢
    rw [h2.cat]
    split
    · rename_i c
      rw [if_pos c] at q
      match i, q with
      | 0, q => simp at q; subst q; exact ⟨w, h2, by simp⟩
      | 1, q => simp at q; subst q; simp [SlR]
      | i + 2, q => simp at q ⊢; exact entA_rel h3 m i s q
    · rename_i c
      rw [if_neg c] at q
      match i, q with
      | 0, q => simp at q; subst q; exact ⟨w, h2, by simp⟩
      | i + 1, q => simp at q ⊢; exact entA_rel h3 m i s q
theorem entA_wf : ∀ (ws : List Value) (m : Nat), (∀ (i : Nat) w, (entA ws ++ List.replicate m .unset)[i]? = some (.val w) → w.category = 2 → (entA ws ++ List.replicate m .unset)[i + 1]? = some .second) ∧
    ∀ (i : Nat), (entA ws ++ List.replicate m .unset)[i]? = some .second → ∃ j w, i = j + 1 ∧ (entA ws ++ List.replicate m .unset)[j]? = some (.val w) ∧ w.category = 2
  | [], m => by
    constructor
    · intro i w q
      simp only [entA, List.nil_append, List.getElem?_replicate] at q
      split at q <;> cases q
    · intro i q
      simp only [entA, List.nil_append, List.getElem?_replicate] at q
      split at q <;> cases q
  | v :: vs, m => by
    obtain ⟨h1, h2⟩ := entA_wf vs m
    unfold entA
    split
    · rename_i c
      constructor
      · intro i w q
        match i, q with
        | 0, q => intro _; simp
        | 1, q => simp at q
        | i + 2, q => simp at q ⊢; exact h1 i w q
      · intro i q
        match i, q with
        | 0, q => simp at q
        | 1, q => exact ⟨0, v, rfl, by simp, c⟩
        | i + 2, q =>
          simp at q
          obtain ⟨j, w, e, g1, g2⟩ := h2 i q
          exact ⟨j + 2, w, by omega, by simpa using g1, g2⟩
    · rename_i c
      constructor
      · intro i w q
        match i, q with
        | 0, q => intro z; simp at q; subst q; exact absurd z c
        | i + 1, q => simp at q ⊢; exact h1 i w q
      · intro i q
        match i, q with
        | 0, q => simp at q
        | i + 1, q =>
          simp at q
          obtain ⟨j, w, e, g1, g2⟩ := h2 i q
          exact ⟨j + 1, w, by omega, by simpa using g1, g2⟩
theorem LR.enter {ρ : List Addr} {v w : List Value} (h : SR ρ v w) {n : Nat} (hn : (entA v).length ≤ n) : LR ρ (entL v n) (argsToLocals w.toArray n) ∧ (argsToLocals w.toArray n).size = n := by
  rw [argsToLocals_eq]
  have hl := entA_len h
  refine ⟨⟨by simp [entL, hl], ?_, fun i s q => ?_⟩, by simp [entL, hl]; omega⟩
  · obtain ⟨h1, h2⟩ := entA_wf w (n - (entA w).length)
    exact ⟨fun i u q c => by simpa [entL] using h1 i u (by simpa [entL] using q) c, fun i q => by
      obtain ⟨j, u, e, g1, g2⟩ := h2 i (by simpa [entL] using q)
      exact ⟨j, u, e, by simpa [entL] using g1, g2⟩⟩
  · unfold entL at q ⊢
    rw [hl]
    simpa using entA_rel h _ i s q
end Jvm.Own
namespace Jvm.RoadKit
open Sem ClassFile Op Lib Jvm.Stand Jvm.Free Jvm.LawKit
section New
variable {p : Program} {l : Launch} {e : Env} {R : Room} {s : State} {m : MethodId} {args : Array Value} {below : List Frame} {meth : Method} {c : Code} {T : State} {locs : List Loc} {cells slots : Nat}
theorem retI (X : Stand p l e R s m args below meth c T locs cells slots) (hx : p.tables.exec = Jvm.exec) {pc : Nat} {Ls : Array Slot} {z : Int32} {rest : List Value} (hret : meth.sig.returnType = some .int) (hd : decode c.code pc = .ok (.ireturn, 1)) {fs : List Frame}
    (hl : ∀ (f : JFrame) (acts : List Action), f.method = m → f.locked = none → f.entered = [] → (doReturn e (T.setTop f) acts (some (.int z))).1 = T.setFrames fs) : Steps p.tables e below (T.setTop (mkF m pc Ls (.int z :: rest))) (T.setFrames fs) := by
  have hm' : T.vm.method? m = some meth := X.method'
  have hn : narrow .int (.int z) = .int z := rfl
  show Steps p.tables e below (T.setTop { method := m, pc := pc, locals := Ls, stack := _ :: rest, locked := none }) _
  jvm_step X.here [X.here.top, hx, hd, hm', hret, hn]
  first | (intro acts; rw [hl _ acts rfl rfl rfl]) | rw [hl _ _ rfl rfl rfl]
  exact Steps.refl _
end New
end Jvm.RoadKit
namespace Jvm.Own
open Jvm Jvm.ClassFile Sem Op Lib Jvm.Free Jvm.Stand Jvm.LawKit Jvm.RoadKit Bundle
/-! The plain heap and the real one -/
def tyA (b : Bool) : FieldType := if b then .boolean else .int
def CR (P : PD) (Z : State) (h : Heap) (ρ : List Addr) (a : Addr) : ACell → Prop
  | .inl (c, fs) => ∃ cd, P.cls[c]? = some cd ∧ Exa Z h a cd.1 ∧ fs.length = cd.2.2.length ∧ ∀ (i : Nat) v fd, fs[i]? = some v → cd.2.2[i]? = some fd → ∃ w, VR ρ v w ∧ Fld Z h a cd.1 fd.1 fd.2.1 w
  | .inr (.inl (b, L)) => ∃ cl, Arr Z h a cl (tyA b) ∧ cl.slots.size = L.length ∧ L.length < 2 ^ 31 ∧ ∀ (i : Nat) x, L[i]? = some x → cl.slots[i]? = some (.int x)
  | .inr (.inr L) => ∃ cl, Arr Z h a cl .long ∧ cl.slots.size = L.length ∧ L.length < 2 ^ 31 ∧ ∀ (i : Nat) x, L[i]? = some x → cl.slots[i]? = some (.long x)
def HR (P : PD) (Z : State) (n0 : Nat) (h : Heap) (ρ : List Addr) (H : AHeap) : Prop :=
  n0 ≤ h.size ∧ ρ.length = H.length ∧ (∀ (i j : Nat) a, ρ[i]? = some a → ρ[j]? = some a → i = j) ∧ (∀ (k : Nat) a, ρ[k]? = some a → P.nr ≤ k → n0 ≤ a) ∧ ∀ (k : Nat) a c, ρ[k]? = some a → H[k]? = some c → CR P Z h ρ a c
section Heaps
variable {P : PD} {Z : State} {n0 : Nat} {h h' : Heap} {ρ : List Addr} {H : AHeap} {a : Addr} {k : Nat} {a0 : Array Value}
theorem CR.lt {c : ACell} (q : CR P Z h ρ a c) : a < h.size := by
  match c, q with
  | .inl (_, _), q => obtain ⟨cd, -, E, -⟩ := q; exact E.lt
  | .inr (.inl (_, _)), q => obtain ⟨cl, A, -⟩ := q; exact A.lt
  | .inr (.inr _), q => obtain ⟨cl, A, -⟩ := q; exact A.lt
theorem HR.at (q : HR P Z n0 h ρ H) {c : ACell} (hc : H[k]? = some c) : ∃ a, ρ[k]? = some a ∧ CR P Z h ρ a c := by
  obtain ⟨-, q1, -, -, q4⟩ := q
  have hk : k < ρ.length := by rw [q1]; exact (List.getElem?_eq_some_iff.mp hc).1
  exact ⟨ρ[k], List.getElem?_eq_getElem hk, q4 k _ c (List.getElem?_eq_getElem hk) hc⟩
theorem HR.lt (q : HR P Z n0 h ρ H) (hk : ρ[k]? = some a) : a < h.size := by
  obtain ⟨-, q1, -, -, q4⟩ := q
  have hk' : k < H.length := by rw [← q1]; exact (List.getElem?_eq_some_iff.mp hk).1
  exact (q4 k a _ hk (List.getElem?_eq_getElem hk')).lt
theorem CR.grow {t : List Addr} {c : ACell} (E : Ext h h') (q : CR P Z h ρ a c) : CR P Z h' (ρ ++ t) a c := by
  match c, q with
  | .inl (_, _), ⟨cd, q1, q2, q3, q4⟩ => exact ⟨cd, q1, q2.ext E, q3, fun i v fd g1 g2 => by obtain ⟨w, z1, z2⟩ := q4 i v fd g1 g2; exact ⟨w, z1.mono, z2.ext E⟩⟩
  | .inr (.inl (_, _)), ⟨cl, q1, q2⟩ => exact ⟨cl, q1.ext E, q2⟩
  | .inr (.inr _), ⟨cl, q1, q2⟩ => exact ⟨cl, q1.ext E, q2⟩
theorem HR.push {c : ACell} (q : HR P Z n0 h ρ H) (E : Ext h h') (hc : CR P Z h' (ρ ++ [h.size]) h.size c) : HR P Z n0 h' (ρ ++ [h.size]) (H ++ [c]) := by
  have q0 := q
  obtain ⟨q1, q2, q3, q4, q5⟩ := q
  have old : ∀ (i : Nat) b, (ρ ++ [h.size])[i]? = some b → (ρ[i]? = some b ∧ b < h.size) ∨ (i = ρ.length ∧ b = h.size) := fun i b g => by
    rw [List.getElem?_append] at g
    split at g
    · exact Or.inl ⟨g, q0.lt g⟩
    · rename_i z
      right
      have : i - ρ.length = 0 := by
        rcases Nat.eq_zero_or_pos (i - ρ.length) with y | y
        · exact y
        · rw [List.getElem?_eq_none (by simp; omega)] at g; cases g
      rw [this] at g
      simp at g
      exact ⟨by omega, g.symm⟩
  refine ⟨Nat.le_trans q1 E.1, by simp [q2], fun i j b g1 g2 => ?_, fun i b g1 g2 => ?_, fun i b c' g1 g2 => ?_⟩
  · rcases old i b g1 with ⟨y1, y2⟩ | ⟨y1, y2⟩ <;> rcases old j b g2 with ⟨z1, z2⟩ | ⟨z1, z2⟩
    · exact q3 i j b y1 z1
    · exact absurd (z2 ▸ y2) (Nat.lt_irrefl _)
    · exact absurd (y2 ▸ z2) (Nat.lt_irrefl _)
    · rw [y1, z1]
  · rcases old i b g1 with ⟨y1, y2⟩ | ⟨y1, y2⟩
    · exact q4 i b y1 g2
    · rw [y2]; exact q1
  · rcases old i b g1 with ⟨y1, y2⟩ | ⟨y1, y2⟩
    · have hi : i < H.length := by rw [← q2]; exact (List.getElem?_eq_some_iff.mp y1).1
      rw [List.getElem?_append_left hi] at g2
      exact (q5 i b c' y1 g2).grow E
    · subst y1 y2
      rw [q2] at g2
      simp at g2
      subst g2
      exact hc
theorem CR.other {v : Value} {sl : Nat} {b : Addr} {c : ACell} (W : Wr h h' a sl v) (ne : b ≠ a) (q : CR P Z h ρ b c) : CR P Z h' ρ b c := by
  match c, q with
  | .inl (_, _), ⟨cd, q1, q2, q3, q4⟩ => exact ⟨cd, q1, q2.wr W, q3, fun i v fd g1 g2 => by obtain ⟨w, z1, z2⟩ := q4 i v fd g1 g2; exact ⟨w, z1, z2.other W (Or.inl ne)⟩⟩
  | .inr (.inl (_, _)), ⟨cl, q1, q2⟩ => exact ⟨cl, q1.other W ne, q2⟩
  | .inr (.inr _), ⟨cl, q1, q2⟩ => exact ⟨cl, q1.other W ne, q2⟩
theorem HR.set {v : Value} {sl : Nat} {c : ACell} (q : HR P Z n0 h ρ H) (hk : ρ[k]? = some a) (W : Wr h h' a sl v) (hc : CR P Z h' ρ a c) : HR P Z n0 h' ρ (H.set k c) := by
  obtain ⟨q1, q2, q3, q4, q5⟩ := q
  refine ⟨by rw [W.size]; exact q1, by simp [q2], q3, q4, fun i b c' g1 g2 => ?_⟩
  rw [List.getElem?_set] at g2
  split at g2
  · rename_i e
    subst e
    split at g2
    · cases g2
      rw [hk] at g1; cases g1
      exact hc
    · cases g2
  · rename_i e
    exact (q5 i b c' g1 g2).other W fun z => e (q3 k i a hk (z ▸ g1))
theorem nodup_ne : ∀ {l : List String}, nodup l = true → ∀ {i j : Nat} {x y : String}, l[i]? = some x → l[j]? = some y → i ≠ j → x ≠ y
  | [], _, i, j, x, y, h1, _, _ => by simp at h1
  | z :: r, hn, i, j, x, y, h1, h2, ne => by
    simp only [nodup, Bool.and_eq_true, Bool.not_eq_true', List.contains_eq_mem, decide_eq_false_iff_not] at hn
    match i, j, h1, h2, ne with
    | 0, 0, _, _, ne => exact absurd rfl ne
    | 0, j + 1, h1, h2, _ => simp at h1 h2; subst h1; exact fun e => hn.1 (e ▸ List.mem_of_getElem? h2)
    | i + 1, 0, h1, h2, _ => simp at h1 h2; subst h2; exact fun e => hn.1 (e ▸ List.mem_of_getElem? h1)
    | i + 1, j + 1, h1, h2, ne => simp at h1 h2; exact nodup_ne hn.2 h1 h2 (fun e => ne (by rw [e]))
theorem laid_of {C : String} {f : FD} (w : (fWord C f).before a0 Z = true) : Laid Z a0 C C f.1 f.2.1 := by
  unfold fWord at w
  split at w
  · exact Or.inr w
  · exact Or.inl w
theorem HR.putF {c j : Nat} {fs : List Value} {cd : CD} {fd : FD} {v w : Value} (q : HR P Z n0 h ρ H) (hk : ρ[k]? = some a) (hc : H[k]? = some (.inl (c, fs))) (hcd : P.cls[c]? = some cd) (hfd : cd.2.2[j]? = some fd)
    (hck : cChk cd = true) (hl : ∀ f ∈ cd.2.2, (fWord cd.1 f).before a0 Z = true) (W : Wr h h' a (RoadKit.slotOf Z cd.1 fd.1 fd.2.1) w) (hv : VR ρ v w) : HR P Z n0 h' ρ (H.set k (.inl (c, fs.set j v))) := by
  obtain ⟨a', ha, cr⟩ := q.at hc
  rw [hk] at ha; cases ha
  obtain ⟨cd', q1, q2, q3, q4⟩ := cr
  rw [hcd] at q1; cases q1
  refine q.set hk W ⟨cd, hcd, q2.wr W, by simp [q3], fun i v0 fd' g1 g2 => ?_⟩
  simp only [cChk, Bool.and_eq_true, List.all_eq_true] at hck
  obtain ⟨n1, n2⟩ := hck
  by_cases e : j = i
  · subst e
    rw [hfd] at g2; cases g2
    rw [List.getElem?_set] at g1
    split at g1
    · split at g1
      · cases g1
        rename_i z
        obtain ⟨w0, -, F⟩ := q4 j _ fd (List.getElem?_eq_getElem z) hfd
        exact ⟨w, hv, F.same W⟩
      · cases g1
    · rename_i z; exact absurd rfl z
  · rw [List.getElem?_set_ne e] at g1
    obtain ⟨w0, z1, F⟩ := q4 i v0 fd' g1 g2
    refine ⟨w0, z1, F.other W (Or.inr ?_)⟩
    have m1 := List.mem_of_getElem? hfd
    have m2 := List.mem_of_getElem? g2
    have f1 := n2 fd m1
    have f2 := n2 fd' m2
    simp only [fChk, Bool.and_eq_true, decide_eq_true_eq] at f1 f2
    refine slot_ne (laid_of (hl fd' m2)) (laid_of (hl fd m1)) ?_ f2.1 f1.1
    exact nodup_ne n1 (i := i) (j := j) (by simp [g2]) (by simp [hfd]) (fun z => e z.symm)
theorem HR.wrI {b : Bool} {L : List Int32} {i : Nat} {x : Int32} (q : HR P Z n0 h ρ H) (hk : ρ[k]? = some a) (hc : H[k]? = some (.inr (.inl (b, L)))) (W : Wr h h' a i (.int x)) : HR P Z n0 h' ρ (H.set k (.inr (.inl (b, L.set i x)))) := by
  obtain ⟨a', ha, cr⟩ := q.at hc
  rw [hk] at ha; cases ha
  obtain ⟨cl, A, q2, q3, q4⟩ := cr
  have lt : i < cl.slots.size := by
    obtain ⟨cl', z1, -, z3, -⟩ := W
    rw [A.1] at z1; cases z1
    exact z3
  refine q.set hk W ⟨_, A.same W, by simp [sz_set, q2], by simpa using q3, fun j y g => ?_⟩
  rw [List.getElem?_set] at g
  split at g
  · rename_i e
    subst e
    split at g
    · cases g; simp [Cell.setSlot, lt]
    · cases g
  · rename_i e
    have := q4 j y g
    simp [Cell.setSlot, Array.getElem?_setIfInBounds, e, this]
theorem HR.wrJ {L : List Int64} {i : Nat} {x : Int64} (q : HR P Z n0 h ρ H) (hk : ρ[k]? = some a) (hc : H[k]? = some (.inr (.inr L))) (W : Wr h h' a i (.long x)) : HR P Z n0 h' ρ (H.set k (.inr (.inr (L.set i x)))) := by
  obtain ⟨a', ha, cr⟩ := q.at hc
  rw [hk] at ha; cases ha
  obtain ⟨cl, A, q2, q3, q4⟩ := cr
  have lt : i < cl.slots.size := by
    obtain ⟨cl', z1, -, z3, -⟩ := W
    rw [A.1] at z1; cases z1
    exact z3
  refine q.set hk W ⟨_, A.same W, by simp [sz_set, q2], by simpa using q3, fun j y g => ?_⟩
  rw [List.getElem?_set] at g
  split at g
  · rename_i e
    subst e
    split at g
    · cases g; simp [Cell.setSlot, lt]
    · cases g
  · rename_i e
    have := q4 j y g
    simp [Cell.setSlot, Array.getElem?_setIfInBounds, e, this]
end Heaps
theorem SR.int {ρ : List Addr} {x : Int32} {S Sc : List Value} (h : SR ρ (.int x :: S) Sc) : ∃ Sc', Sc = .int x :: Sc' ∧ SR ρ S Sc' := by
  obtain ⟨w, ws, h1, h2, h3⟩ := h
  exact ⟨ws, by rw [h1, show w = .int x from h2], h3⟩
theorem SR.long {ρ : List Addr} {x : Int64} {S Sc : List Value} (h : SR ρ (.long x :: S) Sc) : ∃ Sc', Sc = .long x :: Sc' ∧ SR ρ S Sc' := by
  obtain ⟨w, ws, h1, h2, h3⟩ := h
  exact ⟨ws, by rw [h1, show w = .long x from h2], h3⟩
theorem SR.ref {ρ : List Addr} {x : Nat} {S Sc : List Value} (h : SR ρ (.ref x :: S) Sc) : ∃ a Sc', ρ[x]? = some a ∧ Sc = .ref a :: Sc' ∧ SR ρ S Sc' := by
  obtain ⟨w, ws, h1, ⟨a, h2, h4⟩, h3⟩ := h
  exact ⟨a, ws, h2, by rw [h1, h4], h3⟩
theorem rdA_spec {α : Type} {L : List α} {j : Int32} {x : α} (h : rdA L j = some x) : ¬ j < 0 ∧ L[j.toNatClampNeg]? = some x := by
  unfold rdA at h
  split at h
  · cases h
  · rename_i q; exact ⟨q, h⟩
theorem wrA_spec {α : Type} {L L' : List α} {j : Int32} {x : α} (h : wrA L j x = some L') : ¬ j < 0 ∧ j.toNatClampNeg < L.length ∧ L' = L.set j.toNatClampNeg x := by
  unfold wrA at h
  split at h
  · cases h
  · rename_i q
    split at h
    · rename_i z; cases h; exact ⟨q, z, rfl⟩
    · cases h
end Jvm.Own
namespace Jvm.Own
open Jvm Jvm.ClassFile Sem Op Lib Jvm.Free Jvm.Stand Jvm.LawKit Jvm.RoadKit Bundle
theorem st1_len {L L' : List Slot} {k : Nat} {v : Value} (h : st1 L k v = some L') : L'.length = L.length := by
  unfold st1 at h
  split at h
  · cases h; simp
  · cases h
theorem st2_len {L L' : List Slot} {k : Nat} {v : Value} (h : st2 L k v = some L') : L'.length = L.length := by
  unfold st2 at h
  split at h
  · cases h; simp
  · cases h
theorem lrem_mod (x y : Int64) : x - (x / y) * y = x % y := by
  apply Int64.toInt_inj.mp
  have h1 := Int64.le_toInt (x % y)
  have h2 := Int64.toInt_lt (x % y)
  rw [Int64.toInt_sub, Int64.toInt_mul, Int64.toInt_div, Int.bmod_mul_bmod, Int.sub_bmod_bmod, Int.mul_comm (x.toInt.tdiv y.toInt), ← Int.tmod_def, ← Int64.toInt_mod]
  exact Int.bmod_eq_of_le_mul_two (by omega) (by omega)
theorem putOk_sim {ρ : List Addr} {ty : FieldType} {v w : Value} (h : putOk ty v = true) (hv : VR ρ v w) : narrow ty w = w ∧ fits ty w = true := by
  cases ty <;> cases v <;> first | (simp [putOk] at h; done) | skip
  · cases hv; exact ⟨rfl, rfl⟩
  · cases hv; exact ⟨rfl, rfl⟩
  · rename_i x
    cases hv
    simp only [putOk, Bool.or_eq_true, beq_iff_eq] at h
    rcases h with rfl | rfl
    · exact ⟨rfl, rfl⟩
    · exact ⟨rfl, rfl⟩
  · obtain ⟨a, -, rfl⟩ := hv; exact ⟨rfl, rfl⟩
theorem dflt_sim {ρ : List Addr} {ty : FieldType} (h : dfOk ty = true) : VR ρ (dflt ty) (defaultValue ty) := by
  cases ty <;> first | (simp [dfOk] at h; done) | exact rfl
theorem fieldOf_spec {P : PD} {c a : Nat} {cd : CD} {f : FD} (h1 : P.cls[c]? = some cd) (h2 : cd.2.2[a]? = some f) : fieldOf P c a = some f := by simp [fieldOf, h1, h2]
theorem in_wordsOf {P : PD} {d : MD} {x : Nat × It} {w : Jvm.Cond} (hd : d ∈ P.mth) (hx : x ∈ d.code) (hw : w ∈ iWords P d x) : w ∈ wordsOf P :=
  List.mem_append_right _ (List.mem_flatMap.mpr ⟨d, hd, List.mem_flatMap.mpr ⟨x, hx, hw⟩⟩)
theorem in_wordsC {P : PD} {cd : CD} {w : Jvm.Cond} (hd : cd ∈ P.cls) (hw : w ∈ cWords cd) : w ∈ wordsOf P :=
  List.mem_append_left _ (List.mem_append_left _ (List.mem_flatMap.mpr ⟨cd, hd, hw⟩))
theorem in_wordsM {P : PD} {y : MD} {j : Nat} {w : Jvm.Cond} (hd : P.mth[j]? = some y) (hj : 0 < j) (hw : w ∈ mWords y) : w ∈ wordsOf P := by
  refine List.mem_append_left _ (List.mem_append_right _ (List.mem_flatMap.mpr ⟨y, ?_, hw⟩))
  have : (P.mth.drop 1)[j - 1]? = some y := by rw [List.getElem?_drop]; rw [show 1 + (j - 1) = j by omega]; exact hd
  exact List.mem_of_getElem? this
theorem fWord_in {cd : CD} {f : FD} (h : f ∈ cd.2.2) : fWord cd.1 f ∈ cWords cd := List.mem_cons_of_mem _ (List.mem_cons_of_mem _ (List.mem_map.mpr ⟨f, h, rfl⟩))
theorem cChk_of {P : PD} (hP : chk P = true) {cd : CD} (h : cd ∈ P.cls) : cChk cd = true := by
  simp only [chk, Bool.and_eq_true, List.all_eq_true] at hP
  exact hP.1 cd h
theorem mChk_of {P : PD} (hP : chk P = true) {d : MD} (h : d ∈ P.mth) : mChk P d = true := by
  simp only [chk, Bool.and_eq_true, List.all_eq_true] at hP
  exact hP.2 d h
theorem cid_of {P : PD} (hP : chk P = true) {d : MD} (h : d ∈ P.mth) {cd : CD} (hc : P.cls[d.cid]? = some cd) : cd.1 = d.name.cls := by
  have := mChk_of hP h
  simp only [mChk, Bool.and_eq_true] at this
  have h4 := this.1.1.1.2
  unfold clsChk at h4
  rw [hc] at h4
  simpa using h4
section Step
variable {P : PD} {Z : State} {n0 : Nat} {a0 : Array Value} {l : Launch} {p : Program} {e : Env} {R : Room} {s : State} {m : MethodId} {args : Array Value} {below : List Frame} {meth : Method} {c : Code} {T : State} {locs : List Loc} {cells slots : Nat} {d : MD}
def Nxt (P : PD) (Z : State) (n0 : Nat) (l : Launch) (p : Program) (e : Env) (R : Room) (s : State) (m : MethodId) (args : Array Value) (below : List Frame) (meth : Method) (c : Code) (T : State) (cells slots : Nat) (ρ : List Addr) (g : JFrame) (pc' : Nat) (L L' : List Slot) (S' : List Value) (H1 : AHeap) : Prop :=
  ∃ T' locs' A' Sc', Stand p l e R s m args below meth c T' locs' cells slots ∧ L'.length = L.length ∧ LR ρ L' A' ∧ SR ρ S' Sc' ∧ HR P Z n0 T'.heap ρ H1 ∧ Fr n0 locs' ∧
    ∀ target, Steps p.tables e below (T'.setTop (mkF m pc' A' Sc')) target → Steps p.tables e below (T.setTop g) target
theorem Nxt.pure {ρ : List Addr} {H : AHeap} {g : JFrame} {pc' : Nat} {L L' : List Slot} {S' Sc' : List Value} {A' : Array Slot} (X : Stand p l e R s m args below meth c T locs cells slots) (hl : L'.length = L.length) (hL : LR ρ L' A') (hS : SR ρ S' Sc') (hH : HR P Z n0 T.heap ρ H) (hF : Fr n0 locs)
    (k : ∀ target, Steps p.tables e below (T.setTop (mkF m pc' A' Sc')) target → Steps p.tables e below (T.setTop g) target) : Nxt P Z n0 l p e R s m args below meth c T cells slots ρ g pc' L L' S' H :=
  ⟨T, locs, A', Sc', X, hl, hL, hS, hH, hF, k⟩
theorem Nxt.mem {ρ : List Addr} {H1 : AHeap} {g : JFrame} {pc' : Nat} {L L' : List Slot} {S' Sc' : List Value} {A' : Array Slot} {T' : State} {locs' : List Loc} (X : Stand p l e R s m args below meth c T' locs' cells slots) (hl : L'.length = L.length) (hL : LR ρ L' A') (hS : SR ρ S' Sc') (hH : HR P Z n0 T'.heap ρ H1) (hF : Fr n0 locs')
    (k : ∀ target, Steps p.tables e below (T'.setTop (mkF m pc' A' Sc')) target → Steps p.tables e below (T.setTop g) target) : Nxt P Z n0 l p e R s m args below meth c T cells slots ρ g pc' L L' S' H1 :=
  ⟨T', locs', A', Sc', X, hl, hL, hS, hH, hF, k⟩
set_option maxHeartbeats 4000000 in
theorem stepX (X : Stand p l e R s m args below meth c T locs cells slots) (hx : p.tables.exec = Jvm.exec) (hZ : Z.Warmed39 s.vm) (hown : s.vm.findClass d.name.cls = some m.cls) (hnm : meth.name = d.name.name) (hP : chk P = true) (hW : ∀ w ∈ wordsOf P, w.before a0 Z = true) (hdm : d ∈ P.mth)
    {pc len a : Nat} {er : List Bool} {b : Int} {i : Instr} (hit : (pc, i, len, er, a, b) ∈ d.code) (hd : decode c.code pc = .ok (i, len)) (hlen : lenOk i len = true) {ρ : List Addr} {L L' : List Slot} {S S' Sc : List Value} {H H1 : AHeap} {A : Array Slot}
    (hL : LR ρ L A) (hS : SR ρ S Sc) (hH : HR P Z n0 T.heap ρ H) (hF : Fr n0 locs) (h : xI P (d.name.name == "<init>") d.cid i a b L S H = some (L', S', H1)) :
    Nxt P Z n0 l p e R s m args below meth c T cells slots ρ (mkF m pc A Sc) (pc + len) L L' S' H1 := by
  have hWi : ∀ w ∈ iWords P d (pc, i, len, er, a, b), w.before a0 Z = true := fun w q => hW w (in_wordsOf hdm hit q)
  cases i with
  | aload_n k =>
    obtain rfl : len = 1 := by simpa [lenOk] using hlen
    simp only [xI] at h
    split at h
    · rename_i x q
      cases h
      obtain ⟨w, hv, hg⟩ := hL.get q
      obtain ⟨ad, h1, rfl⟩ := hv
      exact Nxt.pure X rfl hL ⟨_, _, rfl, ⟨ad, h1, rfl⟩, hS⟩ hH hF (fun t z => XS.aloadN (g := mkF m pc A Sc) X.here hx rfl hd hg rfl z)
    · cases h
  | aload k =>
    obtain rfl : len = 2 := by simpa [lenOk] using hlen
    simp only [xI] at h
    split at h
    · rename_i x q
      cases h
      obtain ⟨w, hv, hg⟩ := hL.get q
      obtain ⟨ad, h1, rfl⟩ := hv
      exact Nxt.pure X rfl hL ⟨_, _, rfl, ⟨ad, h1, rfl⟩, hS⟩ hH hF (fun t z => XS.aload (g := mkF m pc A Sc) X.here hx rfl hd hg rfl z)
    · cases h
  | iload_n k =>
    obtain rfl : len = 1 := by simpa [lenOk] using hlen
    simp only [xI] at h
    split at h
    · rename_i x q
      cases h
      obtain ⟨w, hv, hg⟩ := hL.get q
      obtain rfl : w = .int _ := hv
      exact Nxt.pure X rfl hL ⟨_, _, rfl, rfl, hS⟩ hH hF (fun t z => XS.iloadN (g := mkF m pc A Sc) X.here hx rfl hd hg z)
    · cases h
  | iload k =>
    obtain rfl : len = 2 := by simpa [lenOk] using hlen
    simp only [xI] at h
    split at h
    · rename_i x q
      cases h
      obtain ⟨w, hv, hg⟩ := hL.get q
      obtain rfl : w = .int _ := hv
      exact Nxt.pure X rfl hL ⟨_, _, rfl, rfl, hS⟩ hH hF (fun t z => XS.iload (g := mkF m pc A Sc) X.here hx rfl hd hg z)
    · cases h
  | lload_n k =>
    obtain rfl : len = 1 := by simpa [lenOk] using hlen
    simp only [xI] at h
    split at h
    · rename_i x q
      cases h
      obtain ⟨w, hv, hg⟩ := hL.get q
      obtain rfl : w = .long _ := hv
      exact Nxt.pure X rfl hL ⟨_, _, rfl, rfl, hS⟩ hH hF (fun t z => XT.lloadN (g := mkF m pc A Sc) X.here hx rfl hd hg z)
    · cases h
  | lload k =>
    obtain rfl : len = 2 := by simpa [lenOk] using hlen
    simp only [xI] at h
    split at h
    · rename_i x q
      cases h
      obtain ⟨w, hv, hg⟩ := hL.get q
      obtain rfl : w = .long _ := hv
      exact Nxt.pure X rfl hL ⟨_, _, rfl, rfl, hS⟩ hH hF (fun t z => XT.lload (g := mkF m pc A Sc) X.here hx rfl hd hg z)
    · cases h
  | istore_n k =>
    obtain rfl : len = 1 := by simpa [lenOk] using hlen
    simp only [xI] at h
    split at h
    · rename_i x S0
      obtain ⟨L1, q, e1⟩ := Option.map_eq_some_iff.mp h
      cases e1
      obtain ⟨S2, rfl, h2⟩ := hS.int
      obtain ⟨A', z1, z2⟩ := store1_sim hL q (show VR ρ (.int x) (.int x) from rfl) rfl
      exact Nxt.pure X (st1_len q) z2 h2 hH hF (fun t z => XS.istoreN (g := mkF m pc A _) X.here hx rfl hd rfl z1 z)
    · cases h
  | istore k =>
    obtain rfl : len = 2 := by simpa [lenOk] using hlen
    simp only [xI] at h
    split at h
    · rename_i x S0
      obtain ⟨L1, q, e1⟩ := Option.map_eq_some_iff.mp h
      cases e1
      obtain ⟨S2, rfl, h2⟩ := hS.int
      obtain ⟨A', z1, z2⟩ := store1_sim hL q (show VR ρ (.int x) (.int x) from rfl) rfl
      exact Nxt.pure X (st1_len q) z2 h2 hH hF (fun t z => XS.istore (g := mkF m pc A _) X.here hx rfl hd rfl z1 z)
    · cases h
  | astore_n k =>
    obtain rfl : len = 1 := by simpa [lenOk] using hlen
    simp only [xI] at h
    split at h
    · rename_i x S0
      obtain ⟨L1, q, e1⟩ := Option.map_eq_some_iff.mp h
      cases e1
      obtain ⟨ad, S2, h1, rfl, h2⟩ := hS.ref
      obtain ⟨A', z1, z2⟩ := store1_sim hL q (show VR ρ (.ref x) (.ref ad) from ⟨ad, h1, rfl⟩) rfl
      exact Nxt.pure X (st1_len q) z2 h2 hH hF (fun t z => XS.astoreN (g := mkF m pc A _) X.here hx rfl hd rfl rfl z1 z)
    · cases h
  | astore k =>
    obtain rfl : len = 2 := by simpa [lenOk] using hlen
    simp only [xI] at h
    split at h
    · rename_i x S0
      obtain ⟨L1, q, e1⟩ := Option.map_eq_some_iff.mp h
      cases e1
      obtain ⟨ad, S2, h1, rfl, h2⟩ := hS.ref
      obtain ⟨A', z1, z2⟩ := store1_sim hL q (show VR ρ (.ref x) (.ref ad) from ⟨ad, h1, rfl⟩) rfl
      exact Nxt.pure X (st1_len q) z2 h2 hH hF (fun t z => XS.astore (g := mkF m pc A _) X.here hx rfl hd rfl rfl z1 z)
    · cases h
  | lstore_n k =>
    obtain rfl : len = 1 := by simpa [lenOk] using hlen
    simp only [xI] at h
    split at h
    · rename_i x S0
      obtain ⟨L1, q, e1⟩ := Option.map_eq_some_iff.mp h
      cases e1
      obtain ⟨S2, rfl, h2⟩ := hS.long
      obtain ⟨A', z1, z2⟩ := store2_sim hL q (show VR ρ (.long x) (.long x) from rfl) rfl
      exact Nxt.pure X (st2_len q) z2 h2 hH hF (fun t z => XT.lstoreN (g := mkF m pc A _) X.here hx rfl hd rfl z1 z)
    · cases h
  | lstore k =>
    obtain rfl : len = 2 := by simpa [lenOk] using hlen
    simp only [xI] at h
    split at h
    · rename_i x S0
      obtain ⟨L1, q, e1⟩ := Option.map_eq_some_iff.mp h
      cases e1
      obtain ⟨S2, rfl, h2⟩ := hS.long
      obtain ⟨A', z1, z2⟩ := store2_sim hL q (show VR ρ (.long x) (.long x) from rfl) rfl
      exact Nxt.pure X (st2_len q) z2 h2 hH hF (fun t z => XT.lstore (g := mkF m pc A _) X.here hx rfl hd rfl z1 z)
    · cases h
  | iinc k dd =>
    obtain rfl : len = 3 := by simpa [lenOk] using hlen
    simp only [xI] at h
    split at h
    · rename_i x q0
      obtain ⟨L1, q, e1⟩ := Option.map_eq_some_iff.mp h
      cases e1
      obtain ⟨w, hv, hg⟩ := hL.get q0
      obtain rfl : w = .int _ := hv
      obtain ⟨A', z1, z2⟩ := store1_sim hL q (show VR ρ (.int (x + Int32.ofInt dd)) (.int (x + Int32.ofInt dd)) from rfl) rfl
      exact Nxt.pure X (st1_len q) z2 hS hH hF (fun t z => XS.iinc (g := mkF m pc A Sc) X.here hx rfl hd hg z1 z)
    · cases h
  | iconst v =>
    obtain rfl : len = 1 := by simpa [lenOk] using hlen
    simp only [xI] at h
    cases h
    exact Nxt.pure X rfl hL ⟨_, _, rfl, rfl, hS⟩ hH hF (fun t z => XS.iconst (g := mkF m pc A Sc) X.here hx rfl hd z)
  | bipush v =>
    obtain rfl : len = 2 := by simpa [lenOk] using hlen
    simp only [xI] at h
    cases h
    exact Nxt.pure X rfl hL ⟨_, _, rfl, rfl, hS⟩ hH hF (fun t z => XS.bipush (g := mkF m pc A Sc) X.here hx rfl hd z)
  | sipush v =>
    obtain rfl : len = 3 := by simpa [lenOk] using hlen
    simp only [xI] at h
    cases h
    exact Nxt.pure X rfl hL ⟨_, _, rfl, rfl, hS⟩ hH hF (fun t z => XS.sipush (g := mkF m pc A Sc) X.here hx rfl hd z)
  | lconst v =>
    obtain rfl : len = 1 := by simpa [lenOk] using hlen
    simp only [xI] at h
    cases h
    exact Nxt.pure X rfl hL ⟨_, _, rfl, rfl, hS⟩ hH hF (fun t z => XT.lconst (g := mkF m pc A Sc) X.here hx rfl hd z)
  | ldc k =>
    obtain rfl : len = 2 := by simpa [lenOk] using hlen
    simp only [xI] at h
    cases h
    have w1 := hWi (.constant d.name.cls k (Int32.ofInt b)) (List.mem_singleton.mpr rfl)
    exact Nxt.pure X rfl hL ⟨_, _, rfl, rfl, hS⟩ hH hF (fun t z => X.ldcInt hx hown (mvT hZ w1) (g := mkF m pc A Sc) rfl hd t z)
  | ldc2_w k =>
    obtain rfl : len = 3 := by simpa [lenOk] using hlen
    simp only [xI] at h
    cases h
    have w1 := hWi (.constantLong d.name.cls k (Int64.ofInt b)) (List.mem_singleton.mpr rfl)
    exact Nxt.pure X rfl hL ⟨_, _, rfl, rfl, hS⟩ hH hF (fun t z => X.ldc2Long hx hown (mvT hZ w1) (g := mkF m pc A Sc) rfl hd t z)
  | iadd =>
    obtain rfl : len = 1 := by simpa [lenOk] using hlen
    simp only [xI] at h
    split at h
    · rename_i y x S0
      cases h
      obtain ⟨S1, rfl, h1⟩ := hS.int
      obtain ⟨S2, rfl, h2⟩ := h1.int
      exact Nxt.pure X rfl hL ⟨_, _, rfl, rfl, h2⟩ hH hF (fun t z => XS.iadd (g := mkF m pc A _) X.here hx rfl hd rfl z)
    · cases h
  | isub =>
    obtain rfl : len = 1 := by simpa [lenOk] using hlen
    simp only [xI] at h
    split at h
    · rename_i y x S0
      cases h
      obtain ⟨S1, rfl, h1⟩ := hS.int
      obtain ⟨S2, rfl, h2⟩ := h1.int
      exact Nxt.pure X rfl hL ⟨_, _, rfl, rfl, h2⟩ hH hF (fun t z => XS.isub (g := mkF m pc A _) X.here hx rfl hd rfl z)
    · cases h
  | imul =>
    obtain rfl : len = 1 := by simpa [lenOk] using hlen
    simp only [xI] at h
    split at h
    · rename_i y x S0
      cases h
      obtain ⟨S1, rfl, h1⟩ := hS.int
      obtain ⟨S2, rfl, h2⟩ := h1.int
      exact Nxt.pure X rfl hL ⟨_, _, rfl, rfl, h2⟩ hH hF (fun t z => XS.imul (g := mkF m pc A _) X.here hx rfl hd rfl z)
    · cases h
  | iand =>
    obtain rfl : len = 1 := by simpa [lenOk] using hlen
    simp only [xI] at h
    split at h
    · rename_i y x S0
      cases h
      obtain ⟨S1, rfl, h1⟩ := hS.int
      obtain ⟨S2, rfl, h2⟩ := h1.int
      exact Nxt.pure X rfl hL ⟨_, _, rfl, rfl, h2⟩ hH hF (fun t z => XS.iand (g := mkF m pc A _) X.here hx rfl hd rfl z)
    · cases h
  | ior =>
    obtain rfl : len = 1 := by simpa [lenOk] using hlen
    simp only [xI] at h
    split at h
    · rename_i y x S0
      cases h
      obtain ⟨S1, rfl, h1⟩ := hS.int
      obtain ⟨S2, rfl, h2⟩ := h1.int
      exact Nxt.pure X rfl hL ⟨_, _, rfl, rfl, h2⟩ hH hF (fun t z => XT.ior (g := mkF m pc A _) X.here hx rfl hd rfl z)
    · cases h
  | ixor =>
    obtain rfl : len = 1 := by simpa [lenOk] using hlen
    simp only [xI] at h
    split at h
    · rename_i y x S0
      cases h
      obtain ⟨S1, rfl, h1⟩ := hS.int
      obtain ⟨S2, rfl, h2⟩ := h1.int
      exact Nxt.pure X rfl hL ⟨_, _, rfl, rfl, h2⟩ hH hF (fun t z => XT.ixor (g := mkF m pc A _) X.here hx rfl hd rfl z)
    · cases h
  | ishl =>
    obtain rfl : len = 1 := by simpa [lenOk] using hlen
    simp only [xI] at h
    split at h
    · rename_i y x S0
      cases h
      obtain ⟨S1, rfl, h1⟩ := hS.int
      obtain ⟨S2, rfl, h2⟩ := h1.int
      exact Nxt.pure X rfl hL ⟨_, _, rfl, rfl, h2⟩ hH hF (fun t z => XT.ishl (g := mkF m pc A _) X.here hx rfl hd rfl z)
    · cases h
  | ishr =>
    obtain rfl : len = 1 := by simpa [lenOk] using hlen
    simp only [xI] at h
    split at h
    · rename_i y x S0
      cases h
      obtain ⟨S1, rfl, h1⟩ := hS.int
      obtain ⟨S2, rfl, h2⟩ := h1.int
      exact Nxt.pure X rfl hL ⟨_, _, rfl, rfl, h2⟩ hH hF (fun t z => XT.ishr (g := mkF m pc A _) X.here hx rfl hd rfl z)
    · cases h
  | iushr =>
    obtain rfl : len = 1 := by simpa [lenOk] using hlen
    simp only [xI] at h
    split at h
    · rename_i y x S0
      cases h
      obtain ⟨S1, rfl, h1⟩ := hS.int
      obtain ⟨S2, rfl, h2⟩ := h1.int
      exact Nxt.pure X rfl hL ⟨_, _, rfl, rfl, h2⟩ hH hF (fun t z => XT.iushr (g := mkF m pc A _) X.here hx rfl hd rfl z)
    · cases h
  | ladd =>
    obtain rfl : len = 1 := by simpa [lenOk] using hlen
    simp only [xI] at h
    split at h
    · rename_i y x S0
      cases h
      obtain ⟨S1, rfl, h1⟩ := hS.long
      obtain ⟨S2, rfl, h2⟩ := h1.long
      exact Nxt.pure X rfl hL ⟨_, _, rfl, rfl, h2⟩ hH hF (fun t z => XT.ladd (g := mkF m pc A _) X.here hx rfl hd rfl z)
    · cases h
  | lsub =>
    obtain rfl : len = 1 := by simpa [lenOk] using hlen
    simp only [xI] at h
    split at h
    · rename_i y x S0
      cases h
      obtain ⟨S1, rfl, h1⟩ := hS.long
      obtain ⟨S2, rfl, h2⟩ := h1.long
      exact Nxt.pure X rfl hL ⟨_, _, rfl, rfl, h2⟩ hH hF (fun t z => XT.lsub (g := mkF m pc A _) X.here hx rfl hd rfl z)
    · cases h
  | lmul =>
    obtain rfl : len = 1 := by simpa [lenOk] using hlen
    simp only [xI] at h
    split at h
    · rename_i y x S0
      cases h
      obtain ⟨S1, rfl, h1⟩ := hS.long
      obtain ⟨S2, rfl, h2⟩ := h1.long
      exact Nxt.pure X rfl hL ⟨_, _, rfl, rfl, h2⟩ hH hF (fun t z => XT.lmul (g := mkF m pc A _) X.here hx rfl hd rfl z)
    · cases h
  | land =>
    obtain rfl : len = 1 := by simpa [lenOk] using hlen
    simp only [xI] at h
    split at h
    · rename_i y x S0
      cases h
      obtain ⟨S1, rfl, h1⟩ := hS.long
      obtain ⟨S2, rfl, h2⟩ := h1.long
      exact Nxt.pure X rfl hL ⟨_, _, rfl, rfl, h2⟩ hH hF (fun t z => XT.land (g := mkF m pc A _) X.here hx rfl hd rfl z)
    · cases h
  | lor =>
    obtain rfl : len = 1 := by simpa [lenOk] using hlen
    simp only [xI] at h
    split at h
    · rename_i y x S0
      cases h
      obtain ⟨S1, rfl, h1⟩ := hS.long
      obtain ⟨S2, rfl, h2⟩ := h1.long
      exact Nxt.pure X rfl hL ⟨_, _, rfl, rfl, h2⟩ hH hF (fun t z => XT.lor (g := mkF m pc A _) X.here hx rfl hd rfl z)
    · cases h
  | lxor =>
    obtain rfl : len = 1 := by simpa [lenOk] using hlen
    simp only [xI] at h
    split at h
    · rename_i y x S0
      cases h
      obtain ⟨S1, rfl, h1⟩ := hS.long
      obtain ⟨S2, rfl, h2⟩ := h1.long
      exact Nxt.pure X rfl hL ⟨_, _, rfl, rfl, h2⟩ hH hF (fun t z => XT.lxor (g := mkF m pc A _) X.here hx rfl hd rfl z)
    · cases h
  | lcmp =>
    obtain rfl : len = 1 := by simpa [lenOk] using hlen
    simp only [xI] at h
    split at h
    · rename_i y x S0
      cases h
      obtain ⟨S1, rfl, h1⟩ := hS.long
      obtain ⟨S2, rfl, h2⟩ := h1.long
      exact Nxt.pure X rfl hL ⟨_, _, rfl, rfl, h2⟩ hH hF (fun t z => XT.lcmp (g := mkF m pc A _) X.here hx rfl hd rfl z)
    · cases h
  | lshl =>
    obtain rfl : len = 1 := by simpa [lenOk] using hlen
    simp only [xI] at h
    split at h
    · rename_i y x S0
      cases h
      obtain ⟨S1, rfl, h1⟩ := hS.int
      obtain ⟨S2, rfl, h2⟩ := h1.long
      exact Nxt.pure X rfl hL ⟨_, _, rfl, rfl, h2⟩ hH hF (fun t z => XT.lshl (g := mkF m pc A _) X.here hx rfl hd rfl z)
    · cases h
  | lshr =>
    obtain rfl : len = 1 := by simpa [lenOk] using hlen
    simp only [xI] at h
    split at h
    · rename_i y x S0
      cases h
      obtain ⟨S1, rfl, h1⟩ := hS.int
      obtain ⟨S2, rfl, h2⟩ := h1.long
      exact Nxt.pure X rfl hL ⟨_, _, rfl, rfl, h2⟩ hH hF (fun t z => XT.lshr (g := mkF m pc A _) X.here hx rfl hd rfl z)
    · cases h
  | lushr =>
    obtain rfl : len = 1 := by simpa [lenOk] using hlen
    simp only [xI] at h
    split at h
    · rename_i y x S0
      cases h
      obtain ⟨S1, rfl, h1⟩ := hS.int
      obtain ⟨S2, rfl, h2⟩ := h1.long
      exact Nxt.pure X rfl hL ⟨_, _, rfl, rfl, h2⟩ hH hF (fun t z => XT.lushr (g := mkF m pc A _) X.here hx rfl hd rfl z)
    · cases h
  | idiv =>
    obtain rfl : len = 1 := by simpa [lenOk] using hlen
    simp only [xI] at h
    split at h
    · rename_i y x S0
      split at h
      · cases h
      · rename_i hy
        cases h
        obtain ⟨S1, rfl, h1⟩ := hS.int
        obtain ⟨S2, rfl, h2⟩ := h1.int
        exact Nxt.pure X rfl hL ⟨_, _, rfl, rfl, h2⟩ hH hF (fun t z => XS.idiv (g := mkF m pc A _) X.here hx rfl hd rfl hy z)
    · cases h
  | irem =>
    obtain rfl : len = 1 := by simpa [lenOk] using hlen
    simp only [xI] at h
    split at h
    · rename_i y x S0
      split at h
      · cases h
      · rename_i hy
        cases h
        obtain ⟨S1, rfl, h1⟩ := hS.int
        obtain ⟨S2, rfl, h2⟩ := h1.int
        exact Nxt.pure X rfl hL ⟨_, _, rfl, rfl, h2⟩ hH hF (fun t z => iremM (g := mkF m pc A _) X hx rfl hd rfl hy z)
    · cases h
  | ldiv =>
    obtain rfl : len = 1 := by simpa [lenOk] using hlen
    simp only [xI] at h
    split at h
    · rename_i y x S0
      split at h
      · cases h
      · rename_i hy
        cases h
        obtain ⟨S1, rfl, h1⟩ := hS.long
        obtain ⟨S2, rfl, h2⟩ := h1.long
        exact Nxt.pure X rfl hL ⟨_, _, rfl, rfl, h2⟩ hH hF (fun t z => XT.ldiv (g := mkF m pc A _) X.here hx rfl hd rfl hy z)
    · cases h
  | lrem =>
    obtain rfl : len = 1 := by simpa [lenOk] using hlen
    simp only [xI] at h
    split at h
    · rename_i y x S0
      split at h
      · cases h
      · rename_i hy
        cases h
        obtain ⟨S1, rfl, h1⟩ := hS.long
        obtain ⟨S2, rfl, h2⟩ := h1.long
        exact Nxt.pure X rfl hL ⟨_, _, rfl, rfl, h2⟩ hH hF (fun t z => XT.lrem (g := mkF m pc A _) X.here hx rfl hd rfl hy (by rw [lrem_mod]; exact z))
    · cases h
  | i2l =>
    obtain rfl : len = 1 := by simpa [lenOk] using hlen
    simp only [xI] at h
    split at h
    · rename_i x S0
      cases h
      obtain ⟨S1, rfl, h1⟩ := hS.int
      exact Nxt.pure X rfl hL ⟨_, _, rfl, rfl, h1⟩ hH hF (fun t z => XT.i2l (g := mkF m pc A _) X.here hx rfl hd rfl z)
    · cases h
  | l2i =>
    obtain rfl : len = 1 := by simpa [lenOk] using hlen
    simp only [xI] at h
    split at h
    · rename_i x S0
      cases h
      obtain ⟨S1, rfl, h1⟩ := hS.long
      exact Nxt.pure X rfl hL ⟨_, _, rfl, rfl, h1⟩ hH hF (fun t z => XT.l2i (g := mkF m pc A _) X.here hx rfl hd rfl z)
    · cases h
  | dup =>
    obtain rfl : len = 1 := by simpa [lenOk] using hlen
    simp only [xI] at h
    split at h
    · rename_i x S0
      cases h
      obtain ⟨S1, rfl, h1⟩ := hS.int
      exact Nxt.pure X rfl hL ⟨_, _, rfl, rfl, _, _, rfl, rfl, h1⟩ hH hF (fun t z => XS.dup (g := mkF m pc A _) X.here hx rfl hd rfl rfl z)
    · rename_i x S0
      cases h
      obtain ⟨ad, S1, g1, rfl, h1⟩ := hS.ref
      exact Nxt.pure X rfl hL ⟨_, _, rfl, ⟨ad, g1, rfl⟩, _, _, rfl, ⟨ad, g1, rfl⟩, h1⟩ hH hF (fun t z => XS.dup (g := mkF m pc A _) X.here hx rfl hd rfl rfl z)
    · cases h
  | dup2 =>
    obtain rfl : len = 1 := by simpa [lenOk] using hlen
    simp only [xI] at h
    split at h
    · rename_i x y S0
      cases h
      obtain ⟨S1, rfl, h1⟩ := hS.int
      obtain ⟨ad, S2, g1, rfl, h2⟩ := h1.ref
      exact Nxt.pure X rfl hL ⟨_, _, rfl, rfl, _, _, rfl, ⟨ad, g1, rfl⟩, _, _, rfl, rfl, _, _, rfl, ⟨ad, g1, rfl⟩, h2⟩ hH hF (fun t z => XT.dup2 (g := mkF m pc A _) X.here hx rfl hd rfl rfl rfl z)
    · rename_i x S0
      cases h
      obtain ⟨S1, rfl, h1⟩ := hS.long
      exact Nxt.pure X rfl hL ⟨_, _, rfl, rfl, _, _, rfl, rfl, h1⟩ hH hF (fun t z => XT.dup2L (g := mkF m pc A _) X.here hx rfl hd rfl z)
    · cases h
  | pop =>
    obtain rfl : len = 1 := by simpa [lenOk] using hlen
    simp only [xI] at h
    split at h
    · rename_i x S0
      cases h
      obtain ⟨S1, rfl, h1⟩ := hS.int
      exact Nxt.pure X rfl hL h1 hH hF (fun t z => XT.pop (g := mkF m pc A _) X.here hx rfl hd rfl rfl z)
    · cases h
  | getfield k =>
    obtain rfl : len = 3 := by simpa [lenOk] using hlen
    simp only [xI] at h
    split at h
    · rename_i o S0
      obtain ⟨ad, S1, g1, rfl, h1⟩ := hS.ref
      split at h
      · rename_i c0 fs hc0
        split at h
        · rename_i ec
          subst ec
          obtain ⟨ad', g2, cd, q1, q2, q3, q4⟩ := hH.at hc0
          rw [g1] at g2; cases g2
          have hcd := cid_of hP hdm q1
          have core : ∀ v, fs[a]? = some v → ∃ w T2, VR ρ v w ∧ Stand p l e R s m args below meth c T2 locs cells slots ∧ T2.heap = T.heap ∧ ∀ target, Steps p.tables e below (T2.setTop (mkF m (pc + 3) A (w :: S1))) target → Steps p.tables e below (T.setTop (mkF m pc A (.ref ad :: S1))) target := fun v hv => by
            have ha : a < cd.2.2.length := by rw [← q3]; exact (List.getElem?_eq_some_iff.mp hv).1
            obtain ⟨w, hvw, F⟩ := q4 a v _ hv (List.getElem?_eq_getElem ha)
            have w1 := hWi (.fieldLink d.name.cls k d.name.cls cd.2.2[a].1 cd.2.2[a].2.1) (by
              show _ ∈ fLink P d k a
              unfold fLink
              rw [fieldOf_spec q1 (List.getElem?_eq_getElem ha)]
              exact List.mem_singleton.mpr rfl)
            rw [hcd] at F
            obtain ⟨T2, X2, e2, st2⟩ := getF X hx hZ hown (host := "") (Or.inl w1) Via.refl rfl F (g := mkF m pc A (.ref ad :: S1)) rfl rfl hd
            exact ⟨w, T2, hvw, X2, e2, st2⟩
          split at h
          · rename_i x hv
            cases h
            obtain ⟨w, T2, hvw, X2, e2, st2⟩ := core _ hv
            exact Nxt.mem X2 rfl hL ⟨_, _, rfl, hvw, h1⟩ (by rw [e2]; exact hH) hF st2
          · rename_i x hv
            cases h
            obtain ⟨w, T2, hvw, X2, e2, st2⟩ := core _ hv
            exact Nxt.mem X2 rfl hL ⟨_, _, rfl, hvw, h1⟩ (by rw [e2]; exact hH) hF st2
          · rename_i x hv
            cases h
            obtain ⟨w, T2, hvw, X2, e2, st2⟩ := core _ hv
            exact Nxt.mem X2 rfl hL ⟨_, _, rfl, hvw, h1⟩ (by rw [e2]; exact hH) hF st2
          · cases h
        · cases h
      · cases h
    · cases h
  | putfield k =>
    obtain rfl : len = 3 := by simpa [lenOk] using hlen
    simp only [xI] at h
    split at h
    · rename_i v o S0
      obtain ⟨w, Sx, rfl, hvw, hS1⟩ := hS
      obtain ⟨ad, S1, g1, rfl, h1⟩ := hS1.ref
      split at h
      · rename_i c0 fs hc0
        split at h
        · rename_i ec
          obtain ⟨ec, enr⟩ := ec
          subst ec
          split at h
          · rename_i nm ds ty fin hf
            split at h
            · rename_i hok
              cases h
              simp only [Bool.and_eq_true] at hok
              obtain ⟨hok, hfin⟩ := hok
              obtain ⟨ad', g2, cd, q1, q2, q3, q4⟩ := hH.at hc0
              rw [g1] at g2; cases g2
              have hcd := cid_of hP hdm q1
              rw [q1] at hf
              have hf' : cd.2.2[a]? = some (nm, ds, ty, fin) := hf
              have ha : a < fs.length := by rw [q3]; exact (List.getElem?_eq_some_iff.mp hf').1
              obtain ⟨w0, -, F⟩ := q4 a _ _ (List.getElem?_eq_getElem ha) hf'
              have w1 := hWi (.fieldLink d.name.cls k d.name.cls nm ds) (by
                show _ ∈ fLink P d k a
                unfold fLink
                rw [fieldOf_spec q1 hf']
                exact List.mem_singleton.mpr rfl)
              have hcm : cd ∈ P.cls := List.mem_of_getElem? q1
              have w2 := hW _ (in_wordsC hcm (fWord_in (List.mem_of_getElem? hf')))
              have w3 := hW (.instantiable cd.1 cd.2.1) (in_wordsC hcm (List.mem_cons_self ..))
              have hck := cChk_of hP hcm
              have hck' := hck
              simp only [cChk, Bool.and_eq_true, List.all_eq_true] at hck'
              have f1 := hck'.2 _ (List.mem_of_getElem? hf')
              simp only [fChk, Bool.and_eq_true, decide_eq_true_eq] at f1
              obtain ⟨p1, p2⟩ := putOk_sim hok hvw
              have Ly : (Jvm.Cond.lays cd.1 cd.1 nm ds).before a0 Z = true ∨ ((Jvm.Cond.laysFinal cd.1 cd.1 nm ds).before a0 Z = true ∧ d.name.cls = cd.1 ∧ meth.name = "<init>") := by
                unfold fWord at w2
                cases fin with
                | false => exact Or.inl w2
                | true => exact Or.inr ⟨w2, hcd.symm, by rw [hnm]; simpa using hfin⟩
              obtain ⟨T2, h2, X2, e2, W2, st2⟩ := putF X hx hZ hown (host := "") (R0 := d.name.cls) (O := cd.1) (Or.inl w1) (by rw [hcd]; exact Via.refl) rfl F q2 Ly w3 f1.1 p1 p2 (g := mkF m pc A (w :: .ref ad :: S1)) rfl rfl hd
              have hH2 := hH.putF (a0 := a0) g1 hc0 q1 hf' hck (fun f hfm => hW _ (in_wordsC hcm (fWord_in hfm))) W2 hvw
              exact Nxt.mem X2 rfl hL h1 (by rw [e2]; exact hH2) (Fr.snoc X2 hF (hH.2.2.2.1 _ _ g1 enr)) st2
            · cases h
          · cases h
        · cases h
      · cases h
    · cases h
  | iaload =>
    obtain rfl : len = 1 := by simpa [lenOk] using hlen
    simp only [xI] at h
    split at h
    · rename_i j o S0
      obtain ⟨S1, rfl, h1⟩ := hS.int
      obtain ⟨ad, S2, g1, rfl, h2⟩ := h1.ref
      split at h
      · rename_i B hc0
        obtain ⟨x, q, e1⟩ := Option.map_eq_some_iff.mp h
        cases e1
        obtain ⟨hj, hat⟩ := rdA_spec q
        obtain ⟨ad', g2, cl, Ar, z1, z2, z3⟩ := hH.at hc0
        rw [g1] at g2; cases g2
        have hin : ¬ (j < 0 ∨ cl.slots.size ≤ j.toNatClampNeg) := by
          have := (List.getElem?_eq_some_iff.mp hat).1
          rintro (y | y)
          · exact hj y
          · omega
        exact Nxt.pure X rfl hL ⟨_, _, rfl, rfl, h2⟩ hH hF (fun t z => X.iaload hx (j := j) (v := .int x) Ar.1 (State.isArrayOf_alike hZ.alike Ar.2.1) Ar.2.2 hin (z3 _ _ hat) (g := mkF m pc A _) rfl rfl hd t z)
      · cases h
    · cases h
  | baload =>
    obtain rfl : len = 1 := by simpa [lenOk] using hlen
    simp only [xI] at h
    split at h
    · rename_i j o S0
      obtain ⟨S1, rfl, h1⟩ := hS.int
      obtain ⟨ad, S2, g1, rfl, h2⟩ := h1.ref
      split at h
      · rename_i B hc0
        obtain ⟨x, q, e1⟩ := Option.map_eq_some_iff.mp h
        cases e1
        obtain ⟨hj, hat⟩ := rdA_spec q
        obtain ⟨ad', g2, cl, Ar, z1, z2, z3⟩ := hH.at hc0
        rw [g1] at g2; cases g2
        have hin : ¬ (j < 0 ∨ cl.slots.size ≤ j.toNatClampNeg) := by
          have := (List.getElem?_eq_some_iff.mp hat).1
          rintro (y | y)
          · exact hj y
          · omega
        exact Nxt.pure X rfl hL ⟨_, _, rfl, rfl, h2⟩ hH hF (fun t z => X.baloadBooleans hx (j := j) (v := .int x) Ar.1 (State.isArrayOf_alike hZ.alike Ar.2.1) Ar.2.2 hin (z3 _ _ hat) (g := mkF m pc A _) rfl rfl hd t z)
      · cases h
    · cases h
  | laload =>
    obtain rfl : len = 1 := by simpa [lenOk] using hlen
    simp only [xI] at h
    split at h
    · rename_i j o S0
      obtain ⟨S1, rfl, h1⟩ := hS.int
      obtain ⟨ad, S2, g1, rfl, h2⟩ := h1.ref
      split at h
      · rename_i B hc0
        obtain ⟨x, q, e1⟩ := Option.map_eq_some_iff.mp h
        cases e1
        obtain ⟨hj, hat⟩ := rdA_spec q
        obtain ⟨ad', g2, cl, Ar, z1, z2, z3⟩ := hH.at hc0
        rw [g1] at g2; cases g2
        have hin : ¬ (j < 0 ∨ cl.slots.size ≤ j.toNatClampNeg) := by
          have := (List.getElem?_eq_some_iff.mp hat).1
          rintro (y | y)
          · exact hj y
          · omega
        exact Nxt.pure X rfl hL ⟨_, _, rfl, rfl, h2⟩ hH hF (fun t z => X.laload hx (j := j) (v := .long x) Ar.1 (State.isArrayOf_alike hZ.alike Ar.2.1) Ar.2.2 hin (z3 _ _ hat) (g := mkF m pc A _) rfl rfl hd t z)
      · cases h
    · cases h
  | iastore =>
    obtain rfl : len = 1 := by simpa [lenOk] using hlen
    simp only [xI] at h
    split at h
    · rename_i x j o S0
      obtain ⟨S1, rfl, h1⟩ := hS.int
      obtain ⟨S2, rfl, h2⟩ := h1.int
      obtain ⟨ad, S3, g1, rfl, h3⟩ := h2.ref
      split at h
      · rename_i B hc0
        split at h
        · rename_i enr
          obtain ⟨B', q, e1⟩ := Option.map_eq_some_iff.mp h
          cases e1
          obtain ⟨hj, hlt, rfl⟩ := wrA_spec q
          obtain ⟨ad', g2, cl, Ar, z1, z2, z3⟩ := hH.at hc0
          rw [g1] at g2; cases g2
          have hin : ¬ (j < 0 ∨ cl.slots.size ≤ j.toNatClampNeg) := by
            rintro (y | y)
            · exact hj y
            · omega
          obtain ⟨T2, h2', X2, e2, W2, st2⟩ := stI X hx hZ rfl Ar (j := j) (x := x) hin (g := mkF m pc A _) rfl rfl hd
          exact Nxt.mem X2 rfl hL h3 (by rw [e2]; exact hH.wrI g1 hc0 W2) (Fr.snoc X2 hF (hH.2.2.2.1 _ _ g1 enr)) st2
        · cases h
      · cases h
    · cases h
  | bastore =>
    obtain rfl : len = 1 := by simpa [lenOk] using hlen
    simp only [xI] at h
    split at h
    · rename_i x j o S0
      obtain ⟨S1, rfl, h1⟩ := hS.int
      obtain ⟨S2, rfl, h2⟩ := h1.int
      obtain ⟨ad, S3, g1, rfl, h3⟩ := h2.ref
      split at h
      · rename_i B hc0
        split at h
        · rename_i enr
          obtain ⟨B', q, e1⟩ := Option.map_eq_some_iff.mp h
          cases e1
          obtain ⟨hj, hlt, rfl⟩ := wrA_spec q
          obtain ⟨ad', g2, cl, Ar, z1, z2, z3⟩ := hH.at hc0
          rw [g1] at g2; cases g2
          have hin : ¬ (j < 0 ∨ cl.slots.size ≤ j.toNatClampNeg) := by
            rintro (y | y)
            · exact hj y
            · omega
          obtain ⟨T2, h2', X2, e2, W2, st2⟩ := stZ X hx hZ rfl Ar (j := j) (x := x) hin (g := mkF m pc A _) rfl rfl hd
          exact Nxt.mem X2 rfl hL h3 (by rw [e2]; exact hH.wrI g1 hc0 W2) (Fr.snoc X2 hF (hH.2.2.2.1 _ _ g1 enr)) st2
        · cases h
      · cases h
    · cases h
  | lastore =>
    obtain rfl : len = 1 := by simpa [lenOk] using hlen
    simp only [xI] at h
    split at h
    · rename_i x j o S0
      obtain ⟨S1, rfl, h1⟩ := hS.long
      obtain ⟨S2, rfl, h2⟩ := h1.int
      obtain ⟨ad, S3, g1, rfl, h3⟩ := h2.ref
      split at h
      · rename_i B hc0
        split at h
        · rename_i enr
          obtain ⟨B', q, e1⟩ := Option.map_eq_some_iff.mp h
          cases e1
          obtain ⟨hj, hlt, rfl⟩ := wrA_spec q
          obtain ⟨ad', g2, cl, Ar, z1, z2, z3⟩ := hH.at hc0
          rw [g1] at g2; cases g2
          have hin : ¬ (j < 0 ∨ cl.slots.size ≤ j.toNatClampNeg) := by
            rintro (y | y)
            · exact hj y
            · omega
          obtain ⟨T2, h2', X2, e2, W2, st2⟩ := stJ X hx hZ rfl Ar (j := j) (x := x) hin (g := mkF m pc A _) rfl rfl hd
          exact Nxt.mem X2 rfl hL h3 (by rw [e2]; exact hH.wrJ g1 hc0 W2) (Fr.snoc X2 hF (hH.2.2.2.1 _ _ g1 enr)) st2
        · cases h
      · cases h
    · cases h
  | arraylength =>
    obtain rfl : len = 1 := by simpa [lenOk] using hlen
    simp only [xI] at h
    split at h
    · rename_i o S0
      obtain ⟨ad, S1, g1, rfl, h1⟩ := hS.ref
      split at h
      · rename_i bb B hc0
        cases h
        obtain ⟨ad', g2, cl, Ar, z1, z2, z3⟩ := hH.at hc0
        rw [g1] at g2; cases g2
        exact Nxt.pure X rfl hL ⟨_, _, rfl, rfl, h1⟩ hH hF (fun t z => X.arraylength hx (cell := cl) Ar.1 (State.isArrayOf_alike hZ.alike Ar.2.1) (g := mkF m pc A _) rfl rfl hd t (by rw [z1]; exact z))
      · cases h
    · cases h
  | _ => simp [xI] at h
set_option maxHeartbeats 4000000 in
theorem stepN (X : Stand p l e R s m args below meth c T locs cells slots) (hx : p.tables.exec = Jvm.exec) (hZ : Z.Warmed39 s.vm) (hown : s.vm.findClass d.name.cls = some m.cls) (hP : chk P = true) (hW : ∀ w ∈ wordsOf P, w.before a0 Z = true) (hdm : d ∈ P.mth)
    {pc len a ks : Nat} {er : List Bool} {b : Int} {i : Instr} (hit : (pc, i, len, er, a, b) ∈ d.code) (hd : decode c.code pc = .ok (i, len)) (hlen : lenOk i len = true) {ρ : List Addr} {S S' Sc : List Value} {H H1 : AHeap} {A : Array Slot}
    (hS : SR ρ S Sc) (hH : HR P Z n0 T.heap ρ H) (h : xN P i a S H = some (S', H1, ks)) (hc : cells + 1 ≤ R.cells) (hl : slots + ks ≤ R.slots) :
    ∃ T' ad Sc', Stand p l e R s m args below meth c T' locs (cells + 1) (slots + ks) ∧ SR (ρ ++ [ad]) S' Sc' ∧ HR P Z n0 T'.heap (ρ ++ [ad]) H1 ∧
      ∀ target, Steps p.tables e below (T'.setTop (mkF m (pc + len) A Sc')) target → Steps p.tables e below (T.setTop (mkF m pc A Sc)) target := by
  have hWi : ∀ w ∈ iWords P d (pc, i, len, er, a, b), w.before a0 Z = true := fun w q => hW w (in_wordsOf hdm hit q)
  cases i with
  | new k =>
    obtain rfl : len = 3 := by simpa [lenOk] using hlen
    simp only [xN] at h
    split at h
    · rename_i cd q1
      cases h
      have hcm : cd ∈ P.cls := List.mem_of_getElem? q1
      have w1 := hWi (.classLink d.name.cls k cd.1) (by simp only [iWords, q1]; exact List.mem_singleton.mpr rfl)
      have w2 := hW (.instantiable cd.1 cd.2.1) (in_wordsC hcm (List.mem_cons_self ..))
      have w3 := hW (.initialized cd.1) (in_wordsC hcm (List.mem_cons_of_mem _ (List.mem_cons_self ..)))
      obtain ⟨T2, h2, X2, e2, E2, A2, D2, -, st2⟩ := newO X hx hZ hown w1 w2 w3 rfl (g := mkF m pc A Sc) rfl hd hc hl
      have hck := cChk_of hP hcm
      simp only [cChk, Bool.and_eq_true, List.all_eq_true] at hck
      have hcr : CR P Z h2 (ρ ++ [T.heap.size]) T.heap.size (.inl (a, cd.2.2.map fun f => dflt f.2.2.1)) := by
        refine ⟨cd, q1, A2, by simp, fun j v fd y1 y2 => ?_⟩
        rw [List.getElem?_map, y2] at y1
        cases y1
        have f1 := hck.2 _ (List.mem_of_getElem? y2)
        simp only [fChk, Bool.and_eq_true, decide_eq_true_eq] at f1
        exact ⟨_, dflt_sim f1.2, D2 (laid_of (hW _ (in_wordsC hcm (fWord_in (List.mem_of_getElem? y2))))) f1.1⟩
      refine ⟨T2, T.heap.size, _, X2, ⟨_, _, rfl, ⟨T.heap.size, ?_, rfl⟩, hS.mono⟩, (by rw [e2]; exact hH.push E2 hcr), st2⟩
      rw [← hH.2.1]; simp
    · cases h
  | newarray t =>
    obtain rfl : len = 2 := by simpa [lenOk] using hlen
    simp only [xN] at h
    split at h
    · rename_i n S0
      obtain ⟨S1, rfl, h1⟩ := hS.int
      split at h
      · cases h
      · rename_i hn
        have hn1 : ¬ n < 0 := fun z => hn (Or.inl z)
        have hn2 : n.toNatClampNeg ≤ 100000 := Nat.le_of_not_lt fun z => hn (Or.inr z)
        have w1 := hWi (.arrayClass (newarray.typeOf t)) (List.mem_singleton.mpr rfl)
        have top : (ρ ++ [T.heap.size])[H.length]? = some T.heap.size := by rw [← hH.2.1]; simp
        split at h
        · cases h
          obtain ⟨T2, h2, cA, X2, e2, E2, A2, st2⟩ := newP X hx hZ w1 rfl (g := mkF m pc A _) rfl hd rfl hn1 (cap := n.toNatClampNeg) (Nat.le_refl _) (by omega) hc hl
          have hcr : CR P Z h2 (ρ ++ [T.heap.size]) T.heap.size ((.inr (.inl (false, List.replicate n.toNatClampNeg 0)) : ACell)) := by
            refine ⟨_, A2, by simp [sz_new], by simp; omega, fun j x y => ?_⟩
            rw [List.getElem?_replicate] at y
            split at y
            · rename_i lt
              cases y
              simp [newA, lt, newarray.typeOf, defaultValue]
            · cases y
          exact ⟨T2, T.heap.size, _, X2, ⟨_, _, rfl, ⟨T.heap.size, top, rfl⟩, h1.mono⟩, (by rw [e2]; exact hH.push E2 hcr), st2⟩
        · cases h
          obtain ⟨T2, h2, cA, X2, e2, E2, A2, st2⟩ := newP X hx hZ w1 rfl (g := mkF m pc A _) rfl hd rfl hn1 (cap := n.toNatClampNeg) (Nat.le_refl _) (by omega) hc hl
          have hcr : CR P Z h2 (ρ ++ [T.heap.size]) T.heap.size ((.inr (.inl (true, List.replicate n.toNatClampNeg 0)) : ACell)) := by
            refine ⟨_, A2, by simp [sz_new], by simp; omega, fun j x y => ?_⟩
            rw [List.getElem?_replicate] at y
            split at y
            · rename_i lt
              cases y
              simp [newA, lt, newarray.typeOf, defaultValue]
            · cases y
          exact ⟨T2, T.heap.size, _, X2, ⟨_, _, rfl, ⟨T.heap.size, top, rfl⟩, h1.mono⟩, (by rw [e2]; exact hH.push E2 hcr), st2⟩
        · cases h
          obtain ⟨T2, h2, cA, X2, e2, E2, A2, st2⟩ := newP X hx hZ w1 rfl (g := mkF m pc A _) rfl hd rfl hn1 (cap := n.toNatClampNeg) (Nat.le_refl _) (by omega) hc hl
          have hcr : CR P Z h2 (ρ ++ [T.heap.size]) T.heap.size ((.inr (.inr (List.replicate n.toNatClampNeg 0)) : ACell)) := by
            refine ⟨_, A2, by simp [sz_new], by simp; omega, fun j x y => ?_⟩
            rw [List.getElem?_replicate] at y
            split at y
            · rename_i lt
              cases y
              simp [newA, lt, newarray.typeOf, defaultValue]
            · cases y
          exact ⟨T2, T.heap.size, _, X2, ⟨_, _, rfl, ⟨T.heap.size, top, rfl⟩, h1.mono⟩, (by rw [e2]; exact hH.push E2 hcr), st2⟩
        · cases h
    · cases h
  | _ => simp [xN] at h
end Step
end Jvm.Own
namespace Jvm.Own
open Jvm Jvm.ClassFile Sem Op Lib Jvm.Free Jvm.Stand Jvm.LawKit Jvm.RoadKit Bundle
theorem fetch_mem : ∀ {l : List (Nat × It)} {pc : Nat} {i : It}, fetch l pc = some i → (pc, i) ∈ l
  | [], _, _, h => by simp [fetch] at h
  | (q, j) :: r, pc, i, h => by
    unfold fetch at h
    split at h
    · rename_i e; cases h; subst e; exact List.mem_cons_self ..
    · exact List.mem_cons_of_mem _ (fetch_mem h)
theorem tgt_spec {pc q : Nat} {o : Int} (h : tgt pc o = some q) : 0 ≤ (pc : Int) + o ∧ ((pc : Int) + o).toNat = q := by
  unfold tgt at h
  split at h
  · rename_i z; cases h; exact ⟨z, rfl⟩
  · cases h
/-- the end of a method's run -/
def Done (P : PD) (Z : State) (n0 : Nat) (p : Program) (e : Env) (below : List Frame) (s : State) (ρ : List Addr) (v : Option Value) (H' : AHeap) (kc ks : Nat) (t0 : State) : Prop :=
  ∃ s₂ v' L' t, Steps p.tables e below t0 s₂ ∧ s₂.status = .running ∧ Ended s₂ below (.returned v') ∧ OV (ρ ++ t) v v' ∧ HR P Z n0 s₂.heap (ρ ++ t) H' ∧ Fr n0 L' ∧ FrameEnd s (.returned v') s₂ L' kc ks
def Cx (P : PD) (Z : State) (p : Program) (R : Room) (s : State) (m : MethodId) (meth : Method) (c : Code) (d : MD) : Prop :=
  p.tables.exec = Jvm.exec ∧ Z.Warmed39 s.vm ∧ c.code = d.bytes ∧ c.maxLocals = d.maxL ∧ s.vm.findClass d.name.cls = some m.cls ∧ meth.name = d.name.name ∧ meth.sig.returnType = d.ret ∧ meth.locks = false ∧ d.rf ≤ R.frames ∧ d.rw ≤ R.locals
/-- what the machine says of a run that has come to pc is what the model does -/
def Says (P : PD) (Z : State) (n0 : Nat) (l : Launch) (n : Nat) : Prop :=
  ∀ (mi pc : Nat) (L : List Slot) (S : List Value) (H : AHeap) (v : Option Value) (H' : AHeap) (kc ks : Nat), exe P n mi pc L S H = some (v, H', kc, ks) → ∀ d, P.mth[mi]? = some d →
    ∀ (p : Program) (e : Env) (R : Room) (s : State) (m : MethodId) (args : Array Value) (below : List Frame) (meth : Method) (c : Code) (T : State) (locs : List Loc) (cells slots : Nat),
      Stand p l e R s m args below meth c T locs cells slots → Cx P Z p R s m meth c d → cells + kc ≤ R.cells → slots + ks ≤ R.slots →
      ∀ (ρ : List Addr) (A : Array Slot) (Sc : List Value), LR ρ L A → L.length = d.maxL → SR ρ S Sc → HR P Z n0 T.heap ρ H → Fr n0 locs →
        Done P Z n0 p e below s ρ v H' (cells + kc) (slots + ks) (T.setTop (mkF m pc A Sc))
def QQ (P : PD) (Z : State) (n0 : Nat) (ρ : List Addr) (v : Option Value) (H1 : AHeap) (v' : Option Value) (h' : Heap) (L : List Loc) : Prop := Fr n0 L ∧ ∃ t, OV (ρ ++ t) v v' ∧ HR P Z n0 h' (ρ ++ t) H1
theorem met_of {P : PD} {Z : State} {n0 : Nat} {l : Launch} {n : Nat} (ih : Says P Z n0 l n) {j : Nat} {y : MD} (hy : P.mth[j]? = some y) (hpn : plainName y.name.cls = true) {as ws : List Value} {H H1 : AHeap} {v : Option Value} {kc ks : Nat} (he : exe P n j 0 (entL as y.maxL) [] H = some (v, H1, kc, ks)) {ρ : List Addr} (hS : SR ρ as ws) (hlen : (entA as).length ≤ y.maxL) {h : Heap} (hH : HR P Z n0 h ρ H) (w0 : List Jvm.Cond) (rm : Room) (r1 : y.rf ≤ rm.frames) (r2 : y.rw ≤ rm.locals) (r3 : kc ≤ rm.cells) (r4 : ks ≤ rm.slots) :
    MetFree l y.name (head1 (Jvm.Cond.code y.name y.bytes y.maxL y.ret :: w0) rm) (fun a U => a = ws.toArray ∧ Z.Warmed39 U.vm ∧ U.heap = h) (fun _ _ _ _ _ => True)
      (fun _ U o U' => ∃ v' L, o = .returned v' ∧ QQ P Z n0 ρ v H1 v' U'.heap L ∧ FrameEnd U o U' L kc ks) := by
  refine MetFree.of_bodySF (plainFor_of_name hpn) hisR ?_
  intro p e s m args below meth c s₁ Bd hml0 hP hK
  obtain ⟨rfl, hZ, hh⟩ := hP
  have X0 : Stand p l e rm s m ws.toArray below meth c s₁ [] 0 0 := Stand.of_body Bd
  have e0 : s₁.heap = h := by rw [← hh, Bd.state]; rfl
  obtain ⟨hL, hsz⟩ := LR.enter hS hlen
  have hLl : (entL as y.maxL).length = y.maxL := by rw [← hL.1]; exact hsz
  obtain ⟨s₂, v', L', t, h1, h2, h3, h4, h5, h6, h7⟩ := ih j 0 _ [] H v H1 kc ks he y hy p e _ s m ws.toArray below meth c s₁ [] 0 0 X0
    ⟨Bd.exec, hZ, Bd.bytes, hml0, findClass_of_methodNamed Bd.named, (name_of_methodNamed Bd.named Bd.method).1, Bd.returns, BodyLoose.notSynchronized Bd, r1, r2⟩
    (by rw [Nat.zero_add]; exact r3) (by rw [Nat.zero_add]; exact r4) ρ _ [] hL hLl rfl (by rw [e0]; exact hH) (Fr.nil n0)
  refine ⟨s₂, _, h1, h2, h3, v', L', rfl, ⟨h6, t, h4, h5⟩, ?_⟩
  rw [Nat.zero_add, Nat.zero_add] at h7
  exact h7
section Sound
variable {P : PD} {Z : State} {n0 : Nat} {a0 : Array Value} {l : Launch}
theorem Done.step {p : Program} {e : Env} {below : List Frame} {s : State} {ρ t : List Addr} {v : Option Value} {H' : AHeap} {kc ks : Nat} {t0 t1 : State} (h : Done P Z n0 p e below s (ρ ++ t) v H' kc ks t1) (k : ∀ target, Steps p.tables e below t1 target → Steps p.tables e below t0 target) : Done P Z n0 p e below s ρ v H' kc ks t0 := by
  obtain ⟨s₂, v', L', t', h1, h2, h3, h4, h5, h6, h7⟩ := h
  exact ⟨s₂, v', L', t ++ t', k _ h1, h2, h3, by rw [← List.append_assoc]; exact h4, by rw [← List.append_assoc]; exact h5, h6, h7⟩
theorem argsOf_spec {n : Nat} {S as rest : List Value} (h : argsOf n S = some (as, rest)) : n ≤ S.length ∧ as = (S.take n).reverse ∧ rest = S.drop n := by
  unfold argsOf at h
  split at h
  · rename_i z; cases h; exact ⟨z, rfl, rfl⟩
  · cases h
theorem res_ext {α : Type} {o : Option Res} {v : Option Value} {H' : AHeap} {kc ks c1 s1 : Nat} (h : (o.map fun r => addR r c1 s1) = some (v, H', kc, ks)) : ∃ kc' ks', o = some (v, H', kc', ks') ∧ kc = kc' + c1 ∧ ks = ks' + s1 := by
  obtain ⟨⟨v0, H0, c0, s0⟩, h1, h2⟩ := Option.map_eq_some_iff.mp h
  simp only [addR] at h2
  cases h2
  exact ⟨c0, s0, h1, rfl, rfl⟩
set_option maxHeartbeats 4000000 in
theorem sound (hP : chk P = true) (hW : ∀ w ∈ wordsOf P, w.before a0 Z = true) : ∀ n, Says P Z n0 l n
  | 0 => fun mi pc L S H v H' kc ks h => by simp [exe] at h
  | n + 1 => by
    have ih := sound hP hW n
    intro mi pc L S H v H' kc ks h d hmi
    unfold exe at h
    rw [hmi] at h
    simp only at h
    have hdm : d ∈ P.mth := List.mem_of_getElem? hmi
    split at h
    · cases h
    rename_i it i len er a b hft
    have hit := fetch_mem hft
    have hmc := mChk_of hP hdm
    simp only [mChk, Bool.and_eq_true] at hmc
    obtain ⟨⟨⟨⟨⟨⟨mc1, mc2⟩, mc3⟩, mc4⟩, mc5⟩, mc6⟩, mc7⟩ := hmc
    unfold codeChk at mc3
    rw [List.all_eq_true] at mc3
    have hci := mc3 _ hit
    simp only [Bool.and_eq_true, decide_eq_true_eq] at hci
    obtain ⟨hdec, hlenOk⟩ := hci
    -- a jump, or a fall through
    have jump : ∀ (q : Nat) (S1 : List Value) (h1 : exe P n mi q (forget er L) S1 H = some (v, H', kc, ks)),
        (∀ (p : Program) (e : Env) (R : Room) (s : State) (m : MethodId) (args : Array Value) (below : List Frame) (meth : Method) (c : Code) (T : State) (locs : List Loc) (cells slots : Nat),
          Stand p l e R s m args below meth c T locs cells slots → Cx P Z p R s m meth c d → ∀ (ρ : List Addr) (A : Array Slot) (Sc : List Value), LR ρ L A → SR ρ S Sc → ∃ Sc1, SR ρ S1 Sc1 ∧ ∀ target, Steps p.tables e below (T.setTop (mkF m q A Sc1)) target → Steps p.tables e below (T.setTop (mkF m pc A Sc)) target) →
        ∀ (p : Program) (e : Env) (R : Room) (s : State) (m : MethodId) (args : Array Value) (below : List Frame) (meth : Method) (c : Code) (T : State) (locs : List Loc) (cells slots : Nat),
          Stand p l e R s m args below meth c T locs cells slots → Cx P Z p R s m meth c d → cells + kc ≤ R.cells → slots + ks ≤ R.slots →
          ∀ (ρ : List Addr) (A : Array Slot) (Sc : List Value), LR ρ L A → L.length = d.maxL → SR ρ S Sc → HR P Z n0 T.heap ρ H → Fr n0 locs →
            Done P Z n0 p e below s ρ v H' (cells + kc) (slots + ks) (T.setTop (mkF m pc A Sc)) := by
      intro q S1 h1 st p e R s m args below meth c T locs cells slots X cx k1 k2 ρ A Sc hL hLl hS hH hF
      obtain ⟨Sc1, hS1, st1⟩ := st p e R s m args below meth c T locs cells slots X cx ρ A Sc hL hS
      have := ih mi q _ S1 H v H' kc ks h1 d hmi p e R s m args below meth c T locs cells slots X cx k1 k2 ρ A Sc1 (hL.forget er) (by rw [forget_len]; exact hLl) hS1 hH hF
      exact Done.step (t := []) (by rw [List.append_nil]; exact this) st1
    have dec : ∀ {c : Code}, c.code = d.bytes → decode c.code pc = .ok (i, len) := fun hc => by rw [hc]; exact hdec
    split at h
    · -- goto
      rename_i o
      split at h
      · rename_i q hq
        obtain ⟨t1, t2⟩ := tgt_spec hq
        have m3 := jump q S h
        obtain rfl : len = 3 := by simpa [lenOk] using hlenOk
        exact m3 fun p e R s m args below meth c T locs cells slots X cx ρ A Sc hL hS => ⟨Sc, hS, fun t z => XS.goto (g := mkF m pc A Sc) X.here cx.1 rfl (pc0 := pc) (pc' := q) rfl (dec cx.2.2.1) t1 t2 z⟩
      · cases h
    · -- if_icmp
      rename_i cd o
      split at h
      · rename_i y x S1
        obtain rfl : len = 3 := by simpa [lenOk] using hlenOk
        split at h
        · rename_i hc
          split at h
          · rename_i q hq
            obtain ⟨t1, t2⟩ := tgt_spec hq
            have m3 := jump q S1 h
            exact m3 fun p e R s m args below meth c T locs cells slots X cx ρ A Sc hL hS => by
              obtain ⟨Sa, rfl, ha⟩ := hS.int
              obtain ⟨Sb, rfl, hb⟩ := ha.int
              exact ⟨Sb, hb, fun t z => XS.icmpYes (g := mkF m pc A _) X.here cx.1 rfl (pc0 := pc) (pc' := q) rfl (dec cx.2.2.1) rfl hc t1 t2 z⟩
          · cases h
        · rename_i hc
          have m3 := jump (pc + 3) S1 h
          exact m3 fun p e R s m args below meth c T locs cells slots X cx ρ A Sc hL hS => by
            obtain ⟨Sa, rfl, ha⟩ := hS.int
            obtain ⟨Sb, rfl, hb⟩ := ha.int
            exact ⟨Sb, hb, fun t z => XS.icmpNo (g := mkF m pc A _) X.here cx.1 rfl (dec cx.2.2.1) rfl (by simpa using hc) z⟩
      · cases h
    · -- ifCond
      rename_i cd o
      split at h
      · rename_i x S1
        obtain rfl : len = 3 := by simpa [lenOk] using hlenOk
        split at h
        · rename_i hc
          split at h
          · rename_i q hq
            obtain ⟨t1, t2⟩ := tgt_spec hq
            have m3 := jump q S1 h
            exact m3 fun p e R s m args below meth c T locs cells slots X cx ρ A Sc hL hS => by
              obtain ⟨Sa, rfl, ha⟩ := hS.int
              exact ⟨Sa, ha, fun t z => XS.ifYes (g := mkF m pc A _) X.here cx.1 rfl (pc0 := pc) (pc' := q) rfl (dec cx.2.2.1) rfl hc t1 t2 z⟩
          · cases h
        · rename_i hc
          have m3 := jump (pc + 3) S1 h
          exact m3 fun p e R s m args below meth c T locs cells slots X cx ρ A Sc hL hS => by
            obtain ⟨Sa, rfl, ha⟩ := hS.int
            exact ⟨Sa, ha, fun t z => XS.ifNo (g := mkF m pc A _) X.here cx.1 rfl (dec cx.2.2.1) rfl (by simpa using hc) z⟩
      · cases h
    · -- ifnonnull
      rename_i o
      split at h
      · rename_i x S1
        split at h
        · rename_i q hq
          obtain ⟨t1, t2⟩ := tgt_spec hq
          have m3 := jump q S1 h
          obtain rfl : len = 3 := by simpa [lenOk] using hlenOk
          exact m3 fun p e R s m args below meth c T locs cells slots X cx ρ A Sc hL hS => by
            obtain ⟨ad, Sa, -, rfl, ha⟩ := hS.ref
            exact ⟨Sa, ha, fun t z => XT.ifnonnullYes (g := mkF m pc A _) X.here cx.1 rfl (pc0 := pc) (pc' := q) rfl (dec cx.2.2.1) rfl t1 t2 z⟩
        · cases h
      · cases h
    · -- ireturn
      split at h
      · rename_i x
        split at h
        · rename_i v0 hv0
          cases h
          obtain rfl : len = 1 := by simpa [lenOk] using hlenOk
          intro p e R s m args below meth c T locs cells slots X cx k1 k2 ρ A Sc hL hLl hS hH hF
          obtain ⟨hx, hZ, hby, hml, hown, hnm, hret, hlk, -, -⟩ := cx
          obtain ⟨Sa, rfl, ha⟩ := hS.int
          unfold retV at hv0
          split at hv0
          · rename_i hr0
            cases hv0
            obtain ⟨fs, hr, hrun, hended, hWm, hsame⟩ := X.leave (v := some (.int x)) (fun q => by rw [hret, hr0] at q; cases q) hlk
            exact ⟨_, _, locs, [], retI X hx (by rw [hret, hr0]) (dec hby) hr, hrun, hended, ⟨_, rfl, rfl⟩, by rw [List.append_nil]; exact hH, hF, ⟨_, rfl⟩, hWm, hsame⟩
          · rename_i hr0
            cases hv0
            obtain ⟨fs, hr, hrun, hended, hWm, hsame⟩ := X.leave (v := some (.int (x &&& 1))) (fun q => by rw [hret, hr0] at q; cases q) hlk
            exact ⟨_, _, locs, [], retN X hx (t := .boolean) (by rw [hret, hr0]) (by simp) (dec hby) hr, hrun, hended, ⟨_, rfl, rfl⟩, by rw [List.append_nil]; exact hH, hF, ⟨_, rfl⟩, hWm, hsame⟩
          · cases hv0
        · cases h
      · cases h
    · -- lreturn
      split at h
      · rename_i x
        split at h
        · rename_i hr0
          cases h
          obtain rfl : len = 1 := by simpa [lenOk] using hlenOk
          intro p e R s m args below meth c T locs cells slots X cx k1 k2 ρ A Sc hL hLl hS hH hF
          obtain ⟨hx, hZ, hby, hml, hown, hnm, hret, hlk, -, -⟩ := cx
          obtain ⟨Sa, rfl, ha⟩ := hS.long
          obtain rfl : Sa = [] := ha
          obtain ⟨fs, hr, hrun, hended, hWm, hsame⟩ := X.leave (v := some (.long x)) (fun q => by rw [hret, hr0] at q; cases q) hlk
          exact ⟨_, _, locs, [], X.lreturnOut hx (by rw [hret, hr0]) (dec hby) hr, hrun, hended, ⟨_, rfl, rfl⟩, by rw [List.append_nil]; exact hH, hF, ⟨_, rfl⟩, hWm, hsame⟩
        · cases h
      · cases h
    · -- return
      split at h
      · split at h
        · rename_i hr0
          cases h
          obtain rfl : len = 1 := by simpa [lenOk] using hlenOk
          intro p e R s m args below meth c T locs cells slots X cx k1 k2 ρ A Sc hL hLl hS hH hF
          obtain ⟨hx, hZ, hby, hml, hown, hnm, hret, hlk, -, -⟩ := cx
          obtain rfl : Sc = [] := hS
          obtain ⟨fs, hr, hrun, hended, hWm, hsame⟩ := X.leave (v := none) (fun _ => rfl) hlk
          exact ⟨_, _, locs, [], X.returnOut hx (by rw [hret, hr0]) (dec hby) hr, hrun, hended, rfl, by rw [List.append_nil]; exact hH, hF, ⟨_, rfl⟩, hWm, hsame⟩
        · cases h
      · cases h
    · -- a call, or a plain step
      split at h
      · rename_i hinv
        split at h
        · -- Object.<init>
          rename_i hb1
          subst hb1
          have hk : ∃ k x S1, i = .invokespecial k ∧ S = .ref x :: S1 ∧ (if 1 ≤ d.rf ∧ catSum S1 + 12 ≤ d.rw then exe P n mi (pc + 3) (forget er L) S1 H else none) = some (v, H', kc, ks) := by
            split at h
            · exact ⟨_, _, _, rfl, rfl, h⟩
            · cases h
          clear h
          obtain ⟨k, x, S1, rfl, rfl, h⟩ := hk
          · split at h
            · rename_i hroom
              have m3 := ih mi (pc + 3) _ S1 H v H' kc ks h d hmi
              obtain rfl : len = 3 := by simpa [lenOk] using hlenOk
              have hWi : ∀ w ∈ iWords P d (pc, .invokespecial k, 3, er, a, -1), w.before a0 Z = true := fun w q => hW w (in_wordsOf hdm hit q)
              have hWi' : ∀ w ∈ [Jvm.Cond.methodLink d.name.cls k Lib.objectInit, .instanceMethod Lib.objectInit, .code Lib.objectInit ⟨#[0xb1]⟩ 1 none], w.before a0 Z = true := hWi
              intro p e R s m args below meth c T locs cells slots X cx k1 k2 ρ A Sc hL hLl hS hH hF
              have cx0 := cx
              obtain ⟨hx, hZ, hby, hml, hown, hnm, hret, hlk, hrf, hrw⟩ := cx
              obtain ⟨ad, Sa, -, rfl, ha⟩ := hS.ref
              obtain ⟨T2, X2, e2, st2⟩ := initO X hx hZ hown (hWi' _ (by simp)) (hWi' _ (by simp)) (hWi' _ (by simp)) rfl (g := mkF m pc A (.ref ad :: Sa)) rfl (by rw [hml]; exact hL.1.trans hLl) rfl (dec hby) (by omega) (W := catSum S1) (by show 2 * 0 + _ ≤ _; rw [ha.cat]; omega) (by omega)
              have := m3 p e R s m args below meth c T2 locs cells slots X2 cx0 k1 k2 ρ A Sa (hL.forget er) (by rw [forget_len]; exact hLl) ha (by rw [e2]; exact hH) hF
              exact Done.step (t := []) (by rw [List.append_nil]; exact this) st2
            · cases h
        · rename_i hb1
          split at h
          · cases h
          rename_i y hy
          split at h
          · cases h
          rename_i as rest hao
          split at h
          · rename_i hcond
            simp only [Bool.and_eq_true, decide_eq_true_eq] at hcond
            obtain ⟨⟨⟨⟨hj, hik⟩, hrecv⟩, hroom⟩, hent⟩ := hcond
            split at h
            · rename_i v1 H1 c1 s1 hcal
              obtain ⟨c0, s0, hcon, rfl, rfl⟩ := res_ext (α := Unit) h
              have m3 := ih mi (pc + 3) _ _ H1 v H' c0 s0 hcon d hmi
              intro p e R s m args below meth c T locs cells slots X cx k1 k2 ρ A Sc hL hLl hS hH hF
              have cx0 := cx
              obtain ⟨hx, hZ, hby, hml, hown, hnm, hret, hlk, hrf, hrw⟩ := cx
              have hym : y ∈ P.mth := List.mem_of_getElem? hy
              have hyc := mChk_of hP hym
              simp only [mChk, Bool.and_eq_true, decide_eq_true_eq] at hyc
              obtain ⟨⟨⟨⟨⟨⟨yc1, yc2⟩, yc3⟩, yc4⟩, yc5⟩, yc6⟩, yc7⟩ := hyc
              simp only [fitsRoom, Bool.and_eq_true, decide_eq_true_eq] at hroom
              obtain ⟨hn, has, hrest⟩ := argsOf_spec hao
              have hnc : nargs y ≤ Sc.length := by rw [hS.len]; exact hn
              have hSa : SR ρ as (Sc.take (nargs y)).reverse := by rw [has]; exact (hS.take _).rev
              have hSr : SR ρ rest (Sc.drop (nargs y)) := by rw [hrest]; exact hS.drop _
              have hsplit : Sc = (Sc.take (nargs y)).reverse.reverse ++ Sc.drop (nargs y) := by rw [List.reverse_reverse, List.take_append_drop]
              obtain ⟨ws, hws⟩ : ∃ ws, ws = (Sc.take (nargs y)).reverse := ⟨_, rfl⟩
              obtain ⟨rc, hrc⟩ : ∃ rc, rc = Sc.drop (nargs y) := ⟨_, rfl⟩
              have hwl : ws.length = nargs y := by rw [hws]; simp; omega
              rw [← hws] at hSa hsplit
              rw [← hrc] at hSr hsplit
              have wcode := hW (.code y.name y.bytes y.maxL y.ret) (in_wordsM hy hj (List.mem_cons_self ..))
              have winit := hW (.initialized y.name.cls) (in_wordsM hy hj (List.mem_cons_of_mem _ (List.mem_cons_self ..)))
              have wmore : ∀ w ∈ (if y.kind = 0 then [Jvm.Cond.static y.name] else if y.kind = 1 then [.instanceMethod y.name] else if y.kind = 2 then [.instanceMethod y.name, .privateMethod y.name] else [.declares y.name, .selects y.name.cls y.name y.name, .instanceMethod y.name]), w.before a0 Z = true := fun w q => hW w (in_wordsM hy hj (List.mem_cons_of_mem _ (List.mem_cons_of_mem _ q)))
              have hMH : y.name.cls ≠ "java/lang/invoke/MethodHandle" ∧ y.name.cls ≠ "java/lang/invoke/VarHandle" := ⟨yc5, yc6⟩
              have back := backOf (W := catSum rest) (len := 3) (R := R) (p := p) (e := e) (below := below) (s := s) (args := args) (met_of ih hy yc1 hcal hSa hent hH [] ({ frames := y.rf, cells := c1, slots := s1, locals := y.rw } : Room) (Nat.le_refl _) (Nat.le_refl _) (Nat.le_refl _) (Nat.le_refl _)) hZ wcode winit (by show y.rf + 1 ≤ _; omega) (by show _ + y.rw ≤ _; omega)
              have hWW : 2 * (mkF m pc A Sc).monitorRoom + (rc.map fun v => v.category).sum ≤ catSum rest := by show 2 * 0 + _ ≤ _; rw [hSr.cat]; omega
              have hpar : ∀ sig, parseMethodDescriptor y.name.desc = some sig → sig.parameters.length = y.npar := fun sig q => by
                unfold sigChk at yc2
                rw [q] at yc2
                simpa using yc2
              have fin : ∀ (v1' : Option Value) (T2 : State) (Lc : List Loc), Stand p l e R s m args below meth c T2 (locs ++ Lc) (cells + c1) (slots + s1) → QQ P Z n0 ρ v1 H1 v1' T2.heap Lc →
                  (∀ target, Steps p.tables e below (T2.setTop (mkF m (pc + 3) A (v1'.toList ++ rc))) target → Steps p.tables e below (T.setTop (mkF m pc A Sc)) target) →
                  Done P Z n0 p e below s ρ v H' (cells + (c0 + c1)) (slots + (s0 + s1)) (T.setTop (mkF m pc A Sc)) := by
                intro v1' T2 Lc X2 hq st2
                obtain ⟨hF2, t, hov, hH2⟩ := hq
                have := m3 p e R s m args below meth c T2 (locs ++ Lc) _ _ X2 cx0 (by omega) (by omega) (ρ ++ t) A (v1'.toList ++ rc) (hL.forget er).mono (by rw [forget_len]; exact hLl) (hov.list.app hSr.mono) hH2 (hF.app hF2)
                have q1 : cells + c1 + c0 = cells + (c0 + c1) := by omega
                have q2 : slots + s1 + s0 = slots + (s0 + s1) := by omega
                rw [q1, q2] at this
                exact this.step st2
              have hcR : cells + c1 ≤ R.cells := by omega
              have hsR : slots + s1 ≤ R.slots := by omega
              cases i with
              | invokestatic k =>
                obtain rfl : len = 3 := by simpa [lenOk] using hlenOk
                have hk0 : y.kind = 0 := by simpa [invKind] using hik
                have wl := hW (.methodLink d.name.cls k y.name) (in_wordsOf hdm hit (by show _ ∈ mLink P d k a b; unfold mLink; rw [if_neg hb1, hy]; exact List.mem_singleton.mpr rfl))
                have wst := wmore (.static y.name) (by rw [if_pos hk0]; exact List.mem_singleton.mpr rfl)
                have hna : nargs y = y.npar := by simp [nargs, hk0]
                obtain ⟨v1', _, ⟨T2, L2, k2', n2⟩, -, X2, ⟨Lc, hQ, l2, y2, z2⟩, st2⟩ := Jvm.LawKit.callS X hx (y := y.name) hown (mvT hZ wl) (mvT hZ wst) (mvT hZ winit) (mvT hZ wcode) hMH back (g := mkF m pc A Sc) rfl (by rw [hml]; exact hL.1.trans hLl) (argsL := ws) (rest := rc) (fun sig q => by rw [hpar sig q, hwl, hna]) hsplit hWW (dec hby) (fun _ _ => ⟨rfl, rfl, hcR, hsR⟩)
                dsimp only [Pt.U, Pt.locs, Pt.cells, Pt.slots] at X2 l2 y2 z2 st2 hQ
                subst l2 y2 z2
                exact fin v1' T2 Lc X2 hQ st2
              | invokespecial k =>
                obtain rfl : len = 3 := by simpa [lenOk] using hlenOk
                have hk1 : y.kind = 1 := by simpa [invKind] using hik
                have wl := hW (.methodLink d.name.cls k y.name) (in_wordsOf hdm hit (by show _ ∈ mLink P d k a b; unfold mLink; rw [if_neg hb1, hy]; exact List.mem_singleton.mpr rfl))
                have wst := wmore (.instanceMethod y.name) (by rw [if_neg (by omega), if_pos hk1]; exact List.mem_singleton.mpr rfl)
                have hna : nargs y = y.npar + 1 := by simp [nargs, hk1]
                simp [hk1] at yc7
                have wcode' : (Jvm.Cond.code y.name y.bytes y.maxL none).before a0 Z = true := by rw [← yc7.2]; exact wcode
                unfold recvOk at hrecv
                rw [if_neg (by omega)] at hrecv
                split at hrecv
                · rename_i o as'
                  obtain ⟨ad, ws', g1, rfl, ha'⟩ := hSa.ref
                  have hst : Sc = ws'.reverse ++ .ref ad :: rc := by rw [hsplit]; simp
                  obtain ⟨v1', _, ⟨T2, L2, k2', n2⟩, -, X2, ⟨Lc, hQ, l2, y2, z2⟩, st2⟩ := X.specialBack hx (y := y.name) yc7.1 hown (mvT hZ wl) (mvT hZ wst) (mvT hZ wcode') hMH back (g := mkF m pc A Sc) rfl (by rw [hml]; exact hL.1.trans hLl) (Steps.refl _) (a := ad) (argsL := ws') (rest := rc) (fun sig q => by rw [hpar sig q]; simp [hna] at hwl; omega) hst hWW (dec hby) (fun _ _ => ⟨rfl, rfl, hcR, hsR⟩)
                  dsimp only [Pt.U, Pt.locs, Pt.cells, Pt.slots] at X2 l2 y2 z2 st2 hQ
                  subst l2 y2 z2
                  exact fin v1' T2 Lc X2 hQ fun t z => st2.trans z
                · cases hrecv
              | invokevirtual k =>
                obtain rfl : len = 3 := by simpa [lenOk] using hlenOk
                have wl := hW (.methodLink d.name.cls k y.name) (in_wordsOf hdm hit (by show _ ∈ mLink P d k a b; unfold mLink; rw [if_neg hb1, hy]; exact List.mem_singleton.mpr rfl))
                have hk23 : y.kind = 2 ∨ y.kind = 3 := by simpa [invKind] using hik
                have hk0 : ¬ y.kind = 0 := by omega
                have hk1 : ¬ y.kind = 1 := by omega
                have hna : nargs y = y.npar + 1 := by simp [nargs, hk0]
                unfold recvOk at hrecv
                rw [if_neg hk0] at hrecv
                split at hrecv
                · rename_i o as'
                  obtain ⟨ad, ws', g1, rfl, ha'⟩ := hSa.ref
                  have hst : Sc = ws'.reverse ++ .ref ad :: rc := by rw [hsplit]; simp
                  split at hrecv
                  · rename_i c0 fs hc0
                    obtain rfl : c0 = y.cid := by simpa using hrecv
                    obtain ⟨ad', g2, cd, q1, q2, q3, q4⟩ := hH.at hc0
                    rw [g1] at g2; cases g2
                    have hcd := cid_of hP hym q1
                    have hcm : cd ∈ P.cls := List.mem_of_getElem? q1
                    rw [hcd] at q2
                    by_cases hk2 : y.kind = 2
                    · have w1 := wmore (.instanceMethod y.name) (by rw [if_neg hk0, if_neg hk1, if_pos hk2]; simp)
                      have w2 := wmore (.privateMethod y.name) (by rw [if_neg hk0, if_neg hk1, if_pos hk2]; simp)
                      have w3 := hW (.instantiable cd.1 cd.2.1) (in_wordsC hcm (List.mem_cons_self ..))
                      rw [hcd] at w3
                      obtain ⟨cI, kI, i1, i2, i3, i4, -⟩ := Cond.instantiable_spec (mvT hZ w3 (args := args) : (Jvm.Cond.instantiable y.name.cls cd.2.1).before args s = true)
                      have hsel := selects_self_of_private (args := args) i1 i2 (by simp at i4; exact i4.1) (Cond.privateMethod_at (mvP hZ w2 (args := #[]))) (mvT hZ w1) hMH
                      obtain ⟨cq, hq1, hq2⟩ := q2.cell
                      obtain ⟨v1', _, ⟨T2, L2, k2', n2⟩, -, X2, ⟨Lc, hQ, l2, y2, z2⟩, st2⟩ := X.privateBack hx (y := y.name) hown (mvT hZ wl) (mvT hZ w1) hsel (Cond.privateMethod_at (mvP hZ w2 (args := #[]))) (mvT hZ wcode) hMH back (g := mkF m pc A Sc) rfl (by rw [hml]; exact hL.1.trans hLl) (Steps.refl _) (a := ad) hq1 hq2 (argsL := ws') (rest := rc) (fun sig q => by rw [hpar sig q]; simp [hna] at hwl; omega) hst hWW (dec hby) (fun _ _ => ⟨rfl, rfl, hcR, hsR⟩)
                      dsimp only [Pt.U, Pt.locs, Pt.cells, Pt.slots] at X2 l2 y2 z2 st2 hQ
                      subst l2 y2 z2
                      exact fin v1' T2 Lc X2 hQ fun t z => st2.trans z
                    · have w1 := wmore (.declares y.name) (by rw [if_neg hk0, if_neg hk1, if_neg hk2]; simp)
                      have w2 := wmore (.selects y.name.cls y.name y.name) (by rw [if_neg hk0, if_neg hk1, if_neg hk2]; simp)
                      have w3 := wmore (.instanceMethod y.name) (by rw [if_neg hk0, if_neg hk1, if_neg hk2]; simp)
                      obtain ⟨cq, kq, qa, qb, qc⟩ := isOf hZ rfl q2
                      obtain ⟨v1', _, ⟨T2, L2, k2', n2⟩, -, X2, ⟨Lc, hQ, l2, y2, z2⟩, st2⟩ := X.virtualBack hx (y := y.name) (z := y.name) hown (mvT hZ wl) (mvT hZ w1) (notFace_of_selects (args := #[]) (mvT hZ w2)) (mvT hZ w2) (mvT hZ w3) hMH back qa qc (g := mkF m pc A Sc) rfl (by rw [hml]; exact hL.1.trans hLl) (Steps.refl _) (argsL := ws') (rest := rc) (fun sig q => by rw [hpar sig q]; simp [hna] at hwl; omega) hst hWW (dec hby) (fun _ _ => ⟨rfl, rfl, hcR, hsR⟩)
                      dsimp only [Pt.U, Pt.locs, Pt.cells, Pt.slots] at X2 l2 y2 z2 st2 hQ
                      subst l2 y2 z2
                      exact fin v1' T2 Lc X2 hQ fun t z => st2.trans z
                  · cases hrecv
                · cases hrecv
              | _ => simp [isInv] at hinv
            · cases h
          · cases h
      · split at h
        · split at h
          · rename_i S1 H1 k1' hxN
            obtain ⟨c0, s0, hcon, rfl, rfl⟩ := res_ext (α := Unit) h
            have m3 := ih mi (pc + len) _ S1 H1 v H' c0 s0 hcon d hmi
            intro p e R s m args below meth c T locs cells slots X cx k1 k2 ρ A Sc hL hLl hS hH hF
            have cx0 := cx
            obtain ⟨hx, hZ, hby, hml, hown, hnm, hret, hlk, hrf, hrw⟩ := cx
            obtain ⟨T2, ad, Sc2, X2, hS2, hH2, st2⟩ := stepN (A := A) X hx hZ hown hP hW hdm hit (dec hby) hlenOk hS hH hxN (by omega) (by omega)
            have := m3 p e R s m args below meth c T2 locs _ _ X2 cx0 (by omega) (by omega) (ρ ++ [ad]) A Sc2 (hL.forget er).mono (by rw [forget_len]; exact hLl) hS2 hH2 hF
            have q1 : cells + 1 + c0 = cells + (c0 + 1) := by omega
            have q2 : slots + k1' + s0 = slots + (s0 + k1') := by omega
            rw [q1, q2] at this
            exact this.step st2
          · cases h
        · split at h
          · rename_i L1 S1 H1 hxI
            have m3 := ih mi (pc + len) L1 S1 H1 v H' kc ks h d hmi
            intro p e R s m args below meth c T locs cells slots X cx k1 k2 ρ A Sc hL hLl hS hH hF
            have cx0 := cx
            obtain ⟨hx, hZ, hby, hml, hown, hnm, hret, hlk, hrf, hrw⟩ := cx
            obtain ⟨T2, locs2, A2, Sc2, X2, x3, hL2, hS2, hH2, hF2, st2⟩ := stepX X hx hZ hown hnm hP hW hdm hit (dec hby) hlenOk (hL.forget er) hS hH hF hxI
            have := m3 p e R s m args below meth c T2 locs2 cells slots X2 cx0 k1 k2 ρ A2 Sc2 hL2 (by rw [x3, forget_len]; exact hLl) hS2 hH2 hF2
            exact Done.step (t := []) (by rw [List.append_nil]; exact this) st2
          · cases h
end Sound
end Jvm.Own
namespace Jvm.Own
open Jvm Jvm.ClassFile Sem Op Lib Jvm.Free Jvm.Stand Jvm.LawKit Jvm.RoadKit Bundle
/-! Runs of the plain machine, rule by rule -/
def OEnds (P : PD) (mi pc : Nat) (L : List Slot) (S : List Value) (H : AHeap) (r : Res) : Prop := ∃ n0, ∀ n, n0 ≤ n → exe P n mi pc L S H = some r
def plainI : Instr → Bool
  | .goto _ => false
  | .if_icmp _ _ => false
  | .ifCond _ _ => false
  | .ifnonnull _ => false
  | .ireturn => false
  | .lreturn => false
  | .return_ => false
  | .invokestatic _ => false
  | .invokespecial _ => false
  | .invokevirtual _ => false
  | .new _ => false
  | .newarray _ => false
  | _ => true
section Rules
variable {P : PD} {mi pc len a q : Nat} {er : List Bool} {b : Int} {i : Instr} {d y : MD} {L L' : List Slot} {S S' as rest : List Value} {H H' H1 : AHeap} {r : Res} {kc ks : Nat} {v : Option Value}
theorem OEnds.up (h : ∀ n, exe P n mi q L' S' H' = some r → exe P (n + 1) mi pc L S H = some r) (E : OEnds P mi q L' S' H' r) : OEnds P mi pc L S H r := by
  obtain ⟨n0, E⟩ := E
  refine ⟨n0 + 1, fun n hn => ?_⟩
  obtain ⟨k, rfl⟩ : ∃ k, n = k + 1 := ⟨n - 1, by omega⟩
  exact h k (E k (by omega))
theorem OEnds.plain (hm : P.mth[mi]? = some d) (hf : fetch d.code pc = some (i, len, er, a, b)) (hp : plainI i = true) (hx : xI P (d.name.name == "<init>") d.cid i a b (forget er L) S H = some (L', S', H')) (E : OEnds P mi (pc + len) L' S' H' r) : OEnds P mi pc L S H r := by
  refine E.up fun n h => ?_
  unfold exe
  rw [hm]
  simp only
  rw [hf]
  simp only
  split
  all_goals first | (simp [plainI] at hp; done) | skip
  have h1 : ¬ isInv i = true := by
    cases i <;> first | (simp [plainI] at hp; done) | simp [isInv]
  have h2 : ¬ isNew i = true := by
    cases i <;> first | (simp [plainI] at hp; done) | simp [isNew]
  rw [if_neg h1, if_neg h2, hx]
  exact h
theorem OEnds.goto {o : Int} (hm : P.mth[mi]? = some d) (hf : fetch d.code pc = some (.goto o, len, er, a, b)) (ht : tgt pc o = some q) (E : OEnds P mi q (forget er L) S H r) : OEnds P mi pc L S H r := by
  refine E.up fun n h => ?_
  unfold exe
  rw [hm]
  simp only
  rw [hf]
  simp only
  rw [ht]
  exact h
theorem OEnds.icmpT {o : Int} {cd : ClassFile.Cond} {x z : Int32} (hm : P.mth[mi]? = some d) (hf : fetch d.code pc = some (.if_icmp cd o, len, er, a, b)) (ht : tgt pc o = some q) (hc : if_icmp.holds cd x z = true) (E : OEnds P mi q (forget er L) S H r) : OEnds P mi pc L (.int z :: .int x :: S) H r := by
  refine E.up fun n h => ?_
  unfold exe
  rw [hm]
  simp only
  rw [hf]
  simp only
  rw [if_pos hc, ht]
  exact h
theorem OEnds.icmpF {o : Int} {cd : ClassFile.Cond} {x z : Int32} (hm : P.mth[mi]? = some d) (hf : fetch d.code pc = some (.if_icmp cd o, len, er, a, b)) (hc : if_icmp.holds cd x z = false) (E : OEnds P mi (pc + 3) (forget er L) S H r) : OEnds P mi pc L (.int z :: .int x :: S) H r := by
  refine E.up fun n h => ?_
  unfold exe
  rw [hm]
  simp only
  rw [hf]
  simp only
  rw [if_neg (by rw [hc]; exact Bool.false_ne_true)]
  exact h
theorem OEnds.ifT {o : Int} {cd : ClassFile.Cond} {x : Int32} (hm : P.mth[mi]? = some d) (hf : fetch d.code pc = some (.ifCond cd o, len, er, a, b)) (ht : tgt pc o = some q) (hc : if_icmp.holds cd x 0 = true) (E : OEnds P mi q (forget er L) S H r) : OEnds P mi pc L (.int x :: S) H r := by
  refine E.up fun n h => ?_
  unfold exe
  rw [hm]
  simp only
  rw [hf]
  simp only
  rw [if_pos ((if0 cd x).trans hc), ht]
  exact h
theorem OEnds.ifF {o : Int} {cd : ClassFile.Cond} {x : Int32} (hm : P.mth[mi]? = some d) (hf : fetch d.code pc = some (.ifCond cd o, len, er, a, b)) (hc : if_icmp.holds cd x 0 = false) (E : OEnds P mi (pc + 3) (forget er L) S H r) : OEnds P mi pc L (.int x :: S) H r := by
  refine E.up fun n h => ?_
  unfold exe
  rw [hm]
  simp only
  rw [hf]
  simp only
  rw [if_neg (by rw [if0 cd x, hc]; exact Bool.false_ne_true)]
  exact h
theorem OEnds.nonnull {o : Int} {x : Nat} (hm : P.mth[mi]? = some d) (hf : fetch d.code pc = some (.ifnonnull o, len, er, a, b)) (ht : tgt pc o = some q) (E : OEnds P mi q (forget er L) S H r) : OEnds P mi pc L (.ref x :: S) H r := by
  refine E.up fun n h => ?_
  unfold exe
  rw [hm]
  simp only
  rw [hf]
  simp only
  rw [ht]
  exact h
theorem OEnds.iret {x : Int32} {u : Value} (hm : P.mth[mi]? = some d) (hf : fetch d.code pc = some (.ireturn, len, er, a, b)) (hv : retV d.ret x = some u) : OEnds P mi pc L [.int x] H (some u, H, 0, 0) := by
  refine ⟨1, fun n hn => ?_⟩
  obtain ⟨k, rfl⟩ : ∃ k, n = k + 1 := ⟨n - 1, by omega⟩
  unfold exe
  rw [hm]
  simp only
  rw [hf]
  simp only
  rw [hv]
theorem OEnds.lret {x : Int64} (hm : P.mth[mi]? = some d) (hf : fetch d.code pc = some (.lreturn, len, er, a, b)) (hv : d.ret = some .long) : OEnds P mi pc L [.long x] H (some (.long x), H, 0, 0) := by
  refine ⟨1, fun n hn => ?_⟩
  obtain ⟨k, rfl⟩ : ∃ k, n = k + 1 := ⟨n - 1, by omega⟩
  unfold exe
  rw [hm]
  simp only
  rw [hf]
  simp only
  rw [if_pos hv]
theorem OEnds.vret (hm : P.mth[mi]? = some d) (hf : fetch d.code pc = some (.return_, len, er, a, b)) (hv : d.ret = none) : OEnds P mi pc L [] H (none, H, 0, 0) := by
  refine ⟨1, fun n hn => ?_⟩
  obtain ⟨k, rfl⟩ : ∃ k, n = k + 1 := ⟨n - 1, by omega⟩
  unfold exe
  rw [hm]
  simp only
  rw [hf]
  simp only
  rw [if_pos hv]
theorem OEnds.oinit {k x : Nat} (hm : P.mth[mi]? = some d) (hf : fetch d.code pc = some (.invokespecial k, len, er, a, -1)) (hr : 1 ≤ d.rf ∧ catSum S + 12 ≤ d.rw) (E : OEnds P mi (pc + 3) (forget er L) S H r) : OEnds P mi pc L (.ref x :: S) H r := by
  refine E.up fun n h => ?_
  unfold exe
  rw [hm]
  simp only
  rw [hf]
  simp only [isInv, if_true]
  rw [if_pos hr]
  exact h
theorem OEnds.call (hm : P.mth[mi]? = some d) (hf : fetch d.code pc = some (i, len, er, a, b)) (hi : isInv i = true) (hb : ¬ b = -1) (hy : P.mth[a]? = some y) (hao : argsOf (nargs y) S = some (as, rest))
    (hc : (decide (0 < a) && invKind i y.kind && recvOk P H y as && fitsRoom d y rest && decide ((entA as).length ≤ y.maxL)) = true) (E1 : OEnds P a 0 (entL as y.maxL) [] H (v, H1, kc, ks)) (E2 : OEnds P mi (pc + 3) (forget er L) (v.toList ++ rest) H1 r) : OEnds P mi pc L S H (addR r kc ks) := by
  obtain ⟨n1, E1⟩ := E1
  obtain ⟨n2, E2⟩ := E2
  refine ⟨n1 + n2 + 1, fun n hn => ?_⟩
  obtain ⟨k, rfl⟩ : ∃ k, n = k + 1 := ⟨n - 1, by omega⟩
  have e1 := E1 k (by omega)
  have e2 := E2 k (by omega)
  unfold exe
  rw [hm]
  simp only
  rw [hf]
  simp only
  split
  all_goals first | (simp [isInv] at hi; done) | skip
  rw [if_pos hi, if_neg hb, hy]
  simp only
  rw [hao]
  simp only
  rw [if_pos hc, e1]
  simp only
  rw [e2]
  rfl
theorem OEnds.call0 (hm : P.mth[mi]? = some d) (hf : fetch d.code pc = some (i, len, er, a, b)) (hi : isInv i = true) (hb : ¬ b = -1) (hy : P.mth[a]? = some y) (hao : argsOf (nargs y) S = some (as, rest))
    (hc : (decide (0 < a) && invKind i y.kind && recvOk P H y as && fitsRoom d y rest && decide ((entA as).length ≤ y.maxL)) = true) (E1 : OEnds P a 0 (entL as y.maxL) [] H (v, H1, 0, 0)) (E2 : OEnds P mi (pc + 3) (forget er L) (v.toList ++ rest) H1 r) : OEnds P mi pc L S H r :=
  OEnds.call (r := r) hm hf hi hb hy hao hc E1 E2
theorem OEnds.made (hm : P.mth[mi]? = some d) (hf : fetch d.code pc = some (i, len, er, a, b)) (hi : isNew i = true) (hx : xN P i a S H = some (S', H', ks)) (E : OEnds P mi (pc + len) (forget er L) S' H' r) : OEnds P mi pc L S H (addR r 1 ks) := by
  obtain ⟨n0, E⟩ := E
  refine ⟨n0 + 1, fun n hn => ?_⟩
  obtain ⟨k, rfl⟩ : ∃ k, n = k + 1 := ⟨n - 1, by omega⟩
  have e1 := E k (by omega)
  unfold exe
  rw [hm]
  simp only
  rw [hf]
  simp only
  split
  all_goals first | (simp [isNew] at hi; done) | skip
  have h1 : ¬ isInv i = true := by
    cases i <;> first | (simp [isNew] at hi; done) | simp [isInv]
  rw [if_neg h1, if_pos hi, hx]
  simp only
  rw [e1]
  rfl
end Rules
/-- k plain instructions and jumps in one go -/
def adv (P : PD) (d : MD) : Nat → Nat → List Slot → List Value → AHeap → Option (Nat × List Slot × List Value × AHeap)
  | 0, pc, L, S, H => some (pc, L, S, H)
  | k + 1, pc, L, S, H => match fetch d.code pc with
    | some (i, len, er, a, b) => match i with
      | .goto o => match tgt pc o with
        | some q => adv P d k q (forget er L) S H
        | none => none
      | i => if plainI i = true then match xI P (d.name.name == "<init>") d.cid i a b (forget er L) S H with
          | some (L', S', H') => adv P d k (pc + len) L' S' H'
          | none => none
        else none
    | none => none
theorem OEnds.adv {P : PD} {mi : Nat} {d : MD} (hm : P.mth[mi]? = some d) {r : Res} : ∀ (k : Nat) {pc pc' : Nat} {L L' : List Slot} {S S' : List Value} {H H' : AHeap}, adv P d k pc L S H = some (pc', L', S', H') → OEnds P mi pc' L' S' H' r → OEnds P mi pc L S H r
  | 0, _, _, _, _, _, _, _, _, h, E => by
    unfold Own.adv at h
    cases h
    exact E
  | k + 1, pc, pc', L, L', S, S', H, H', h, E => by
    unfold Own.adv at h
    split at h
    · rename_i it i len er a b hf
      split at h
      · rename_i o
        split at h
        · rename_i q hq
          exact OEnds.goto hm hf hq (OEnds.adv hm k h E)
        · cases h
      · split at h
        · rename_i hp
          split at h
          · rename_i L1 S1 H1 hx
            exact OEnds.plain hm hf hp hx (OEnds.adv hm k h E)
          · cases h
        · cases h
    · cases h
theorem x_iaload {P : PD} {ini : Bool} {cid a o : Nat} {b : Int} {L : List Slot} {S : List Value} {H : AHeap} {A : List Int32} {j x : Int32} (h : H[o]? = some (.inr (.inl (false, A)))) (hx : rdA A j = some x) : xI P ini cid .iaload a b L (.int j :: .ref o :: S) H = some (L, .int x :: S, H) := by simp [xI, h, hx]
theorem x_baload {P : PD} {ini : Bool} {cid a o : Nat} {b : Int} {L : List Slot} {S : List Value} {H : AHeap} {A : List Int32} {j x : Int32} (h : H[o]? = some (.inr (.inl (true, A)))) (hx : rdA A j = some x) : xI P ini cid .baload a b L (.int j :: .ref o :: S) H = some (L, .int x :: S, H) := by simp [xI, h, hx]
theorem x_laload {P : PD} {ini : Bool} {cid a o : Nat} {b : Int} {L : List Slot} {S : List Value} {H : AHeap} {A : List Int64} {j : Int32} {x : Int64} (h : H[o]? = some (.inr (.inr A))) (hx : rdA A j = some x) : xI P ini cid .laload a b L (.int j :: .ref o :: S) H = some (L, .long x :: S, H) := by simp [xI, h, hx]
theorem x_iastore {P : PD} {ini : Bool} {cid a o : Nat} {b : Int} {L : List Slot} {S : List Value} {H : AHeap} {A A' : List Int32} {j x : Int32} (h : H[o]? = some (.inr (.inl (false, A)))) (hn : P.nr ≤ o) (hx : wrA A j x = some A') : xI P ini cid .iastore a b L (.int x :: .int j :: .ref o :: S) H = some (L, S, H.set o (.inr (.inl (false, A')))) := by simp [xI, h, hx, hn]
theorem x_bastore {P : PD} {ini : Bool} {cid a o : Nat} {b : Int} {L : List Slot} {S : List Value} {H : AHeap} {A A' : List Int32} {j x : Int32} (h : H[o]? = some (.inr (.inl (true, A)))) (hn : P.nr ≤ o) (hx : wrA A j (x &&& 1) = some A') : xI P ini cid .bastore a b L (.int x :: .int j :: .ref o :: S) H = some (L, S, H.set o (.inr (.inl (true, A')))) := by simp [xI, h, hx, hn]
theorem x_lastore {P : PD} {ini : Bool} {cid a o : Nat} {b : Int} {L : List Slot} {S : List Value} {H : AHeap} {A A' : List Int64} {j : Int32} {x : Int64} (h : H[o]? = some (.inr (.inr A))) (hn : P.nr ≤ o) (hx : wrA A j x = some A') : xI P ini cid .lastore a b L (.long x :: .int j :: .ref o :: S) H = some (L, S, H.set o (.inr (.inr A'))) := by simp [xI, h, hx, hn]
theorem x_irem {P : PD} {ini : Bool} {cid a : Nat} {b : Int} {L : List Slot} {S : List Value} {H : AHeap} {x y : Int32} (h : ¬ y = 0) : xI P ini cid .irem a b L (.int y :: .int x :: S) H = some (L, .int (x % y) :: S, H) := by simp [xI, h]
theorem x_idiv {P : PD} {ini : Bool} {cid a : Nat} {b : Int} {L : List Slot} {S : List Value} {H : AHeap} {x y : Int32} (h : ¬ y = 0) : xI P ini cid .idiv a b L (.int y :: .int x :: S) H = some (L, .int (x / y) :: S, H) := by simp [xI, h]
theorem x_lrem {P : PD} {ini : Bool} {cid a : Nat} {b : Int} {L : List Slot} {S : List Value} {H : AHeap} {x y : Int64} (h : ¬ y = 0) : xI P ini cid .lrem a b L (.long y :: .long x :: S) H = some (L, .long (x % y) :: S, H) := by simp [xI, h]
theorem x_ldiv {P : PD} {ini : Bool} {cid a : Nat} {b : Int} {L : List Slot} {S : List Value} {H : AHeap} {x y : Int64} (h : ¬ y = 0) : xI P ini cid .ldiv a b L (.long y :: .long x :: S) H = some (L, .long (x / y) :: S, H) := by simp [xI, h]
theorem c_lt {x y : Int64} : XT.cmpL x y < 0 ↔ x < y := by
  unfold XT.cmpL; split <;> (try split) <;> simp_all [Int64.lt_iff_toInt_lt, ← Int64.toInt_inj] <;> omega
theorem c_gt {x y : Int64} : 0 < XT.cmpL x y ↔ y < x := by
  unfold XT.cmpL; split <;> (try split) <;> simp_all [Int64.lt_iff_toInt_lt, ← Int64.toInt_inj] <;> omega
theorem c_eq {x y : Int64} : XT.cmpL x y = 0 ↔ x = y := by
  unfold XT.cmpL; split <;> (try split) <;> simp_all [Int64.lt_iff_toInt_lt, ← Int64.toInt_inj] <;> omega
end Jvm.Own
namespace Jvm.Own
open Jvm Jvm.ClassFile Sem Op Lib Jvm.Free Jvm.Stand Jvm.LawKit Jvm.RoadKit Bundle
theorem bnd {α β : Type} {o : Option α} {f : α → Option β} {b : β} (h : o.bind f = some b) : ∃ a, o = some a ∧ f a = some b := Option.bind_eq_some_iff.mp h
theorem x_putZ {P : PD} {ini : Bool} {k cid a o : Nat} {b : Int} {L : List Slot} {S : List Value} {H : AHeap} {fs : List Value} {nm ds : String} {x : Int32} (h : H[o]? = some (.inl (cid, fs))) (hn : P.nr ≤ o) (hf : ((P.cls[cid]?).bind fun cd => cd.2.2[a]?) = some (nm, ds, .boolean, false)) (hx : x = 0 ∨ x = 1) :
    xI P ini cid (.putfield k) a b L (.int x :: .ref o :: S) H = some (L, S, H.set o (.inl (cid, fs.set a (.int x)))) := by
  rcases hx with rfl | rfl <;> simp [xI, h, hn, hf, putOk]
section Rules
variable {P : PD} {mi pc len a q : Nat} {er : List Bool} {b : Int} {i : Instr} {d y : MD} {L L' : List Slot} {S S' as rest : List Value} {H H' H1 : AHeap} {r : Res} {kc ks : Nat} {v : Option Value}
theorem OEnds.made1 {w : Option Value} {Hf : AHeap} (hm : P.mth[mi]? = some d) (hf : fetch d.code pc = some (i, len, er, a, b)) (hi : isNew i = true) (hx : xN P i a S H = some (S', H', ks)) {c0 s0 c1 s1 : Nat} (hr : (c1, s1) = (c0 + 1, s0 + ks)) (E : OEnds P mi (pc + len) (forget er L) S' H' (w, Hf, c0, s0)) : OEnds P mi pc L S H (w, Hf, c1, s1) := by
  cases hr
  exact OEnds.made (r := (w, Hf, c0, s0)) hm hf hi hx E
/-! The same, of a run whose end is told by a property -/
def OEndsQ (P : PD) (mi pc : Nat) (L : List Slot) (S : List Value) (H : AHeap) (Q : Res → Prop) : Prop := ∃ r, OEnds P mi pc L S H r ∧ Q r
variable {Q : Res → Prop}
theorem OEndsQ.plain (hm : P.mth[mi]? = some d) (hf : fetch d.code pc = some (i, len, er, a, b)) (hp : plainI i = true) (hx : xI P (d.name.name == "<init>") d.cid i a b (forget er L) S H = some (L', S', H')) (E : OEndsQ P mi (pc + len) L' S' H' Q) : OEndsQ P mi pc L S H Q := by
  obtain ⟨r, E, hq⟩ := E; exact ⟨r, OEnds.plain hm hf hp hx E, hq⟩
theorem OEndsQ.icmpT {o : Int} {cd : ClassFile.Cond} {x z : Int32} (hm : P.mth[mi]? = some d) (hf : fetch d.code pc = some (.if_icmp cd o, len, er, a, b)) (ht : tgt pc o = some q) (hc : if_icmp.holds cd x z = true) (E : OEndsQ P mi q (forget er L) S H Q) : OEndsQ P mi pc L (.int z :: .int x :: S) H Q := by
  obtain ⟨r, E, hq⟩ := E; exact ⟨r, OEnds.icmpT hm hf ht hc E, hq⟩
theorem OEndsQ.icmpF {o : Int} {cd : ClassFile.Cond} {x z : Int32} (hm : P.mth[mi]? = some d) (hf : fetch d.code pc = some (.if_icmp cd o, len, er, a, b)) (hc : if_icmp.holds cd x z = false) (E : OEndsQ P mi (pc + 3) (forget er L) S H Q) : OEndsQ P mi pc L (.int z :: .int x :: S) H Q := by
  obtain ⟨r, E, hq⟩ := E; exact ⟨r, OEnds.icmpF hm hf hc E, hq⟩
theorem OEndsQ.ifT {o : Int} {cd : ClassFile.Cond} {x : Int32} (hm : P.mth[mi]? = some d) (hf : fetch d.code pc = some (.ifCond cd o, len, er, a, b)) (ht : tgt pc o = some q) (hc : if_icmp.holds cd x 0 = true) (E : OEndsQ P mi q (forget er L) S H Q) : OEndsQ P mi pc L (.int x :: S) H Q := by
  obtain ⟨r, E, hq⟩ := E; exact ⟨r, OEnds.ifT hm hf ht hc E, hq⟩
theorem OEndsQ.ifF {o : Int} {cd : ClassFile.Cond} {x : Int32} (hm : P.mth[mi]? = some d) (hf : fetch d.code pc = some (.ifCond cd o, len, er, a, b)) (hc : if_icmp.holds cd x 0 = false) (E : OEndsQ P mi (pc + 3) (forget er L) S H Q) : OEndsQ P mi pc L (.int x :: S) H Q := by
  obtain ⟨r, E, hq⟩ := E; exact ⟨r, OEnds.ifF hm hf hc E, hq⟩
theorem OEndsQ.nonnull {o : Int} {x : Nat} (hm : P.mth[mi]? = some d) (hf : fetch d.code pc = some (.ifnonnull o, len, er, a, b)) (ht : tgt pc o = some q) (E : OEndsQ P mi q (forget er L) S H Q) : OEndsQ P mi pc L (.ref x :: S) H Q := by
  obtain ⟨r, E, hq⟩ := E; exact ⟨r, OEnds.nonnull hm hf ht E, hq⟩
theorem OEndsQ.call0 (hm : P.mth[mi]? = some d) (hf : fetch d.code pc = some (i, len, er, a, b)) (hi : isInv i = true) (hb : ¬ b = -1) (hy : P.mth[a]? = some y) (hao : argsOf (nargs y) S = some (as, rest))
    (hc : (decide (0 < a) && invKind i y.kind && recvOk P H y as && fitsRoom d y rest && decide ((entA as).length ≤ y.maxL)) = true) (E1 : OEnds P a 0 (entL as y.maxL) [] H (v, H1, 0, 0)) (E2 : OEndsQ P mi (pc + 3) (forget er L) (v.toList ++ rest) H1 Q) : OEndsQ P mi pc L S H Q := by
  obtain ⟨r, E, hq⟩ := E2; exact ⟨r, OEnds.call0 hm hf hi hb hy hao hc E1 E, hq⟩
theorem OEndsQ.adv (hm : P.mth[mi]? = some d) (k : Nat) {pc' : Nat} (h : adv P d k pc L S H = some (pc', L', S', H')) (E : OEndsQ P mi pc' L' S' H' Q) : OEndsQ P mi pc L S H Q := by
  obtain ⟨r, E, hq⟩ := E; exact ⟨r, OEnds.adv hm k h E, hq⟩
/-- what a law's run ends with: its answer, and at the most so many cells and slots made -/
def LawQ (x : Int32) (kc ks : Nat) (r : Res) : Prop := r.1 = some (.int x) ∧ r.2.2.1 ≤ kc ∧ r.2.2.2 ≤ ks
theorem OEndsQ.iret {x u : Int32} (hm : P.mth[mi]? = some d) (hf : fetch d.code pc = some (.ireturn, len, er, a, b)) (hv : retV d.ret x = some (.int u)) : OEndsQ P mi pc L [.int x] H (LawQ u kc ks) :=
  ⟨_, OEnds.iret hm hf hv, rfl, Nat.zero_le _, Nat.zero_le _⟩
theorem OEndsQ.weak {x : Int32} {c0 s0 : Nat} (h1 : c0 ≤ kc) (h2 : s0 ≤ ks) (E : OEndsQ P mi pc L S H (LawQ x c0 s0)) : OEndsQ P mi pc L S H (LawQ x kc ks) := by
  obtain ⟨r, E, q1, q2, q3⟩ := E; exact ⟨r, E, q1, Nat.le_trans q2 h1, Nat.le_trans q3 h2⟩
theorem OEndsQ.made {x : Int32} {c0 s0 c1 s1 : Nat} (hm : P.mth[mi]? = some d) (hf : fetch d.code pc = some (i, len, er, a, b)) (hi : isNew i = true) (hx : xN P i a S H = some (S', H', ks)) (h1 : c0 + 1 ≤ c1) (h2 : s0 + ks ≤ s1) (E : OEndsQ P mi (pc + len) (forget er L) S' H' (LawQ x c0 s0)) : OEndsQ P mi pc L S H (LawQ x c1 s1) := by
  obtain ⟨⟨v, Hf, k, n⟩, E, q1, q2, q3⟩ := E
  dsimp only at q1 q2 q3
  exact ⟨_, OEnds.made hm hf hi hx E, q1, by show k + 1 ≤ c1; omega, by show n + ks ≤ s1; omega⟩
theorem OEndsQ.callN {x : Int32} {c0 s0 c1 s1 : Nat} (hm : P.mth[mi]? = some d) (hf : fetch d.code pc = some (i, len, er, a, b)) (hi : isInv i = true) (hb : ¬ b = -1) (hy : P.mth[a]? = some y) (hao : argsOf (nargs y) S = some (as, rest))
    (hc : (decide (0 < a) && invKind i y.kind && recvOk P H y as && fitsRoom d y rest && decide ((entA as).length ≤ y.maxL)) = true) (E1 : OEnds P a 0 (entL as y.maxL) [] H (v, H1, kc, ks)) (h1 : c0 + kc ≤ c1) (h2 : s0 + ks ≤ s1) (E2 : OEndsQ P mi (pc + 3) (forget er L) (v.toList ++ rest) H1 (LawQ x c0 s0)) : OEndsQ P mi pc L S H (LawQ x c1 s1) := by
  obtain ⟨⟨v, Hf, k, n⟩, E, q1, q2, q3⟩ := E2
  dsimp only at q1 q2 q3
  exact ⟨_, OEnds.call hm hf hi hb hy hao hc E1 E, q1, by show k + kc ≤ c1; omega, by show n + ks ≤ s1; omega⟩
end Rules
/-! From the machine to the claim -/
theorem law_met {P : PD} {Z : State} {a0 : Array Value} {l : Launch} {y : MD} {as ws : List Value} {H : AHeap} {ρ : List Addr} {n0 kc ks : Nat} {h : Heap} (hP : chk P = true) (hW : ∀ w ∈ wordsOf P, w.before a0 Z = true) (hy : P.mth[0]? = some y)
    (E : OEndsQ P 0 0 (entL as y.maxL) [] H (LawQ 1 kc ks)) (hS : SR ρ as ws) (hlen : (entA as).length ≤ y.maxL) (hH : HR P Z n0 h ρ H) (w0 : List Jvm.Cond) (rm : Room) (r1 : y.rf ≤ rm.frames) (r2 : y.rw ≤ rm.locals) (r3 : kc ≤ rm.cells) (r4 : ks ≤ rm.slots) :
    MetFree l y.name (head1 (Jvm.Cond.code y.name y.bytes y.maxL y.ret :: w0) rm) (fun a U => a = ws.toArray ∧ Z.Warmed39 U.vm ∧ U.heap = h) (fun _ _ _ _ _ => True)
      (fun _ U o U' => ∃ L, o = .returned (some (.int 1)) ∧ Fr n0 L ∧ FrameEnd U o U' L kc ks) := by
  obtain ⟨⟨v, H1, c1, s1⟩, ⟨n, E⟩, q1, q2, q3⟩ := E
  dsimp only at q1 q2 q3
  subst q1
  have hpn : plainName y.name.cls = true := by
    have := mChk_of hP (List.mem_of_getElem? hy)
    simp only [mChk, Bool.and_eq_true] at this
    exact this.1.1.1.1.1.1
  have M := met_of (l := l) (n := n) (sound hP hW n) hy hpn (E n (Nat.le_refl _)) hS hlen hH w0 rm r1 r2 (Nat.le_trans q2 r3) (Nat.le_trans q3 r4)
  intro p e ha hc hk s m args below hf happ hp hK
  obtain ⟨n', o, h1, h2, h3, v', L, rfl, ⟨hF, t, ⟨u, rfl, hu⟩, -⟩, hq⟩ := M p e ha hc hk s m args below hf happ hp hK
  obtain rfl : u = .int 1 := hu
  exact ⟨n', _, h1, h2, h3, L, rfl, hF, hq.1, hq.2.1, hq.2.2.mono q2 q3⟩
end Jvm.Own
namespace Jvm.Own
open Jvm Jvm.ClassFile Sem Op Lib Jvm.Free Jvm.Stand Jvm.LawKit Jvm.RoadKit Bundle
/-- the law's script: an int array of at most 260 -/
theorem script_of {s : State} {ad : Addr} {cl : Cell} (hf : Fit s) (A : Arr s s.heap ad cl .int) (e0 : (Term.arg 0).eval #[.ref ad] s none [] s = some (.ref ad)) (hn : (Jvm.Cond.le (.length (.arg 0)) (.int 260)).value #[.ref ad] s none s [] = some true) :
    ∃ scr : List Int32, cl.slots.size = scr.length ∧ scr.length ≤ 260 ∧ ∀ (i : Nat) x, scr[i]? = some x → cl.slots[i]? = some (.int x) := by
  obtain ⟨u, v, g1, g2, -, -⟩ := cmp_v (Or.inr (Or.inr hn))
  obtain ⟨a', cl', z1, z2, z3⟩ := Term.length_spec g1
  have hat := A.fin (Vm.Alike.refl _)
  rw [e0] at z1
  cases z1
  rw [hat] at z2
  cases z2
  have hsz : cl.slots.size < 2 ^ 31 := by
    rcases Nat.lt_or_ge cl.slots.size (2 ^ 31) with q | q
    · exact q
    · exfalso
      simp [Term.eval, hat] at g1
      omega
  subst z3
  have hv : v = .int 260 := by simpa [Term.eval] using g2.symm
  subst hv
  have hle : cl.slots.size.toInt32 ≤ 260 := by
    simpa [Cond.value, g1, g2] using hn
  have hle' : cl.slots.size ≤ 260 := by
    rw [Int32.le_iff_toInt_le, len_toInt hsz] at hle
    have : (260 : Int32).toInt = 260 := rfl
    rw [this] at hle
    omega
  have key : ∀ i, i < cl.slots.size → ∃ x, cl.slots[i]? = some (.int x) := fun i hi => by
    have hj := idx_in hi hsz
    obtain ⟨v, e1, e2⟩ := elem_fit hf A hj
    have : i.toInt32.toNatClampNeg = i := by
      have h1 : i.toInt32.toInt = i := len_toInt (by omega)
      simp [Int32.toNatClampNeg, h1]
    rw [this] at e1
    obtain ⟨x, rfl⟩ := fit_I e2 (Or.inl rfl)
    exact ⟨x, e1⟩
  refine ⟨cl.slots.toList.map fun v => match v with | .int x => x | _ => 0, by simp, by simpa using hle', fun i x hx => ?_⟩
  rw [List.getElem?_map] at hx
  obtain ⟨v, h1, h2⟩ := Option.map_eq_some_iff.mp hx
  have h1' : cl.slots[i]? = some v := by simpa using h1
  obtain ⟨y, hy⟩ := key i (Array.getElem?_eq_some_iff.mp h1').1
  rw [h1'] at hy
  cases hy
  rw [h1']
  simp at h2
  rw [h2]
theorem hr_script {P : PD} {s : State} {ad : Addr} {cl : Cell} {scr : List Int32} (hnr : P.nr = 1) (A : Arr s s.heap ad cl .int) (h1 : cl.slots.size = scr.length) (h2 : scr.length ≤ 260) (h3 : ∀ (i : Nat) x, scr[i]? = some x → cl.slots[i]? = some (.int x)) : HR P s s.heap.size s.heap [ad] [.inr (.inl (false, scr))] := by
  refine ⟨Nat.le_refl _, rfl, fun i j a g1 g2 => ?_, fun k a g1 g2 => ?_, fun k a c g1 g2 => ?_⟩
  · match i, j, g1, g2 with
    | 0, 0, _, _ => rfl
    | i + 1, _, g1, _ => simp at g1
    | 0, j + 1, _, g2 => simp at g2
  · match k, g1, g2 with
    | 0, _, g2 => rw [hnr] at g2; omega
    | k + 1, g1, _ => simp at g1
  · match k, g1, g2 with
    | 0, g1, g2 =>
      simp at g1 g2
      subst g1 g2
      exact ⟨cl, A, h1, by omega, h3⟩
    | k + 1, g1, _ => simp at g1
end Jvm.Own
namespace Jvm.Own
open Jvm
/-! Ints in range, arrays -/
theorem ilt {a b : Int32} : a < b ↔ a.toInt < b.toInt := Int32.lt_iff_toInt_lt
theorem ile {a b : Int32} : a ≤ b ↔ a.toInt ≤ b.toInt := Int32.le_iff_toInt_le
theorem ieq {a b : Int32} : a = b ↔ a.toInt = b.toInt := Int32.toInt_inj.symm
theorem irng (a : Int32) : -2147483648 ≤ a.toInt ∧ a.toInt < 2147483648 := ⟨Int32.le_toInt a, Int32.toInt_lt a⟩
theorem iadd_i {a b : Int32} (h1 : -2147483648 ≤ a.toInt + b.toInt) (h2 : a.toInt + b.toInt < 2147483648) : (a + b).toInt = a.toInt + b.toInt := by
  rw [Int32.toInt_add]; exact Int.bmod_eq_of_le (by omega) (by omega)
theorem isub_i {a b : Int32} (h1 : -2147483648 ≤ a.toInt - b.toInt) (h2 : a.toInt - b.toInt < 2147483648) : (a - b).toInt = a.toInt - b.toInt := by
  rw [Int32.toInt_sub]; exact Int.bmod_eq_of_le (by omega) (by omega)
theorem imul_i {a b : Int32} (h1 : -2147483648 ≤ a.toInt * b.toInt) (h2 : a.toInt * b.toInt < 2147483648) : (a * b).toInt = a.toInt * b.toInt := by
  rw [Int32.toInt_mul]; exact Int.bmod_eq_of_le (by omega) (by omega)
theorem rdA_nn {α : Type} {L : List α} {j : Int32} (h0 : 0 ≤ j.toInt) : rdA L j = L[j.toInt.toNat]? := by
  unfold rdA
  rw [if_neg (by rw [ilt]; exact Int.not_lt.mpr h0)]
  rfl
theorem rdA_in {α : Type} {L : List α} {j : Int32} (h0 : 0 ≤ j.toInt) (h1 : j.toInt.toNat < L.length) : rdA L j = some L[j.toInt.toNat] := by
  rw [rdA_nn h0, List.getElem?_eq_getElem h1]
theorem wrA_in {α : Type} {L : List α} {j : Int32} {x : α} (h0 : 0 ≤ j.toInt) (h1 : j.toInt.toNat < L.length) : wrA L j x = some (L.set j.toInt.toNat x) := by
  unfold wrA
  rw [if_neg (by rw [ilt]; exact Int.not_lt.mpr h0)]
  exact if_pos h1
theorem rdA_rep {α : Type} {n : Nat} {x : α} {j : Int32} (h0 : 0 ≤ j.toInt) (h1 : j.toInt < n) : rdA (List.replicate n x) j = some x := by
  rw [rdA_nn h0, List.getElem?_replicate, if_pos (by omega)]
end Jvm.Own
namespace Jvm.Own
open Jvm
/-! Sums of ints with their wrap, for omega; runs that answer, and what they answer -/
theorem bmod32 (x : Int) : x.bmod (2 ^ 32) = (x + 2147483648) % 4294967296 - 2147483648 := by
  rw [Int.bmod_def]
  split <;> omega
theorem iadd_e (a b : Int32) : (a + b).toInt = (a.toInt + b.toInt + 2147483648) % 4294967296 - 2147483648 := by
  rw [Int32.toInt_add, bmod32]
theorem isub_e (a b : Int32) : (a - b).toInt = (a.toInt - b.toInt + 2147483648) % 4294967296 - 2147483648 := by
  rw [Int32.toInt_sub, bmod32]
theorem imul_e (a b : Int32) : (a * b).toInt = (a.toInt * b.toInt + 2147483648) % 4294967296 - 2147483648 := by
  rw [Int32.toInt_mul, bmod32]
theorem iscr {n : Nat} (h : n ≤ 260) : (n.toInt32).toInt = n := Int32.toInt_ofNat_of_lt (by omega)
def Tot {α : Type} (x : Option α) (P : α → Prop) : Prop := ∃ r, x = some r ∧ P r
theorem Tot.mk {α : Type} {P : α → Prop} {a : α} (h : P a) : Tot (some a) P := ⟨a, rfl, h⟩
theorem Tot.bind {α β : Type} {x : Option α} {f : α → Option β} {P : α → Prop} {Q : β → Prop} (h : Tot x P) (g : ∀ a, P a → Tot (f a) Q) : Tot (x.bind f) Q := by
  obtain ⟨r, e, p⟩ := h
  rw [e]
  exact g r p
theorem Tot.mono {α : Type} {x : Option α} {P Q : α → Prop} (h : Tot x P) (g : ∀ a, P a → Q a) : Tot x Q := by
  obtain ⟨r, e, p⟩ := h
  exact ⟨r, e, g r p⟩
theorem Tot.ite {α : Type} {c : Prop} [Decidable c] {a b : Option α} {Q : α → Prop} (h1 : c → Tot a Q) (h2 : ¬ c → Tot b Q) : Tot (if c then a else b) Q := by
  by_cases h : c
  · rw [if_pos h]; exact h1 h
  · rw [if_neg h]; exact h2 h
theorem Tot.rd {α β : Type} {L : List α} {j : Int32} {f : α → Option β} {Q : β → Prop} (h0 : 0 ≤ j.toInt) (h1 : j.toInt < L.length) (g : ∀ a, L[j.toInt.toNat]? = some a → Tot (f a) Q) : Tot ((rdA L j).bind f) Q := by
  have h2 : j.toInt.toNat < L.length := by omega
  rw [rdA_in h0 h2]
  exact g _ (List.getElem?_eq_getElem h2)
theorem Tot.wr {α β : Type} {L : List α} {j : Int32} {x : α} {f : List α → Option β} {Q : β → Prop} (h0 : 0 ≤ j.toInt) (h1 : j.toInt < L.length) (g : ∀ L' : List α, L' = L.set j.toInt.toNat x → L'.length = L.length → Tot (f L') Q) : Tot ((wrA L j x).bind f) Q := by
  rw [wrA_in h0 (by omega)]
  exact g _ rfl (by simp)
theorem Tot.eq {α : Type} {x : Option α} {a : α} (h : Tot x (fun r => r = a)) : x = some a := by
  obtain ⟨r, e, p⟩ := h
  rw [e, p]
theorem Tot.of {α : Type} {x : Option α} {a : α} {P : α → Prop} (e : x = some a) (p : P a) : Tot x P := ⟨a, e, p⟩
/-- a bit mask at 15, 31 .. -/
theorem iand_rng (x : Int32) (m : Int32) (h : 0 ≤ m.toInt) : 0 ≤ (x &&& m).toInt ∧ (x &&& m).toInt ≤ m.toInt := by
  have hm : m.toBitVec.msb = false := by
    rw [BitVec.msb_eq_toInt]; simpa using h
  have hx : (x &&& m).toBitVec.msb = false := by
    rw [Int32.toBitVec_and, BitVec.msb_and, hm, Bool.and_false]
  have e1 : m.toInt = (m.toBitVec.toNat : Int) := BitVec.toInt_eq_toNat_of_msb hm
  have e2 : (x &&& m).toInt = (((x &&& m).toBitVec).toNat : Int) := BitVec.toInt_eq_toNat_of_msb hx
  have e3 : ((x &&& m).toBitVec).toNat ≤ m.toBitVec.toNat := by
    rw [Int32.toBitVec_and, BitVec.toNat_and]; exact Nat.and_le_right
  omega
def gI (L : List Int32) (j : Int32) : Int32 := (rdA L j).getD 0
theorem rdg {L : List Int32} {j : Int32} (h0 : 0 ≤ j.toInt) (h1 : j.toInt < L.length) : rdA L j = some (gI L j) := by
  have h2 : j.toInt.toNat < L.length := by omega
  unfold gI
  rw [rdA_in h0 h2]
  (first | done | rfl | simp)
theorem gset {L : List Int32} {i j : Int32} {x : Int32} (hi : 0 ≤ i.toInt) (hl : i.toInt < L.length) (hj : 0 ≤ j.toInt) : gI (L.set i.toInt.toNat x) j = if i = j then x else gI L j := by
  unfold gI
  rw [rdA_nn hj, rdA_nn hj]
  by_cases h : i = j
  · subst h
    rw [if_pos rfl, List.getElem?_set_self (by omega)]
    (first | done | rfl | simp)
  · rw [if_neg h, List.getElem?_set_ne (by rw [ieq] at h; omega)]
theorem gext {A B : List Int32} (hl : A.length < 100000) (ha : A.length = B.length) (h : ∀ i : Int32, 0 ≤ i.toInt → i.toInt < A.length → gI A i = gI B i) : A = B := by
  apply List.ext_getElem ha
  intro k h1 h2
  have e : (Int32.ofNat k).toInt = k := Int32.toInt_ofNat_of_lt (by omega)
  have q := h (Int32.ofNat k) (by omega) (by omega)
  unfold gI at q
  rw [rdA_nn (by omega), rdA_nn (by omega), e] at q
  simpa [h1, h2] using q
theorem Tot.rdI {β : Type} {L : List Int32} {j : Int32} {f : Int32 → Option β} {Q : β → Prop} (h0 : 0 ≤ j.toInt) (h1 : j.toInt < L.length) (g : Tot (f (gI L j)) Q) : Tot ((rdA L j).bind f) Q := by
  rw [rdg h0 h1]
  exact g
theorem gI_rep {n : Nat} {x : Int32} {j : Int32} (h0 : 0 ≤ j.toInt) (h1 : j.toInt < n) : gI (List.replicate n x) j = x := by
  unfold gI
  rw [rdA_rep h0 h1]
  (first | done | rfl | simp)
/-! Longs -/
theorem lltI {a b : Int64} : a < b ↔ a.toInt < b.toInt := Int64.lt_iff_toInt_lt
theorem leqI {a b : Int64} : a = b ↔ a.toInt = b.toInt := Int64.toInt_inj.symm
theorem lrng (a : Int64) : -9223372036854775808 ≤ a.toInt ∧ a.toInt < 9223372036854775808 := ⟨Int64.le_toInt a, Int64.toInt_lt a⟩
theorem ladd_i {a b : Int64} (h1 : -9223372036854775808 ≤ a.toInt + b.toInt) (h2 : a.toInt + b.toInt < 9223372036854775808) : (a + b).toInt = a.toInt + b.toInt := by
  rw [Int64.toInt_add]; exact Int.bmod_eq_of_le (by omega) (by omega)
theorem lsub_i {a b : Int64} (h1 : -9223372036854775808 ≤ a.toInt - b.toInt) (h2 : a.toInt - b.toInt < 9223372036854775808) : (a - b).toInt = a.toInt - b.toInt := by
  rw [Int64.toInt_sub]; exact Int.bmod_eq_of_le (by omega) (by omega)
theorem lmul_i {a b : Int64} (h1 : -9223372036854775808 ≤ a.toInt * b.toInt) (h2 : a.toInt * b.toInt < 9223372036854775808) : (a * b).toInt = a.toInt * b.toInt := by
  rw [Int64.toInt_mul]; exact Int.bmod_eq_of_le (by omega) (by omega)
theorem lmod_i {a b : Int64} (h : 0 ≤ a.toInt) : (a % b).toInt = a.toInt % b.toInt := by
  rw [Int64.toInt_mod, Int.tmod_eq_emod_of_nonneg h]
theorem lback {a : Int64} (h1 : -2147483648 ≤ a.toInt) (h2 : a.toInt < 2147483648) : a.toInt32.toInt64 = a := by
  rw [leqI, Int32.toInt_toInt64, Int64.toInt_toInt32, bmod32]
  omega
theorem mulb {a b M : Int} (h0 : 0 ≤ a) (h1 : a ≤ M) (h2 : 0 ≤ b) (h3 : b ≤ M) : 0 ≤ a * b ∧ a * b ≤ M * M :=
  ⟨Int.mul_nonneg h0 h2, Int.mul_le_mul h1 h3 h2 (by omega)⟩
end Jvm.Own
namespace Jvm.Pilot.@@N@@
open Jvm Jvm.ClassFile Sem Op Lib Jvm.Free Jvm.Stand Jvm.LawKit Jvm.RoadKit Bundle Jvm.Own Jvm.Pilot.@@N@@.Jvm.D
def d_0 : MD := (x, code, maxLocals, ret, 0, 6, 999, 5, 83, [(0, .iload_n 0, 1, [], 0, 0), (1, .iconst 1, 1, [], 0, 0), (2, .iand, 1, [], 0, 0), (3, .istore 6, 2, [], 0, 0), (5, .iload_n 1, 1, [], 0, 0), (6, .bipush 31, 2, [], 0, 0), (8, .iand, 1, [], 0, 0), (9, .istore 7, 2, [], 0, 0), (11, .iconst 1, 1, [], 0, 0), (12, .iload_n 2, 1, [], 0, 0), (13, .ldc 7, 2, [], 0, 2147483647), (15, .iand, 1, [], 0, 0), (16, .bipush 32, 2, [], 0, 0), (18, .iload 7, 2, [], 0, 0), (20, .isub, 1, [], 0, 0), (21, .irem, 1, [], 0, 0), (22, .iadd, 1, [], 0, 0), (23, .istore 8, 2, [], 0, 0), (25, .iload_n 3, 1, [], 0, 0), (26, .iconst 1, 1, [], 0, 0), (27, .iand, 1, [], 0, 0), (28, .istore 9, 2, [], 0, 0), (30, .iload 4, 2, [], 0, 0), (32, .bipush 31, 2, [], 0, 0), (34, .iand, 1, [], 0, 0), (35, .istore 10, 2, [], 0, 0), (37, .iconst 1, 1, [], 0, 0), (38, .iload 5, 2, [], 0, 0), (40, .ldc 7, 2, [], 0, 2147483647), (42, .iand, 1, [], 0, 0), (43, .bipush 32, 2, [], 0, 0), (45, .iload 10, 2, [], 0, 0), (47, .isub, 1, [], 0, 0), (48, .irem, 1, [], 0, 0), (49, .iadd, 1, [], 0, 0), (50, .istore 11, 2, [], 0, 0), (52, .new 8, 3, [], 0, 0), (55, .dup, 1, [], 0, 0), (56, .iconst 1, 1, [], 0, 0), (57, .iconst 1, 1, [], 0, 0), (58, .iconst 0, 1, [], 0, 0), (59, .invokespecial 10, 3, [], 1, 0), (62, .astore 12, 2, [], 0, 0), (64, .aload 12, 2, [], 0, 0), (66, .iload 6, 2, [], 0, 0), (68, .iload 7, 2, [], 0, 0), (70, .iload 8, 2, [], 0, 0), (72, .invokevirtual 13, 3, [], 7, 0), (75, .ifCond .eq 5, 3, [], 0, 0), (78, .iconst 0, 1, [], 0, 0), (79, .ireturn, 1, [], 0, 0), (80, .iload 7, 2, [], 0, 0), (82, .iload 10, 2, [], 0, 0), (84, .iload 11, 2, [], 0, 0), (86, .iadd, 1, [], 0, 0), (87, .if_icmp .ge 17, 3, [], 0, 0), (90, .iload 10, 2, [], 0, 0), (92, .iload 7, 2, [], 0, 0), (94, .iload 8, 2, [], 0, 0), (96, .iadd, 1, [], 0, 0), (97, .if_icmp .ge 7, 3, [], 0, 0), (100, .iconst 1, 1, [], 0, 0), (101, .goto 4, 3, [], 0, 0), (104, .iconst 0, 1, [], 0, 0), (105, .istore 13, 2, [true, true, true, true, true, true, false, false, true, false, false, false, false, true, true, true, true, true, true, true, true], 0, 0), (107, .iload 13, 2, [], 0, 0), (109, .ifCond .eq 15, 3, [], 0, 0), (112, .iload 6, 2, [], 0, 0), (114, .iconst 1, 1, [], 0, 0), (115, .if_icmp .ne 9, 3, [], 0, 0), (118, .iload 9, 2, [], 0, 0), (120, .iconst 1, 1, [], 0, 0), (121, .if_icmp .eq 7, 3, [], 0, 0), (124, .iconst 1, 1, [], 0, 0), (125, .goto 4, 3, [], 0, 0), (128, .iconst 0, 1, [], 0, 0), (129, .istore 14, 2, [true, true, true, true, true, true, false, false, true, false, false, false, false, false, true, true, true, true, true, true, true], 0, 0), (131, .aload 12, 2, [], 0, 0), (133, .iload 9, 2, [], 0, 0), (135, .iload 10, 2, [], 0, 0), (137, .iload 11, 2, [], 0, 0), (139, .invokevirtual 13, 3, [], 7, 0), (142, .istore 15, 2, [], 0, 0), (144, .iload 15, 2, [], 0, 0), (146, .iload 14, 2, [], 0, 0), (148, .ifCond .eq 7, 3, [], 0, 0), (151, .iconst 1, 1, [], 0, 0), (152, .goto 5, 3, [], 0, 0), (155, .bipush (-4), 2, [], 0, 0), (157, .if_icmp .eq 5, 3, [true, true, true, true, true, true, false, false, true, false, false, false, false, false, false, true, true, true, true, true, true], 0, 0), (160, .iconst 0, 1, [], 0, 0), (161, .ireturn, 1, [], 0, 0), (162, .aload 12, 2, [], 0, 0), (164, .invokevirtual 17, 3, [], 24, 0), (167, .ifCond .eq 5, 3, [], 0, 0), (170, .iconst 0, 1, [], 0, 0), (171, .ireturn, 1, [], 0, 0), (172, .iload 14, 2, [], 0, 0), (174, .ifCond .ne 13, 3, [], 0, 0), (177, .iload 6, 2, [], 0, 0), (179, .istore 16, 2, [], 0, 0), (181, .iconst (-1), 1, [], 0, 0), (182, .istore 17, 2, [], 0, 0), (184, .goto 73, 3, [], 0, 0), (187, .iload 13, 2, [], 0, 0), (189, .ifCond .ne 14, 3, [], 0, 0), (192, .iload 6, 2, [], 0, 0), (194, .istore 16, 2, [], 0, 0), (196, .iload 9, 2, [], 0, 0), (198, .istore 17, 2, [], 0, 0), (200, .goto 57, 3, [], 0, 0), (203, .iload 7, 2, [], 0, 0), (205, .iload 10, 2, [], 0, 0), (207, .if_icmp .gt 28, 3, [], 0, 0), (210, .iload 6, 2, [], 0, 0), (212, .istore 16, 2, [], 0, 0), (214, .iload 9, 2, [], 0, 0), (216, .iconst 1, 1, [], 0, 0), (217, .if_icmp .eq 8, 3, [], 0, 0), (220, .iload 6, 2, [], 0, 0), (222, .ifCond .ne 7, 3, [], 0, 0), (225, .iconst 1, 1, [], 0, 0), (226, .goto 4, 3, [], 0, 0), (229, .iconst 0, 1, [], 0, 0), (230, .istore 17, 2, [], 0, 0), (232, .goto 25, 3, [], 0, 0), (235, .iload 9, 2, [], 0, 0), (237, .istore 17, 2, [], 0, 0), (239, .iload 6, 2, [], 0, 0), (241, .iconst 1, 1, [], 0, 0), (242, .if_icmp .eq 8, 3, [], 0, 0), (245, .iload 9, 2, [], 0, 0), (247, .ifCond .ne 7, 3, [], 0, 0), (250, .iconst 1, 1, [], 0, 0), (251, .goto 4, 3, [], 0, 0), (254, .iconst 0, 1, [], 0, 0), (255, .istore 16, 2, [], 0, 0), (257, .aload 12, 2, [true, true, true, true, true, true, true, false, true, true, false, false, false, true, false, true, false, false, true, true, true], 0, 0), (259, .invokevirtual 21, 3, [], 25, 0), (262, .ifCond .eq 5, 3, [], 0, 0), (265, .iconst 0, 1, [], 0, 0), (266, .ireturn, 1, [], 0, 0), (267, .aload 12, 2, [], 0, 0), (269, .invokevirtual 17, 3, [], 24, 0), (272, .ifCond .ne 5, 3, [], 0, 0), (275, .iconst 0, 1, [], 0, 0), (276, .ireturn, 1, [], 0, 0), (277, .aload 12, 2, [], 0, 0), (279, .iconst 0, 1, [], 0, 0), (280, .invokevirtual 25, 3, [], 33, 0), (283, .iload 16, 2, [], 0, 0), (285, .if_icmp .eq 5, 3, [], 0, 0), (288, .iconst 0, 1, [], 0, 0), (289, .ireturn, 1, [], 0, 0), (290, .aload 12, 2, [], 0, 0), (292, .iconst 1, 1, [], 0, 0), (293, .invokevirtual 25, 3, [], 33, 0), (296, .iload 17, 2, [], 0, 0), (298, .if_icmp .eq 5, 3, [], 0, 0), (301, .iconst 0, 1, [], 0, 0), (302, .ireturn, 1, [], 0, 0), (303, .iload 14, 2, [], 0, 0), (305, .ifCond .eq 24, 3, [], 0, 0), (308, .iload 10, 2, [], 0, 0), (310, .iload 7, 2, [], 0, 0), (312, .if_icmp .gt 17, 3, [], 0, 0), (315, .iload 7, 2, [], 0, 0), (317, .iload 10, 2, [], 0, 0), (319, .iload 11, 2, [], 0, 0), (321, .iadd, 1, [], 0, 0), (322, .if_icmp .ge 7, 3, [], 0, 0), (325, .iconst 1, 1, [], 0, 0), (326, .goto 4, 3, [], 0, 0), (329, .iconst 0, 1, [], 0, 0), (330, .istore 18, 2, [], 0, 0), (332, .iconst 0, 1, [], 0, 0), (333, .istore 19, 2, [], 0, 0), (335, .iload 19, 2, [true, true, true, true, true, true, true, false, true, true, true, true, false, true, true, true, false, false, false, false, true], 0, 0), (337, .iconst 2, 1, [], 0, 0), (338, .if_icmp .ge 59, 3, [], 0, 0), (341, .iload 16, 2, [], 0, 0), (343, .iload 19, 2, [], 0, 0), (345, .if_icmp .ne 9, 3, [], 0, 0), (348, .iconst 0, 1, [], 0, 0), (349, .istore 20, 2, [], 0, 0), (351, .goto 24, 3, [], 0, 0), (354, .iload 18, 2, [], 0, 0), (356, .ifCond .eq 16, 3, [], 0, 0), (359, .iload 17, 2, [], 0, 0), (361, .iload 19, 2, [], 0, 0), (363, .if_icmp .ne 9, 3, [], 0, 0), (366, .iconst 1, 1, [], 0, 0), (367, .istore 20, 2, [], 0, 0), (369, .goto 6, 3, [], 0, 0), (372, .iconst (-1), 1, [], 0, 0), (373, .istore 20, 2, [], 0, 0), (375, .aload 12, 2, [true, true, true, true, true, true, true, false, true, true, true, true, false, true, true, true], 0, 0), (377, .iload 19, 2, [], 0, 0), (379, .iload 7, 2, [], 0, 0), (381, .invokevirtual 29, 3, [], 34, 0), (384, .iload 20, 2, [], 0, 0), (386, .if_icmp .eq 5, 3, [], 0, 0), (389, .iconst 0, 1, [], 0, 0), (390, .ireturn, 1, [], 0, 0), (391, .iinc 19 1, 3, [], 0, 0), (394, .goto (-59), 3, [], 0, 0), (397, .iconst 1, 1, [], 0, 0), (398, .ireturn, 1, [], 0, 0)])
def d_1 : MD := (⟨"RoomPlanner", "<init>", "(III)V"⟩, prog_1_method_1_code, 4, none, 1, 3, 0, 1, 15, [(0, .aload_n 0, 1, [], 0, 0), (1, .invokespecial 1, 3, [], 0, -1), (4, .aload_n 0, 1, [], 0, 0), (5, .iconst 3, 1, [], 0, 0), (6, .newarray .int, 2, [], 0, 0), (8, .putfield 7, 3, [], 0, 0), (11, .aload_n 0, 1, [], 0, 0), (12, .iconst 3, 1, [], 0, 0), (13, .newarray .int, 2, [], 0, 0), (15, .putfield 13, 3, [], 1, 0), (18, .aload_n 0, 1, [], 0, 0), (19, .iconst 3, 1, [], 0, 0), (20, .newarray .int, 2, [], 0, 0), (22, .putfield 16, 3, [], 2, 0), (25, .aload_n 0, 1, [], 0, 0), (26, .bipush 32, 2, [], 0, 0), (28, .newarray .boolean, 2, [], 0, 0), (30, .putfield 19, 3, [], 3, 0), (33, .aload_n 0, 1, [], 0, 0), (34, .bipush 32, 2, [], 0, 0), (36, .newarray .int, 2, [], 0, 0), (38, .putfield 23, 3, [], 4, 0), (41, .aload_n 0, 1, [], 0, 0), (42, .bipush 32, 2, [], 0, 0), (44, .newarray .int, 2, [], 0, 0), (46, .putfield 26, 3, [], 5, 0), (49, .aload_n 0, 1, [], 0, 0), (50, .bipush 32, 2, [], 0, 0), (52, .newarray .int, 2, [], 0, 0), (54, .putfield 29, 3, [], 6, 0), (57, .aload_n 0, 1, [], 0, 0), (58, .bipush 96, 2, [], 0, 0), (60, .newarray .int, 2, [], 0, 0), (62, .putfield 32, 3, [], 7, 0), (65, .aload_n 0, 1, [], 0, 0), (66, .bipush 96, 2, [], 0, 0), (68, .newarray .int, 2, [], 0, 0), (70, .putfield 35, 3, [], 8, 0), (73, .aload_n 0, 1, [], 0, 0), (74, .bipush 32, 2, [], 0, 0), (76, .newarray .int, 2, [], 0, 0), (78, .putfield 38, 3, [], 9, 0), (81, .aload_n 0, 1, [], 0, 0), (82, .sipush 768, 3, [], 0, 0), (85, .newarray .int, 2, [], 0, 0), (87, .putfield 41, 3, [], 10, 0), (90, .aload_n 0, 1, [], 0, 0), (91, .bipush 32, 2, [], 0, 0), (93, .newarray .int, 2, [], 0, 0), (95, .putfield 44, 3, [], 11, 0), (98, .aload_n 0, 1, [], 0, 0), (99, .getfield 7, 3, [], 0, 0), (102, .iconst 0, 1, [], 0, 0), (103, .aload_n 0, 1, [], 0, 0), (104, .iload_n 1, 1, [], 0, 0), (105, .invokevirtual 47, 3, [], 2, 0), (108, .iastore, 1, [], 0, 0), (109, .aload_n 0, 1, [], 0, 0), (110, .getfield 7, 3, [], 0, 0), (113, .iconst 1, 1, [], 0, 0), (114, .aload_n 0, 1, [], 0, 0), (115, .iload_n 2, 1, [], 0, 0), (116, .invokevirtual 47, 3, [], 2, 0), (119, .iastore, 1, [], 0, 0), (120, .aload_n 0, 1, [], 0, 0), (121, .getfield 7, 3, [], 0, 0), (124, .iconst 2, 1, [], 0, 0), (125, .aload_n 0, 1, [], 0, 0), (126, .iload_n 3, 1, [], 0, 0), (127, .invokevirtual 47, 3, [], 2, 0), (130, .iastore, 1, [], 0, 0), (131, .aload_n 0, 1, [], 0, 0), (132, .invokevirtual 51, 3, [], 3, 0), (135, .aload_n 0, 1, [], 0, 0), (136, .invokevirtual 54, 3, [], 4, 0), (139, .aload_n 0, 1, [], 0, 0), (140, .invokevirtual 57, 3, [], 5, 0), (143, .aload_n 0, 1, [], 0, 0), (144, .invokevirtual 60, 3, [], 6, 0), (147, .aload_n 0, 1, [], 0, 0), (148, .iconst 0, 1, [], 0, 0), (149, .putfield 63, 3, [], 15, 0), (152, .aload_n 0, 1, [], 0, 0), (153, .iconst 0, 1, [], 0, 0), (154, .putfield 67, 3, [], 16, 0), (157, .return_, 1, [], 0, 0)])
def d_2 : MD := (⟨"RoomPlanner", "clampRooms", "(I)I"⟩, prog_1_method_18_code, 2, some .int, 2, 1, 0, 0, 0, [(0, .iload_n 1, 1, [], 0, 0), (1, .ifCond .ge 5, 3, [], 0, 0), (4, .iconst 0, 1, [], 0, 0), (5, .ireturn, 1, [], 0, 0), (6, .iload_n 1, 1, [], 0, 0), (7, .bipush 8, 2, [], 0, 0), (9, .if_icmp .le 6, 3, [], 0, 0), (12, .bipush 8, 2, [], 0, 0), (14, .ireturn, 1, [], 0, 0), (15, .iload_n 1, 1, [], 0, 0), (16, .ireturn, 1, [], 0, 0)])
def d_3 : MD := (⟨"RoomPlanner", "computeRoomTables", "()V"⟩, prog_1_method_19_code, 4, none, 2, 0, 0, 0, 0, [(0, .aload_n 0, 1, [], 0, 0), (1, .getfield 7, 3, [], 0, 0), (4, .iconst 0, 1, [], 0, 0), (5, .iaload, 1, [], 0, 0), (6, .istore_n 1, 1, [], 0, 0), (7, .aload_n 0, 1, [], 0, 0), (8, .getfield 7, 3, [], 0, 0), (11, .iconst 1, 1, [], 0, 0), (12, .iaload, 1, [], 0, 0), (13, .istore_n 2, 1, [], 0, 0), (14, .aload_n 0, 1, [], 0, 0), (15, .getfield 7, 3, [], 0, 0), (18, .iconst 2, 1, [], 0, 0), (19, .iaload, 1, [], 0, 0), (20, .istore_n 3, 1, [], 0, 0), (21, .aload_n 0, 1, [], 0, 0), (22, .getfield 13, 3, [], 1, 0), (25, .iconst 2, 1, [], 0, 0), (26, .iload_n 3, 1, [], 0, 0), (27, .iastore, 1, [], 0, 0), (28, .aload_n 0, 1, [], 0, 0), (29, .getfield 13, 3, [], 1, 0), (32, .iconst 1, 1, [], 0, 0), (33, .iload_n 2, 1, [], 0, 0), (34, .iload_n 3, 1, [], 0, 0), (35, .iadd, 1, [], 0, 0), (36, .iastore, 1, [], 0, 0), (37, .aload_n 0, 1, [], 0, 0), (38, .getfield 13, 3, [], 1, 0), (41, .iconst 0, 1, [], 0, 0), (42, .iload_n 1, 1, [], 0, 0), (43, .iload_n 2, 1, [], 0, 0), (44, .iadd, 1, [], 0, 0), (45, .iload_n 3, 1, [], 0, 0), (46, .iadd, 1, [], 0, 0), (47, .iastore, 1, [], 0, 0), (48, .aload_n 0, 1, [], 0, 0), (49, .getfield 16, 3, [], 2, 0), (52, .iconst 0, 1, [], 0, 0), (53, .iconst 0, 1, [], 0, 0), (54, .iastore, 1, [], 0, 0), (55, .aload_n 0, 1, [], 0, 0), (56, .getfield 16, 3, [], 2, 0), (59, .iconst 1, 1, [], 0, 0), (60, .iload_n 1, 1, [], 0, 0), (61, .iastore, 1, [], 0, 0), (62, .aload_n 0, 1, [], 0, 0), (63, .getfield 16, 3, [], 2, 0), (66, .iconst 2, 1, [], 0, 0), (67, .iload_n 1, 1, [], 0, 0), (68, .iload_n 2, 1, [], 0, 0), (69, .iadd, 1, [], 0, 0), (70, .iastore, 1, [], 0, 0), (71, .aload_n 0, 1, [], 0, 0), (72, .iload_n 1, 1, [], 0, 0), (73, .iload_n 2, 1, [], 0, 0), (74, .iadd, 1, [], 0, 0), (75, .iload_n 3, 1, [], 0, 0), (76, .iadd, 1, [], 0, 0), (77, .putfield 142, 3, [], 12, 0), (80, .return_, 1, [], 0, 0)])
def d_4 : MD := (⟨"RoomPlanner", "resetStays", "()V"⟩, prog_1_method_28_code, 2, none, 2, 0, 0, 0, 0, [(0, .iconst 0, 1, [], 0, 0), (1, .istore_n 1, 1, [], 0, 0), (2, .iload_n 1, 1, [], 0, 0), (3, .bipush 32, 2, [], 0, 0), (5, .if_icmp .ge 37, 3, [], 0, 0), (8, .aload_n 0, 1, [], 0, 0), (9, .getfield 19, 3, [], 3, 0), (12, .iload_n 1, 1, [], 0, 0), (13, .iconst 0, 1, [], 0, 0), (14, .bastore, 1, [], 0, 0), (15, .aload_n 0, 1, [], 0, 0), (16, .getfield 23, 3, [], 4, 0), (19, .iload_n 1, 1, [], 0, 0), (20, .iconst 0, 1, [], 0, 0), (21, .iastore, 1, [], 0, 0), (22, .aload_n 0, 1, [], 0, 0), (23, .getfield 26, 3, [], 5, 0), (26, .iload_n 1, 1, [], 0, 0), (27, .iconst 0, 1, [], 0, 0), (28, .iastore, 1, [], 0, 0), (29, .aload_n 0, 1, [], 0, 0), (30, .getfield 29, 3, [], 6, 0), (33, .iload_n 1, 1, [], 0, 0), (34, .iconst 0, 1, [], 0, 0), (35, .iastore, 1, [], 0, 0), (36, .iinc 1 1, 3, [], 0, 0), (39, .goto (-37), 3, [], 0, 0), (42, .aload_n 0, 1, [], 0, 0), (43, .iconst 0, 1, [], 0, 0), (44, .putfield 75, 3, [], 13, 0), (47, .return_, 1, [], 0, 0)])
def d_5 : MD := (⟨"RoomPlanner", "resetCounts", "()V"⟩, prog_1_method_35_code, 2, none, 2, 0, 0, 0, 0, [(0, .iconst 0, 1, [], 0, 0), (1, .istore_n 1, 1, [], 0, 0), (2, .iload_n 1, 1, [], 0, 0), (3, .bipush 96, 2, [], 0, 0), (5, .if_icmp .ge 23, 3, [], 0, 0), (8, .aload_n 0, 1, [], 0, 0), (9, .getfield 32, 3, [], 7, 0), (12, .iload_n 1, 1, [], 0, 0), (13, .iconst 0, 1, [], 0, 0), (14, .iastore, 1, [], 0, 0), (15, .aload_n 0, 1, [], 0, 0), (16, .getfield 35, 3, [], 8, 0), (19, .iload_n 1, 1, [], 0, 0), (20, .iconst 0, 1, [], 0, 0), (21, .iastore, 1, [], 0, 0), (22, .iinc 1 1, 3, [], 0, 0), (25, .goto (-23), 3, [], 0, 0), (28, .return_, 1, [], 0, 0)])
def d_6 : MD := (⟨"RoomPlanner", "clearPlan", "()V"⟩, prog_1_method_47_code, 2, none, 2, 0, 0, 0, 0, [(0, .iconst 0, 1, [], 0, 0), (1, .istore_n 1, 1, [], 0, 0), (2, .iload_n 1, 1, [], 0, 0), (3, .bipush 32, 2, [], 0, 0), (5, .if_icmp .ge 23, 3, [], 0, 0), (8, .aload_n 0, 1, [], 0, 0), (9, .getfield 38, 3, [], 9, 0), (12, .iload_n 1, 1, [], 0, 0), (13, .iconst (-1), 1, [], 0, 0), (14, .iastore, 1, [], 0, 0), (15, .aload_n 0, 1, [], 0, 0), (16, .getfield 44, 3, [], 11, 0), (19, .iload_n 1, 1, [], 0, 0), (20, .iconst 0, 1, [], 0, 0), (21, .iastore, 1, [], 0, 0), (22, .iinc 1 1, 3, [], 0, 0), (25, .goto (-23), 3, [], 0, 0), (28, .iconst 0, 1, [], 0, 0), (29, .istore_n 1, 1, [], 0, 0), (30, .iload_n 1, 1, [], 0, 0), (31, .sipush 768, 3, [], 0, 0), (34, .if_icmp .ge 16, 3, [], 0, 0), (37, .aload_n 0, 1, [], 0, 0), (38, .getfield 41, 3, [], 10, 0), (41, .iload_n 1, 1, [], 0, 0), (42, .iconst (-1), 1, [], 0, 0), (43, .iastore, 1, [], 0, 0), (44, .iinc 1 1, 3, [], 0, 0), (47, .goto (-17), 3, [], 0, 0), (50, .aload_n 0, 1, [], 0, 0), (51, .iconst 0, 1, [], 0, 0), (52, .putfield 127, 3, [], 14, 0), (55, .return_, 1, [], 0, 0)])
def d_7 : MD := (⟨"RoomPlanner", "book", "(III)I"⟩, prog_1_method_2_code, 6, some .int, 3, 3, 0, 4, 66, [(0, .aload_n 0, 1, [], 0, 0), (1, .iload_n 1, 1, [], 0, 0), (2, .iload_n 2, 1, [], 0, 0), (3, .iload_n 3, 1, [], 0, 0), (4, .invokevirtual 71, 3, [], 8, 0), (7, .istore 4, 2, [], 0, 0), (9, .iload 4, 2, [], 0, 0), (11, .ifCond .eq 6, 3, [], 0, 0), (14, .iload 4, 2, [], 0, 0), (16, .ireturn, 1, [], 0, 0), (17, .aload_n 0, 1, [], 0, 0), (18, .getfield 75, 3, [], 13, 0), (21, .bipush 32, 2, [], 0, 0), (23, .if_icmp .lt 6, 3, [], 0, 0), (26, .bipush (-3), 2, [], 0, 0), (28, .ireturn, 1, [], 0, 0), (29, .aload_n 0, 1, [], 0, 0), (30, .iconst (-1), 1, [], 0, 0), (31, .iload_n 1, 1, [], 0, 0), (32, .iload_n 2, 1, [], 0, 0), (33, .iload_n 3, 1, [], 0, 0), (34, .invokevirtual 78, 3, [], 12, 0), (37, .ifCond .ne 6, 3, [], 0, 0), (40, .bipush (-4), 2, [], 0, 0), (42, .ireturn, 1, [], 0, 0), (43, .aload_n 0, 1, [], 0, 0), (44, .invokevirtual 82, 3, [], 19, 0), (47, .istore 5, 2, [], 0, 0), (49, .iload 5, 2, [], 0, 0), (51, .ifCond .ge 6, 3, [], 0, 0), (54, .bipush (-3), 2, [], 0, 0), (56, .ireturn, 1, [], 0, 0), (57, .aload_n 0, 1, [], 0, 0), (58, .iload 5, 2, [], 0, 0), (60, .iload_n 1, 1, [], 0, 0), (61, .iload_n 2, 1, [], 0, 0), (62, .iload_n 3, 1, [], 0, 0), (63, .invokevirtual 86, 3, [], 20, 0), (66, .aload_n 0, 1, [], 0, 0), (67, .invokevirtual 90, 3, [], 23, 0), (70, .iload 5, 2, [], 0, 0), (72, .ireturn, 1, [], 0, 0)])
def d_8 : MD := (⟨"RoomPlanner", "requestError", "(III)I"⟩, prog_1_method_27_code, 4, some .int, 2, 3, 0, 1, 14, [(0, .aload_n 0, 1, [], 0, 0), (1, .iload_n 1, 1, [], 0, 0), (2, .invokevirtual 108, 3, [], 9, 0), (5, .ifCond .ne 5, 3, [], 0, 0), (8, .iconst (-1), 1, [], 0, 0), (9, .ireturn, 1, [], 0, 0), (10, .aload_n 0, 1, [], 0, 0), (11, .iload_n 2, 1, [], 0, 0), (12, .invokevirtual 111, 3, [], 10, 0), (15, .ifCond .ne 6, 3, [], 0, 0), (18, .bipush (-2), 2, [], 0, 0), (20, .ireturn, 1, [], 0, 0), (21, .aload_n 0, 1, [], 0, 0), (22, .iload_n 2, 1, [], 0, 0), (23, .iload_n 3, 1, [], 0, 0), (24, .invokevirtual 145, 3, [], 11, 0), (27, .ifCond .ne 6, 3, [], 0, 0), (30, .bipush (-2), 2, [], 0, 0), (32, .ireturn, 1, [], 0, 0), (33, .iconst 0, 1, [], 0, 0), (34, .ireturn, 1, [], 0, 0)])
def d_9 : MD := (⟨"RoomPlanner", "isValidType", "(I)Z"⟩, prog_1_method_23_code, 2, some .boolean, 2, 1, 0, 0, 0, [(0, .iload_n 1, 1, [], 0, 0), (1, .ifCond .lt 12, 3, [], 0, 0), (4, .iload_n 1, 1, [], 0, 0), (5, .iconst 3, 1, [], 0, 0), (6, .if_icmp .ge 7, 3, [], 0, 0), (9, .iconst 1, 1, [], 0, 0), (10, .goto 4, 3, [], 0, 0), (13, .iconst 0, 1, [], 0, 0), (14, .ireturn, 1, [], 0, 0)])
def d_10 : MD := (⟨"RoomPlanner", "isValidNight", "(I)Z"⟩, prog_1_method_24_code, 2, some .boolean, 2, 1, 0, 0, 0, [(0, .iload_n 1, 1, [], 0, 0), (1, .ifCond .lt 13, 3, [], 0, 0), (4, .iload_n 1, 1, [], 0, 0), (5, .bipush 32, 2, [], 0, 0), (7, .if_icmp .ge 7, 3, [], 0, 0), (10, .iconst 1, 1, [], 0, 0), (11, .goto 4, 3, [], 0, 0), (14, .iconst 0, 1, [], 0, 0), (15, .ireturn, 1, [], 0, 0)])
def d_11 : MD := (⟨"RoomPlanner", "isValidLength", "(II)Z"⟩, prog_1_method_25_code, 3, some .boolean, 2, 2, 0, 0, 0, [(0, .iload_n 2, 1, [], 0, 0), (1, .iconst 1, 1, [], 0, 0), (2, .if_icmp .ge 5, 3, [], 0, 0), (5, .iconst 0, 1, [], 0, 0), (6, .ireturn, 1, [], 0, 0), (7, .iload_n 2, 1, [], 0, 0), (8, .bipush 32, 2, [], 0, 0), (10, .iload_n 1, 1, [], 0, 0), (11, .isub, 1, [], 0, 0), (12, .if_icmp .gt 7, 3, [], 0, 0), (15, .iconst 1, 1, [], 0, 0), (16, .goto 4, 3, [], 0, 0), (19, .iconst 0, 1, [], 0, 0), (20, .ireturn, 1, [], 0, 0)])
def d_12 : MD := (⟨"RoomPlanner", "fitsWith", "(IIII)Z"⟩, prog_1_method_44_code, 7, some .boolean, 2, 4, 0, 3, 48, [(0, .aload_n 0, 1, [], 0, 0), (1, .iload_n 3, 1, [], 0, 0), (2, .iload 4, 2, [], 0, 0), (4, .invokevirtual 152, 3, [], 13, 0), (7, .istore 5, 2, [], 0, 0), (9, .iload_n 3, 1, [], 0, 0), (10, .istore 6, 2, [], 0, 0), (12, .iload 6, 2, [false, false, false, true, true], 0, 0), (14, .ifCond .lt 29, 3, [], 0, 0), (17, .iload 6, 2, [], 0, 0), (19, .iload 5, 2, [], 0, 0), (21, .if_icmp .ge 22, 3, [], 0, 0), (24, .aload_n 0, 1, [], 0, 0), (25, .iload_n 1, 1, [], 0, 0), (26, .iload_n 2, 1, [], 0, 0), (27, .iload 6, 2, [], 0, 0), (29, .invokevirtual 170, 3, [], 14, 0), (32, .ifCond .ne 5, 3, [], 0, 0), (35, .iconst 0, 1, [], 0, 0), (36, .ireturn, 1, [], 0, 0), (37, .iinc 6 1, 3, [], 0, 0), (40, .goto (-28), 3, [], 0, 0), (43, .iconst 1, 1, [], 0, 0), (44, .ireturn, 1, [], 0, 0)])
def d_13 : MD := (⟨"RoomPlanner", "endOf", "(II)I"⟩, prog_1_method_34_code, 4, some .int, 2, 2, 0, 0, 0, [(0, .iload_n 1, 1, [], 0, 0), (1, .iload_n 2, 1, [], 0, 0), (2, .iadd, 1, [], 0, 0), (3, .istore_n 3, 1, [], 0, 0), (4, .iload_n 3, 1, [], 0, 0), (5, .bipush 32, 2, [], 0, 0), (7, .if_icmp .le 6, 3, [], 0, 0), (10, .bipush 32, 2, [], 0, 0), (12, .ireturn, 1, [], 0, 0), (13, .iload_n 3, 1, [], 0, 0), (14, .ireturn, 1, [], 0, 0)])
def d_14 : MD := (⟨"RoomPlanner", "nightFits", "(III)Z"⟩, prog_1_method_43_code, 8, some .boolean, 2, 3, 0, 2, 29, [(0, .iconst 0, 1, [], 0, 0), (1, .istore 4, 2, [], 0, 0), (3, .iload 4, 2, [false, false, false, false, false, true, true, true], 0, 0), (5, .iload_n 2, 1, [], 0, 0), (6, .if_icmp .gt 57, 3, [], 0, 0), (9, .iload 4, 2, [], 0, 0), (11, .iconst 3, 1, [], 0, 0), (12, .if_icmp .ge 51, 3, [], 0, 0), (15, .aload_n 0, 1, [], 0, 0), (16, .iload 4, 2, [], 0, 0), (18, .iload_n 3, 1, [], 0, 0), (19, .invokevirtual 158, 3, [], 15, 0), (22, .istore 5, 2, [], 0, 0), (24, .aload_n 0, 1, [], 0, 0), (25, .iload_n 1, 1, [], 0, 0), (26, .iload 4, 2, [], 0, 0), (28, .iload_n 3, 1, [], 0, 0), (29, .invokevirtual 167, 3, [], 17, 0), (32, .istore 6, 2, [], 0, 0), (34, .iload 5, 2, [], 0, 0), (36, .iload 6, 2, [], 0, 0), (38, .isub, 1, [], 0, 0), (39, .iconst 1, 1, [], 0, 0), (40, .iadd, 1, [], 0, 0), (41, .istore 7, 2, [], 0, 0), (43, .iload 7, 2, [], 0, 0), (45, .aload_n 0, 1, [], 0, 0), (46, .getfield 13, 3, [], 1, 0), (49, .iload 4, 2, [], 0, 0), (51, .iaload, 1, [], 0, 0), (52, .if_icmp .le 5, 3, [], 0, 0), (55, .iconst 0, 1, [], 0, 0), (56, .ireturn, 1, [], 0, 0), (57, .iinc 4 1, 3, [], 0, 0), (60, .goto (-57), 3, [], 0, 0), (63, .iconst 1, 1, [], 0, 0), (64, .ireturn, 1, [], 0, 0)])
def d_15 : MD := (⟨"RoomPlanner", "atLeastAt", "(II)I"⟩, prog_1_method_38_code, 3, some .int, 2, 2, 0, 1, 15, [(0, .aload_n 0, 1, [], 0, 0), (1, .iload_n 1, 1, [], 0, 0), (2, .invokevirtual 108, 3, [], 9, 0), (5, .ifCond .eq 11, 3, [], 0, 0), (8, .aload_n 0, 1, [], 0, 0), (9, .iload_n 2, 1, [], 0, 0), (10, .invokevirtual 111, 3, [], 10, 0), (13, .ifCond .ne 5, 3, [], 0, 0), (16, .iconst 0, 1, [], 0, 0), (17, .ireturn, 1, [], 0, 0), (18, .aload_n 0, 1, [], 0, 0), (19, .getfield 35, 3, [], 8, 0), (22, .aload_n 0, 1, [], 0, 0), (23, .iload_n 1, 1, [], 0, 0), (24, .iload_n 2, 1, [], 0, 0), (25, .invokevirtual 149, 3, [], 16, 0), (28, .iaload, 1, [], 0, 0), (29, .ireturn, 1, [], 0, 0)])
def d_16 : MD := (⟨"RoomPlanner", "countIndex", "(II)I"⟩, prog_1_method_36_code, 3, some .int, 2, 2, 0, 0, 0, [(0, .iload_n 1, 1, [], 0, 0), (1, .bipush 32, 2, [], 0, 0), (3, .imul, 1, [], 0, 0), (4, .iload_n 2, 1, [], 0, 0), (5, .iadd, 1, [], 0, 0), (6, .ireturn, 1, [], 0, 0)])
def d_17 : MD := (⟨"RoomPlanner", "exclusion", "(III)I"⟩, prog_1_method_42_code, 4, some .int, 2, 3, 0, 1, 13, [(0, .aload_n 0, 1, [], 0, 0), (1, .iload_n 1, 1, [], 0, 0), (2, .invokevirtual 93, 3, [], 18, 0), (5, .ifCond .ne 5, 3, [], 0, 0), (8, .iconst 0, 1, [], 0, 0), (9, .ireturn, 1, [], 0, 0), (10, .aload_n 0, 1, [], 0, 0), (11, .getfield 23, 3, [], 4, 0), (14, .iload_n 1, 1, [], 0, 0), (15, .iaload, 1, [], 0, 0), (16, .iload_n 2, 1, [], 0, 0), (17, .if_icmp .ge 5, 3, [], 0, 0), (20, .iconst 0, 1, [], 0, 0), (21, .ireturn, 1, [], 0, 0), (22, .aload_n 0, 1, [], 0, 0), (23, .iload_n 1, 1, [], 0, 0), (24, .iload_n 3, 1, [], 0, 0), (28, .ifCond .eq 5, 3, [], 0, 0), (31, .iconst 1, 1, [], 0, 0), (32, .ireturn, 1, [], 0, 0), (33, .iconst 0, 1, [], 0, 0), (34, .ireturn, 1, [], 0, 0)])
def d_18 : MD := (⟨"RoomPlanner", "isActiveStay", "(I)Z"⟩, prog_1_method_26_code, 2, some .boolean, 2, 1, 0, 0, 0, [(0, .iload_n 1, 1, [], 0, 0), (1, .ifCond .lt 9, 3, [], 0, 0), (4, .iload_n 1, 1, [], 0, 0), (5, .bipush 32, 2, [], 0, 0), (7, .if_icmp .lt 5, 3, [], 0, 0), (10, .iconst 0, 1, [], 0, 0), (11, .ireturn, 1, [], 0, 0), (12, .aload_n 0, 1, [], 0, 0), (13, .getfield 19, 3, [], 3, 0), (16, .iload_n 1, 1, [], 0, 0), (17, .baload, 1, [], 0, 0), (18, .ireturn, 1, [], 0, 0)])
def d_19 : MD := (⟨"RoomPlanner", "lowestInactiveSlot", "()I"⟩, prog_1_method_29_code, 2, some .int, 2, 0, 0, 0, 0, [(0, .iconst 0, 1, [], 0, 0), (1, .istore_n 1, 1, [], 0, 0), (2, .iload_n 1, 1, [], 0, 0), (3, .bipush 32, 2, [], 0, 0), (5, .if_icmp .ge 20, 3, [], 0, 0), (8, .aload_n 0, 1, [], 0, 0), (9, .getfield 19, 3, [], 3, 0), (12, .iload_n 1, 1, [], 0, 0), (13, .baload, 1, [], 0, 0), (14, .ifCond .ne 5, 3, [], 0, 0), (17, .iload_n 1, 1, [], 0, 0), (18, .ireturn, 1, [], 0, 0), (19, .iinc 1 1, 3, [], 0, 0), (22, .goto (-20), 3, [], 0, 0), (25, .iconst (-1), 1, [], 0, 0), (26, .ireturn, 1, [], 0, 0)])
def d_20 : MD := (⟨"RoomPlanner", "activateStay", "(IIII)V"⟩, prog_1_method_31_code, 5, none, 2, 4, 0, 2, 34, [(0, .aload_n 0, 1, [], 0, 0), (1, .iload_n 1, 1, [], 0, 0), (2, .iload_n 2, 1, [], 0, 0), (3, .iload_n 3, 1, [], 0, 0), (4, .iload 4, 2, [], 0, 0), (6, .invokevirtual 101, 3, [], 21, 0), (9, .aload_n 0, 1, [], 0, 0), (10, .getfield 19, 3, [], 3, 0), (13, .iload_n 1, 1, [], 0, 0), (14, .iconst 1, 1, [], 0, 0), (15, .bastore, 1, [], 0, 0), (16, .aload_n 0, 1, [], 0, 0), (17, .dup, 1, [], 0, 0), (18, .getfield 75, 3, [], 13, 0), (21, .iconst 1, 1, [], 0, 0), (22, .iadd, 1, [], 0, 0), (23, .putfield 75, 3, [], 13, 0), (26, .aload_n 0, 1, [], 0, 0), (27, .iload_n 1, 1, [], 0, 0), (28, .iconst 1, 1, [], 0, 0), (29, .invokevirtual 97, 3, [], 22, 0), (32, .return_, 1, [], 0, 0)])
def d_21 : MD := (⟨"RoomPlanner", "storeStay", "(IIII)V"⟩, prog_1_method_30_code, 5, none, 2, 4, 0, 0, 0, [(0, .aload_n 0, 1, [], 0, 0), (1, .getfield 23, 3, [], 4, 0), (4, .iload_n 1, 1, [], 0, 0), (5, .iload_n 2, 1, [], 0, 0), (6, .iastore, 1, [], 0, 0), (7, .aload_n 0, 1, [], 0, 0), (8, .getfield 26, 3, [], 5, 0), (11, .iload_n 1, 1, [], 0, 0), (12, .iload_n 3, 1, [], 0, 0), (13, .iastore, 1, [], 0, 0), (14, .aload_n 0, 1, [], 0, 0), (15, .getfield 29, 3, [], 6, 0), (18, .iload_n 1, 1, [], 0, 0), (19, .iload 4, 2, [], 0, 0), (21, .iastore, 1, [], 0, 0), (22, .return_, 1, [], 0, 0)])
def d_22 : MD := (⟨"RoomPlanner", "adjustCoverage", "(II)V"⟩, prog_1_method_39_code, 8, none, 2, 2, 0, 1, 15, [(0, .iload_n 1, 1, [], 0, 0), (1, .ifCond .lt 9, 3, [], 0, 0), (4, .iload_n 1, 1, [], 0, 0), (5, .bipush 32, 2, [], 0, 0), (7, .if_icmp .lt 4, 3, [], 0, 0), (10, .return_, 1, [], 0, 0), (11, .aload_n 0, 1, [], 0, 0), (12, .getfield 23, 3, [], 4, 0), (15, .iload_n 1, 1, [], 0, 0), (16, .iaload, 1, [], 0, 0), (17, .istore_n 3, 1, [], 0, 0), (18, .aload_n 0, 1, [], 0, 0), (19, .iload_n 3, 1, [], 0, 0), (20, .invokevirtual 108, 3, [], 9, 0), (23, .ifCond .ne 4, 3, [], 0, 0), (26, .return_, 1, [], 0, 0), (27, .aload_n 0, 1, [], 0, 0), (28, .getfield 26, 3, [], 5, 0), (31, .iload_n 1, 1, [], 0, 0), (32, .iaload, 1, [], 0, 0), (33, .istore 4, 2, [], 0, 0), (35, .aload_n 0, 1, [], 0, 0), (36, .iload 4, 2, [], 0, 0), (38, .aload_n 0, 1, [], 0, 0), (39, .getfield 29, 3, [], 6, 0), (42, .iload_n 1, 1, [], 0, 0), (43, .iaload, 1, [], 0, 0), (44, .invokevirtual 152, 3, [], 13, 0), (47, .istore 5, 2, [], 0, 0), (49, .iload 4, 2, [], 0, 0), (51, .istore 6, 2, [], 0, 0), (53, .iload 6, 2, [false, true, false, false, true, false, false, true], 0, 0), (55, .ifCond .lt 64, 3, [], 0, 0), (58, .iload 6, 2, [], 0, 0), (60, .iload 5, 2, [], 0, 0), (62, .if_icmp .ge 57, 3, [], 0, 0), (65, .aload_n 0, 1, [], 0, 0), (66, .getfield 32, 3, [], 7, 0), (69, .aload_n 0, 1, [], 0, 0), (70, .iload_n 3, 1, [], 0, 0), (71, .iload 6, 2, [], 0, 0), (73, .invokevirtual 149, 3, [], 16, 0), (76, .dup2, 1, [], 0, 0), (77, .iaload, 1, [], 0, 0), (78, .iload_n 2, 1, [], 0, 0), (79, .iadd, 1, [], 0, 0), (80, .iastore, 1, [], 0, 0), (81, .iconst 0, 1, [], 0, 0), (82, .istore 7, 2, [], 0, 0), (84, .iload 7, 2, [false, true, false, false, true], 0, 0), (86, .iload_n 3, 1, [], 0, 0), (87, .if_icmp .gt 26, 3, [], 0, 0), (90, .aload_n 0, 1, [], 0, 0), (91, .getfield 35, 3, [], 8, 0), (94, .aload_n 0, 1, [], 0, 0), (95, .iload 7, 2, [], 0, 0), (97, .iload 6, 2, [], 0, 0), (99, .invokevirtual 149, 3, [], 16, 0), (102, .dup2, 1, [], 0, 0), (103, .iaload, 1, [], 0, 0), (104, .iload_n 2, 1, [], 0, 0), (105, .iadd, 1, [], 0, 0), (106, .iastore, 1, [], 0, 0), (107, .iinc 7 1, 3, [], 0, 0), (110, .goto (-26), 3, [], 0, 0), (113, .iinc 6 1, 3, [], 0, 0), (116, .goto (-63), 3, [], 0, 0), (119, .return_, 1, [], 0, 0)])
def d_23 : MD := (⟨"RoomPlanner", "discardPlan", "()V"⟩, prog_1_method_46_code, 1, none, 2, 0, 0, 0, 0, [(0, .aload_n 0, 1, [], 0, 0), (1, .iconst 0, 1, [], 0, 0), (2, .putfield 63, 3, [], 15, 0), (5, .return_, 1, [], 0, 0)])
def d_24 : MD := (⟨"RoomPlanner", "isAssigned", "()Z"⟩, prog_1_method_14_code, 1, some .boolean, 3, 0, 0, 0, 0, [(0, .aload_n 0, 1, [], 0, 0), (1, .getfield 63, 3, [], 15, 0), (4, .ireturn, 1, [], 0, 0)])
def d_25 : MD := (⟨"RoomPlanner", "assign", "()I"⟩, prog_1_method_13_code, 5, some .int, 3, 0, 0, 4, 63, [(0, .aload_n 0, 1, [], 0, 0), (1, .invokevirtual 90, 3, [], 23, 0), (4, .aload_n 0, 1, [], 0, 0), (5, .invokevirtual 60, 3, [], 6, 0), (8, .aload_n 0, 1, [], 0, 0), (9, .invokevirtual 124, 3, [], 26, 0), (12, .iconst 0, 1, [], 0, 0), (13, .istore_n 1, 1, [], 0, 0), (14, .iconst 0, 1, [], 0, 0), (15, .istore_n 2, 1, [], 0, 0), (16, .iload_n 2, 1, [false, false, false, true, true], 0, 0), (17, .aload_n 0, 1, [], 0, 0), (18, .getfield 127, 3, [], 14, 0), (21, .if_icmp .ge 37, 3, [], 0, 0), (24, .iload_n 2, 1, [], 0, 0), (25, .bipush 32, 2, [], 0, 0), (27, .if_icmp .ge 31, 3, [], 0, 0), (30, .aload_n 0, 1, [], 0, 0), (31, .getfield 44, 3, [], 11, 0), (34, .iload_n 2, 1, [], 0, 0), (35, .iaload, 1, [], 0, 0), (36, .istore_n 3, 1, [], 0, 0), (37, .aload_n 0, 1, [], 0, 0), (38, .iload_n 3, 1, [], 0, 0), (39, .invokevirtual 130, 3, [], 28, 0), (42, .istore 4, 2, [], 0, 0), (44, .iload 4, 2, [], 0, 0), (46, .ifCond .ne 6, 3, [], 0, 0), (49, .iinc 1 1, 3, [], 0, 0), (52, .iinc 2 1, 3, [], 0, 0), (55, .goto (-39), 3, [], 0, 0), (58, .aload_n 0, 1, [false, false, true, true, true], 0, 0), (59, .iload_n 1, 1, [], 0, 0), (60, .putfield 67, 3, [], 16, 0), (63, .aload_n 0, 1, [], 0, 0), (64, .iconst 1, 1, [], 0, 0), (65, .putfield 63, 3, [], 15, 0), (68, .iload_n 1, 1, [], 0, 0), (69, .ireturn, 1, [], 0, 0)])
def d_26 : MD := (⟨"RoomPlanner", "buildOrder", "()V"⟩, prog_1_method_50_code, 3, none, 2, 0, 0, 1, 13, [(0, .aload_n 0, 1, [], 0, 0), (1, .iconst 0, 1, [], 0, 0), (2, .putfield 127, 3, [], 14, 0), (5, .iconst 0, 1, [], 0, 0), (6, .istore_n 1, 1, [], 0, 0), (7, .iload_n 1, 1, [false, false, true], 0, 0), (8, .bipush 32, 2, [], 0, 0), (10, .if_icmp .ge 47, 3, [], 0, 0), (13, .iconst 0, 1, [], 0, 0), (14, .istore_n 2, 1, [], 0, 0), (15, .iload_n 2, 1, [], 0, 0), (16, .bipush 32, 2, [], 0, 0), (18, .if_icmp .ge 33, 3, [], 0, 0), (21, .aload_n 0, 1, [], 0, 0), (22, .getfield 19, 3, [], 3, 0), (25, .iload_n 2, 1, [], 0, 0), (26, .baload, 1, [], 0, 0), (27, .ifCond .eq 18, 3, [], 0, 0), (30, .aload_n 0, 1, [], 0, 0), (31, .getfield 26, 3, [], 5, 0), (34, .iload_n 2, 1, [], 0, 0), (35, .iaload, 1, [], 0, 0), (36, .iload_n 1, 1, [], 0, 0), (37, .if_icmp .ne 8, 3, [], 0, 0), (40, .aload_n 0, 1, [], 0, 0), (41, .iload_n 2, 1, [], 0, 0), (42, .invokevirtual 177, 3, [], 27, 0), (45, .iinc 2 1, 3, [], 0, 0), (48, .goto (-33), 3, [], 0, 0), (51, .iinc 1 1, 3, [], 0, 0), (54, .goto (-47), 3, [], 0, 0), (57, .return_, 1, [], 0, 0)])
def d_27 : MD := (⟨"RoomPlanner", "appendToOrder", "(I)V"⟩, prog_1_method_51_code, 2, none, 2, 1, 0, 0, 0, [(0, .aload_n 0, 1, [], 0, 0), (1, .getfield 127, 3, [], 14, 0), (4, .ifCond .lt 12, 3, [], 0, 0), (7, .aload_n 0, 1, [], 0, 0), (8, .getfield 127, 3, [], 14, 0), (11, .bipush 32, 2, [], 0, 0), (13, .if_icmp .lt 4, 3, [], 0, 0), (16, .return_, 1, [], 0, 0), (17, .aload_n 0, 1, [], 0, 0), (18, .getfield 44, 3, [], 11, 0), (21, .aload_n 0, 1, [], 0, 0), (22, .getfield 127, 3, [], 14, 0), (25, .iload_n 1, 1, [], 0, 0), (26, .iastore, 1, [], 0, 0), (27, .aload_n 0, 1, [], 0, 0), (28, .dup, 1, [], 0, 0), (29, .getfield 127, 3, [], 14, 0), (32, .iconst 1, 1, [], 0, 0), (33, .iadd, 1, [], 0, 0), (34, .putfield 127, 3, [], 14, 0), (37, .return_, 1, [], 0, 0)])
def d_28 : MD := (⟨"RoomPlanner", "placeStay", "(I)Z"⟩, prog_1_method_52_code, 6, some .boolean, 2, 1, 0, 3, 46, [(0, .aload_n 0, 1, [], 0, 0), (1, .iload_n 1, 1, [], 0, 0), (2, .invokevirtual 93, 3, [], 18, 0), (5, .ifCond .ne 5, 3, [], 0, 0), (8, .iconst 0, 1, [], 0, 0), (9, .ireturn, 1, [], 0, 0), (10, .aload_n 0, 1, [], 0, 0), (11, .getfield 23, 3, [], 4, 0), (14, .iload_n 1, 1, [], 0, 0), (15, .iaload, 1, [], 0, 0), (16, .istore_n 2, 1, [], 0, 0), (17, .aload_n 0, 1, [], 0, 0), (18, .iload_n 2, 1, [], 0, 0), (19, .invokevirtual 108, 3, [], 9, 0), (22, .ifCond .ne 5, 3, [], 0, 0), (25, .iconst 0, 1, [], 0, 0), (26, .ireturn, 1, [], 0, 0), (27, .aload_n 0, 1, [], 0, 0), (28, .getfield 26, 3, [], 5, 0), (31, .iload_n 1, 1, [], 0, 0), (32, .iaload, 1, [], 0, 0), (33, .istore_n 3, 1, [], 0, 0), (34, .aload_n 0, 1, [], 0, 0), (35, .getfield 29, 3, [], 6, 0), (38, .iload_n 1, 1, [], 0, 0), (39, .iaload, 1, [], 0, 0), (40, .istore 4, 2, [], 0, 0), (42, .aload_n 0, 1, [], 0, 0), (43, .getfield 16, 3, [], 2, 0), (46, .iload_n 2, 1, [], 0, 0), (47, .iaload, 1, [], 0, 0), (48, .istore 5, 2, [], 0, 0), (50, .iload 5, 2, [false, false, true], 0, 0), (52, .aload_n 0, 1, [], 0, 0), (53, .getfield 142, 3, [], 12, 0), (56, .if_icmp .ge 48, 3, [], 0, 0), (59, .iload 5, 2, [], 0, 0), (61, .bipush 24, 2, [], 0, 0), (63, .if_icmp .ge 41, 3, [], 0, 0), (66, .aload_n 0, 1, [], 0, 0), (67, .iload 5, 2, [], 0, 0), (69, .iload_n 3, 1, [], 0, 0), (70, .iload 4, 2, [], 0, 0), (72, .invokevirtual 180, 3, [], 29, 0), (75, .ifCond .eq 23, 3, [], 0, 0), (78, .aload_n 0, 1, [false, false, true], 0, 0), (79, .iload 5, 2, [], 0, 0), (81, .iload_n 1, 1, [], 0, 0), (82, .iload_n 3, 1, [], 0, 0), (83, .iload 4, 2, [], 0, 0), (85, .invokevirtual 183, 3, [], 32, 0), (88, .aload_n 0, 1, [], 0, 0), (89, .getfield 38, 3, [], 9, 0), (92, .iload_n 1, 1, [], 0, 0), (93, .iload 5, 2, [], 0, 0), (95, .iastore, 1, [], 0, 0), (96, .iconst 1, 1, [], 0, 0), (97, .ireturn, 1, [], 0, 0), (98, .iinc 5 1, 3, [], 0, 0), (101, .goto (-51), 3, [], 0, 0), (104, .iconst 0, 1, [], 0, 0), (105, .ireturn, 1, [], 0, 0)])
def d_29 : MD := (⟨"RoomPlanner", "roomIsFree", "(III)Z"⟩, prog_1_method_53_code, 6, some .boolean, 2, 3, 0, 2, 29, [(0, .aload_n 0, 1, [], 0, 0), (1, .iload_n 2, 1, [], 0, 0), (2, .iload_n 3, 1, [], 0, 0), (3, .invokevirtual 152, 3, [], 13, 0), (6, .istore 4, 2, [], 0, 0), (8, .iload_n 2, 1, [], 0, 0), (9, .istore 5, 2, [], 0, 0), (11, .iload 5, 2, [false, false, true, true], 0, 0), (13, .ifCond .lt 29, 3, [], 0, 0), (16, .iload 5, 2, [], 0, 0), (18, .iload 4, 2, [], 0, 0), (20, .if_icmp .ge 22, 3, [], 0, 0), (23, .aload_n 0, 1, [], 0, 0), (24, .iload_n 1, 1, [], 0, 0), (25, .iload 5, 2, [], 0, 0), (27, .invokevirtual 136, 3, [], 30, 0), (30, .iconst (-1), 1, [], 0, 0), (31, .if_icmp .eq 5, 3, [], 0, 0), (34, .iconst 0, 1, [], 0, 0), (35, .ireturn, 1, [], 0, 0), (36, .iinc 5 1, 3, [], 0, 0), (39, .goto (-28), 3, [], 0, 0), (42, .iconst 1, 1, [], 0, 0), (43, .ireturn, 1, [], 0, 0)])
def d_30 : MD := (⟨"RoomPlanner", "gridAt", "(II)I"⟩, prog_1_method_49_code, 3, some .int, 2, 2, 0, 1, 15, [(0, .iload_n 1, 1, [], 0, 0), (1, .ifCond .lt 17, 3, [], 0, 0), (4, .iload_n 1, 1, [], 0, 0), (5, .bipush 24, 2, [], 0, 0), (7, .if_icmp .ge 11, 3, [], 0, 0), (10, .aload_n 0, 1, [], 0, 0), (11, .iload_n 2, 1, [], 0, 0), (12, .invokevirtual 111, 3, [], 10, 0), (15, .ifCond .ne 5, 3, [], 0, 0), (18, .iconst (-1), 1, [], 0, 0), (19, .ireturn, 1, [], 0, 0), (20, .aload_n 0, 1, [], 0, 0), (21, .getfield 41, 3, [], 10, 0), (24, .aload_n 0, 1, [], 0, 0), (25, .iload_n 1, 1, [], 0, 0), (26, .iload_n 2, 1, [], 0, 0), (27, .invokevirtual 174, 3, [], 31, 0), (30, .iaload, 1, [], 0, 0), (31, .ireturn, 1, [], 0, 0)])
def d_31 : MD := (⟨"RoomPlanner", "gridIndex", "(II)I"⟩, prog_1_method_48_code, 3, some .int, 2, 2, 0, 0, 0, [(0, .iload_n 1, 1, [], 0, 0), (1, .bipush 32, 2, [], 0, 0), (3, .imul, 1, [], 0, 0), (4, .iload_n 2, 1, [], 0, 0), (5, .iadd, 1, [], 0, 0), (6, .ireturn, 1, [], 0, 0)])
def d_32 : MD := (⟨"RoomPlanner", "markRoom", "(IIII)V"⟩, prog_1_method_54_code, 7, none, 2, 4, 0, 1, 15, [(0, .iload_n 1, 1, [], 0, 0), (1, .ifCond .lt 9, 3, [], 0, 0), (4, .iload_n 1, 1, [], 0, 0), (5, .bipush 24, 2, [], 0, 0), (7, .if_icmp .lt 4, 3, [], 0, 0), (10, .return_, 1, [], 0, 0), (11, .aload_n 0, 1, [], 0, 0), (12, .iload_n 3, 1, [], 0, 0), (13, .iload 4, 2, [], 0, 0), (15, .invokevirtual 152, 3, [], 13, 0), (18, .istore 5, 2, [], 0, 0), (20, .iload_n 3, 1, [], 0, 0), (21, .istore 6, 2, [], 0, 0), (23, .iload 6, 2, [false, false, false, true, true], 0, 0), (25, .ifCond .lt 29, 3, [], 0, 0), (28, .iload 6, 2, [], 0, 0), (30, .iload 5, 2, [], 0, 0), (32, .if_icmp .ge 22, 3, [], 0, 0), (35, .aload_n 0, 1, [], 0, 0), (36, .getfield 41, 3, [], 10, 0), (39, .aload_n 0, 1, [], 0, 0), (40, .iload_n 1, 1, [], 0, 0), (41, .iload 6, 2, [], 0, 0), (43, .invokevirtual 174, 3, [], 31, 0), (46, .iload_n 2, 1, [], 0, 0), (47, .iastore, 1, [], 0, 0), (48, .iinc 6 1, 3, [], 0, 0), (51, .goto (-28), 3, [], 0, 0), (54, .return_, 1, [], 0, 0)])
def d_33 : MD := (⟨"RoomPlanner", "roomOf", "(I)I"⟩, prog_1_method_15_code, 2, some .int, 3, 1, 0, 1, 13, [(0, .aload_n 0, 1, [], 0, 0), (1, .iload_n 1, 1, [], 0, 0), (2, .invokevirtual 93, 3, [], 18, 0), (5, .ifCond .ne 5, 3, [], 0, 0), (8, .iconst (-1), 1, [], 0, 0), (9, .ireturn, 1, [], 0, 0), (10, .aload_n 0, 1, [], 0, 0), (11, .getfield 63, 3, [], 15, 0), (14, .ifCond .ne 5, 3, [], 0, 0), (17, .iconst (-1), 1, [], 0, 0), (18, .ireturn, 1, [], 0, 0), (19, .aload_n 0, 1, [], 0, 0), (20, .getfield 38, 3, [], 9, 0), (23, .iload_n 1, 1, [], 0, 0), (24, .iaload, 1, [], 0, 0), (25, .ireturn, 1, [], 0, 0)])
def d_34 : MD := (⟨"RoomPlanner", "occupant", "(II)I"⟩, prog_1_method_16_code, 3, some .int, 3, 2, 0, 2, 29, [(0, .aload_n 0, 1, [], 0, 0), (1, .iload_n 1, 1, [], 0, 0), (2, .invokevirtual 133, 3, [], 35, 0), (5, .ifCond .ne 5, 3, [], 0, 0), (8, .iconst (-1), 1, [], 0, 0), (9, .ireturn, 1, [], 0, 0), (10, .aload_n 0, 1, [], 0, 0), (11, .iload_n 2, 1, [], 0, 0), (12, .invokevirtual 111, 3, [], 10, 0), (15, .ifCond .ne 5, 3, [], 0, 0), (18, .iconst (-1), 1, [], 0, 0), (19, .ireturn, 1, [], 0, 0), (20, .aload_n 0, 1, [], 0, 0), (21, .getfield 63, 3, [], 15, 0), (24, .ifCond .ne 5, 3, [], 0, 0), (27, .iconst (-1), 1, [], 0, 0), (28, .ireturn, 1, [], 0, 0), (29, .aload_n 0, 1, [], 0, 0), (30, .iload_n 1, 1, [], 0, 0), (31, .iload_n 2, 1, [], 0, 0), (32, .invokevirtual 136, 3, [], 30, 0), (35, .ireturn, 1, [], 0, 0)])
def d_35 : MD := (⟨"RoomPlanner", "isValidRoom", "(I)Z"⟩, prog_1_method_20_code, 2, some .boolean, 2, 1, 0, 0, 0, [(0, .iload_n 1, 1, [], 0, 0), (1, .ifCond .lt 21, 3, [], 0, 0), (4, .iload_n 1, 1, [], 0, 0), (5, .aload_n 0, 1, [], 0, 0), (6, .getfield 142, 3, [], 12, 0), (9, .if_icmp .ge 13, 3, [], 0, 0), (12, .iload_n 1, 1, [], 0, 0), (13, .bipush 24, 2, [], 0, 0), (15, .if_icmp .ge 7, 3, [], 0, 0), (18, .iconst 1, 1, [], 0, 0), (19, .goto 4, 3, [], 0, 0), (22, .iconst 0, 1, [], 0, 0), (23, .ireturn, 1, [], 0, 0)])
def own_P : PD := ([("RoomPlanner", 17, [("roomsOfType", "[I", (.array .int), true), ("roomsAtLeast", "[I", (.array .int), true), ("firstRoomOfType", "[I", (.array .int), true), ("slotActive", "[Z", (.array .boolean), true), ("slotType", "[I", (.array .int), true), ("slotArrive", "[I", (.array .int), true), ("slotNights", "[I", (.array .int), true), ("exactCount", "[I", (.array .int), true), ("atLeastCount", "[I", (.array .int), true), ("planRoom", "[I", (.array .int), true), ("planGrid", "[I", (.array .int), true), ("planOrder", "[I", (.array .int), true), ("totalRooms", "I", .int, false), ("activeStays", "I", .int, false), ("planOrderLength", "I", .int, false), ("planCurrent", "Z", .boolean, false), ("planUnplaced", "I", .int, false)])], [d_0, d_1, d_2, d_3, d_4, d_5, d_6, d_7, d_8, d_9, d_10, d_11, d_12, d_13, d_14, d_15, d_16, d_17, d_18, d_19, d_20, d_21, d_22, d_23, d_24, d_25, d_26, d_27, d_28, d_29, d_30, d_31, d_32, d_33, d_34, d_35], 0)
theorem hm_0 : own_P.mth[0]? = some d_0 := rfl
theorem hm_1 : own_P.mth[1]? = some d_1 := rfl
theorem hm_2 : own_P.mth[2]? = some d_2 := rfl
theorem hm_3 : own_P.mth[3]? = some d_3 := rfl
theorem hm_4 : own_P.mth[4]? = some d_4 := rfl
theorem hm_5 : own_P.mth[5]? = some d_5 := rfl
theorem hm_6 : own_P.mth[6]? = some d_6 := rfl
theorem hm_7 : own_P.mth[7]? = some d_7 := rfl
theorem hm_8 : own_P.mth[8]? = some d_8 := rfl
theorem hm_9 : own_P.mth[9]? = some d_9 := rfl
theorem hm_10 : own_P.mth[10]? = some d_10 := rfl
theorem hm_11 : own_P.mth[11]? = some d_11 := rfl
theorem hm_12 : own_P.mth[12]? = some d_12 := rfl
theorem hm_13 : own_P.mth[13]? = some d_13 := rfl
theorem hm_14 : own_P.mth[14]? = some d_14 := rfl
theorem hm_15 : own_P.mth[15]? = some d_15 := rfl
theorem hm_16 : own_P.mth[16]? = some d_16 := rfl
theorem hm_17 : own_P.mth[17]? = some d_17 := rfl
theorem hm_18 : own_P.mth[18]? = some d_18 := rfl
theorem hm_19 : own_P.mth[19]? = some d_19 := rfl
theorem hm_20 : own_P.mth[20]? = some d_20 := rfl
theorem hm_21 : own_P.mth[21]? = some d_21 := rfl
theorem hm_22 : own_P.mth[22]? = some d_22 := rfl
theorem hm_23 : own_P.mth[23]? = some d_23 := rfl
theorem hm_24 : own_P.mth[24]? = some d_24 := rfl
theorem hm_25 : own_P.mth[25]? = some d_25 := rfl
theorem hm_26 : own_P.mth[26]? = some d_26 := rfl
theorem hm_27 : own_P.mth[27]? = some d_27 := rfl
theorem hm_28 : own_P.mth[28]? = some d_28 := rfl
theorem hm_29 : own_P.mth[29]? = some d_29 := rfl
theorem hm_30 : own_P.mth[30]? = some d_30 := rfl
theorem hm_31 : own_P.mth[31]? = some d_31 := rfl
theorem hm_32 : own_P.mth[32]? = some d_32 := rfl
theorem hm_33 : own_P.mth[33]? = some d_33 := rfl
theorem hm_34 : own_P.mth[34]? = some d_34 := rfl
theorem hm_35 : own_P.mth[35]? = some d_35 := rfl
set_option maxRecDepth 100000 in
theorem own_chk : chk own_P = true := by decide +kernel
def own_ix : List Nat := [2, 3, 12, 14, 16, 19, 21, 23, 25, 27, 29, 31, 33, 35, 45, 51, 61, 63, 65, 6, 3, 5, 39, 3, 37, 38, 43, 3, 41, 42, 49, 3, 47, 48, 55, 3, 53, 54, 59, 3, 57, 58, 70, 3, 67, 69, 68, 74, 3, 72, 73, 78, 3, 76, 77, 82, 3, 80, 81, 86, 3, 84, 85, 90, 3, 88, 89, 94, 3, 92, 93, 98, 3, 96, 97, 102, 3, 100, 101, 106, 3, 104, 105, 110, 3, 108, 109, 114, 3, 112, 113, 118, 3, 116, 117, 122, 3, 120, 121, 126, 3, 124, 125, 130, 3, 128, 129, 134, 3, 132, 133, 139, 3, 136, 138, 137, 144, 3, 141, 143, 142, 148, 3, 146, 147, 152, 3, 150, 151, 156, 3, 154, 155, 160, 3, 158, 159, 164, 3, 162, 163, 168, 3, 166, 167, 172, 3, 170, 171, 177, 3, 174, 176, 175, 182, 3, 179, 181, 180, 186, 3, 184, 185, 0, 0, 1, 4, 66, 66, 135, 140, 135, 173, 173, 178, 7, 8, 9, 10, 11, 10, 13, 10, 15, 17, 18, 10, 20, 10, 22, 10, 24, 10, 26, 10, 28, 10, 30, 10, 32, 10, 34, 11, 36, 11, 36, 11, 36, 40, 46, 52, 56, 62, 64, 11, 11, 11, 13, 13, 13, 15, 15, 15, 44, 18, 20, 22, 24, 50, 26, 28, 30, 34, 32, 60, 71, 50, 87, 115, 119, 131, 75, 79, 83, 91, 95, 99, 107, 13, 75, 79, 28, 103, 111, 20, 18, 18, 123, 18, 50, 50, 127, 20, 22, 24, 20, 75, 22, 24, 91, 26, 103, 28, 103, 62, 62, 131, 56, 145, 60, 34, 153, 64, 62, 60, 18, 22, 149, 60, 60, 34, 60, 60, 60, 111, 20, 75, 22, 24, 15, 44, 157, 169, 30, 91, 161, 79, 32, 165, 91, 32, 165, 111, 62, 30, 183, 79, 62, 161, 44]
set_option maxRecDepth 100000 in
theorem own_words : (wordsOf own_P).map some = own_ix.map fun k => tables_1[k]? := rfl
theorem own_in : ∀ d ∈ wordsOf own_P, d ∈ tables_1 := fun d hd => by
  have h1 : some d ∈ (wordsOf own_P).map some := List.mem_map.mpr ⟨d, hd, rfl⟩
  rw [own_words] at h1
  obtain ⟨k, -, hk⟩ := List.mem_map.mp h1
  exact List.mem_of_getElem? hk
abbrev bk0 (s_roomsOfType : List Int32) (s_roomsAtLeast : List Int32) (s_firstRoomOfType : List Int32) (s_slotActive : List Int32) (s_slotType : List Int32) (s_slotArrive : List Int32) (s_slotNights : List Int32) (s_exactCount : List Int32) (s_atLeastCount : List Int32) (s_planRoom : List Int32) (s_planGrid : List Int32) (s_planOrder : List Int32) (s_totalRooms : Int32) (s_activeStays : Int32) (s_planOrderLength : Int32) (s_planCurrent : Int32) (s_planUnplaced : Int32) (po : List ACell) : List ACell := .inl (0, [.ref 1, .ref 2, .ref 3, .ref 4, .ref 5, .ref 6, .ref 7, .ref 8, .ref 9, .ref 10, .ref 11, .ref 12, .int s_totalRooms, .int s_activeStays, .int s_planOrderLength, .int s_planCurrent, .int s_planUnplaced]) :: .inr (.inl (false, s_roomsOfType)) :: .inr (.inl (false, s_roomsAtLeast)) :: .inr (.inl (false, s_firstRoomOfType)) :: .inr (.inl (true, s_slotActive)) :: .inr (.inl (false, s_slotType)) :: .inr (.inl (false, s_slotArrive)) :: .inr (.inl (false, s_slotNights)) :: .inr (.inl (false, s_exactCount)) :: .inr (.inl (false, s_atLeastCount)) :: .inr (.inl (false, s_planRoom)) :: .inr (.inl (false, s_planGrid)) :: .inr (.inl (false, s_planOrder)) :: po
def f_clampRooms (v1 : Int32) : Option (Int32) :=
  some (if v1 < (0 : Int32) then (0 : Int32) else (if (8 : Int32) < v1 then (8 : Int32) else v1))
def f_computeRoomTables (o_roomsOfType : List Int32) (o_roomsAtLeast : List Int32) (o_firstRoomOfType : List Int32) (o_totalRooms : Int32) : Option (List Int32 × List Int32 × Int32) :=
  (rdA o_roomsOfType (0 : Int32)).bind fun x1 =>
  (rdA o_roomsOfType (1 : Int32)).bind fun x2 =>
  (rdA o_roomsOfType (2 : Int32)).bind fun x3 =>
  (wrA o_roomsAtLeast (2 : Int32) x3).bind fun A4 =>
  (wrA A4 (1 : Int32) (x2 + x3)).bind fun A5 =>
  (wrA A5 (0 : Int32) ((x1 + x2) + x3)).bind fun A6 =>
  (wrA o_firstRoomOfType (0 : Int32) (0 : Int32)).bind fun A7 =>
  (wrA A7 (1 : Int32) x1).bind fun A8 =>
  (wrA A8 (2 : Int32) (x1 + x2)).bind fun A9 =>
  some (A6, A9, ((x1 + x2) + x3))
def f_resetStays_2 : Nat → List Int32 → List Int32 → List Int32 → List Int32 → Int32 → Int32 → Option (List Int32 × List Int32 × List Int32 × List Int32 × Int32)
  | 0, _, _, _, _, _, _ => none
  | n + 1, o_slotActive, o_slotType, o_slotArrive, o_slotNights, o_activeStays, v1 =>
    if v1 < (32 : Int32) then
      (wrA o_slotActive v1 (0 : Int32)).bind fun A10 =>
      (wrA o_slotType v1 (0 : Int32)).bind fun A11 =>
      (wrA o_slotArrive v1 (0 : Int32)).bind fun A12 =>
      (wrA o_slotNights v1 (0 : Int32)).bind fun A13 =>
      f_resetStays_2 n A10 A11 A12 A13 o_activeStays (v1 + (1 : Int32))
    else
      some (o_slotActive, o_slotType, o_slotArrive, o_slotNights, (0 : Int32))
def f_resetStays (o_slotActive : List Int32) (o_slotType : List Int32) (o_slotArrive : List Int32) (o_slotNights : List Int32) (o_activeStays : Int32) : Option (List Int32 × List Int32 × List Int32 × List Int32 × Int32) :=
  f_resetStays_2 100000 o_slotActive o_slotType o_slotArrive o_slotNights o_activeStays (0 : Int32)
def f_resetCounts_2 : Nat → List Int32 → List Int32 → Int32 → Option (List Int32 × List Int32)
  | 0, _, _, _ => none
  | n + 1, o_exactCount, o_atLeastCount, v1 =>
    if v1 < (96 : Int32) then
      (wrA o_exactCount v1 (0 : Int32)).bind fun A14 =>
      (wrA o_atLeastCount v1 (0 : Int32)).bind fun A15 =>
      f_resetCounts_2 n A14 A15 (v1 + (1 : Int32))
    else
      some (o_exactCount, o_atLeastCount)
def f_resetCounts (o_exactCount : List Int32) (o_atLeastCount : List Int32) : Option (List Int32 × List Int32) :=
  f_resetCounts_2 100000 o_exactCount o_atLeastCount (0 : Int32)
def f_clearPlan_30 : Nat → List Int32 → List Int32 → List Int32 → Int32 → Int32 → Option (List Int32 × List Int32 × List Int32 × Int32)
  | 0, _, _, _, _, _ => none
  | n + 1, o_planRoom, o_planGrid, o_planOrder, o_planOrderLength, v1 =>
    if v1 < (768 : Int32) then
      (wrA o_planGrid v1 (-1 : Int32)).bind fun A18 =>
      f_clearPlan_30 n o_planRoom A18 o_planOrder o_planOrderLength (v1 + (1 : Int32))
    else
      some (o_planRoom, o_planGrid, o_planOrder, (0 : Int32))
def f_clearPlan_2 (k30 : List Int32 → List Int32 → List Int32 → Int32 → Int32 → Option (List Int32 × List Int32 × List Int32 × Int32)) : Nat → List Int32 → List Int32 → List Int32 → Int32 → Int32 → Option (List Int32 × List Int32 × List Int32 × Int32)
  | 0, _, _, _, _, _ => none
  | n + 1, o_planRoom, o_planGrid, o_planOrder, o_planOrderLength, v1 =>
    if v1 < (32 : Int32) then
      (wrA o_planRoom v1 (-1 : Int32)).bind fun A16 =>
      (wrA o_planOrder v1 (0 : Int32)).bind fun A17 =>
      f_clearPlan_2 k30 n A16 o_planGrid A17 o_planOrderLength (v1 + (1 : Int32))
    else
      k30 o_planRoom o_planGrid o_planOrder o_planOrderLength (0 : Int32)
def f_clearPlan (o_planRoom : List Int32) (o_planGrid : List Int32) (o_planOrder : List Int32) (o_planOrderLength : Int32) : Option (List Int32 × List Int32 × List Int32 × Int32) :=
  f_clearPlan_2 (f_clearPlan_30 100000) 100000 o_planRoom o_planGrid o_planOrder o_planOrderLength (0 : Int32)
def f_init (v1 : Int32) (v2 : Int32) (v3 : Int32) : Option (List Int32 × List Int32 × List Int32 × List Int32 × List Int32 × List Int32 × List Int32 × List Int32 × List Int32 × List Int32 × List Int32 × List Int32 × Int32 × Int32 × Int32 × Int32 × Int32) :=
  (f_clampRooms v1).bind fun r19 =>
  (wrA (List.replicate 3 0) (0 : Int32) r19).bind fun A20 =>
  (f_clampRooms v2).bind fun r21 =>
  (wrA A20 (1 : Int32) r21).bind fun A22 =>
  (f_clampRooms v3).bind fun r23 =>
  (wrA A22 (2 : Int32) r23).bind fun A24 =>
  (f_computeRoomTables A24 (List.replicate 3 0) (List.replicate 3 0) (0 : Int32)).bind fun (s25, s26, s27) =>
  (f_resetStays (List.replicate 32 0) (List.replicate 32 0) (List.replicate 32 0) (List.replicate 32 0) (0 : Int32)).bind fun (s28, s29, s30, s31, s32) =>
  (f_resetCounts (List.replicate 96 0) (List.replicate 96 0)).bind fun (s33, s34) =>
  (f_clearPlan (List.replicate 32 0) (List.replicate 768 0) (List.replicate 32 0) (0 : Int32)).bind fun (s35, s36, s37, s38) =>
  some (A24, s25, s26, s28, s29, s30, s31, s33, s34, s35, s36, s37, s27, s32, s38, (0 : Int32), (0 : Int32))
def f_isValidType (v1 : Int32) : Option (Int32) :=
  some (if v1 < (0 : Int32) then (0 : Int32) else (if v1 < (3 : Int32) then (1 : Int32) else (0 : Int32)))
def f_isValidNight (v1 : Int32) : Option (Int32) :=
  some (if v1 < (0 : Int32) then (0 : Int32) else (if v1 < (32 : Int32) then (1 : Int32) else (0 : Int32)))
def f_isValidLength (v1 : Int32) (v2 : Int32) : Option (Int32) :=
  some (if v2 < (1 : Int32) then (0 : Int32) else (if ((32 : Int32) - v1) < v2 then (0 : Int32) else (1 : Int32)))
def f_requestError (v1 : Int32) (v2 : Int32) (v3 : Int32) : Option (Int32) :=
  (f_isValidType v1).bind fun r39 =>
  if r39 = (0 : Int32) then
    some (-1 : Int32)
  else
    (f_isValidNight v2).bind fun r40 =>
    if r40 = (0 : Int32) then
      some (-2 : Int32)
    else
      (f_isValidLength v2 v3).bind fun r41 =>
      some (if r41 = (0 : Int32) then (-2 : Int32) else (0 : Int32))
def f_endOf (v1 : Int32) (v2 : Int32) : Option (Int32) :=
  some (if (32 : Int32) < (v1 + v2) then (32 : Int32) else (v1 + v2))
def f_countIndex (v1 : Int32) (v2 : Int32) : Option (Int32) :=
  some ((v1 * (32 : Int32)) + v2)
def f_atLeastAt (o_atLeastCount : List Int32) (v1 : Int32) (v2 : Int32) : Option (Int32) :=
  (f_isValidType v1).bind fun r42 =>
  if r42 = (0 : Int32) then
    some (0 : Int32)
  else
    (f_isValidNight v2).bind fun r43 =>
    if r43 = (0 : Int32) then
      some (0 : Int32)
    else
      (f_countIndex v1 v2).bind fun r44 =>
      (rdA o_atLeastCount r44).bind fun x45 =>
      some x45
def f_isActiveStay (o_slotActive : List Int32) (v1 : Int32) : Option (Int32) :=
  if v1 < (0 : Int32) then
    some (0 : Int32)
  else
    if v1 < (32 : Int32) then
      (rdA o_slotActive v1).bind fun x46 =>
      some (x46 &&& 1)
    else
      some (0 : Int32)
def f_exclusion (o_slotActive : List Int32) (o_slotType : List Int32) (v1 : Int32) (v2 : Int32) (v3 : Int32) : Option (Int32) :=
  (f_isActiveStay o_slotActive v1).bind fun r47 =>
  if r47 = (0 : Int32) then
    some (0 : Int32)
  else
    (rdA o_slotType v1).bind fun x48 =>
    if x48 < v2 then
      some (0 : Int32)
    else
      none
def f_nightFits_3 (o_roomsAtLeast : List Int32) (o_slotActive : List Int32) (o_slotType : List Int32) (o_atLeastCount : List Int32) : Nat → Int32 → Int32 → Int32 → Int32 → Option (Int32)
  | 0, _, _, _, _ => none
  | n + 1, v1, v2, v3, v4 =>
    if v2 < v4 then
      some (1 : Int32)
    else
      if v4 < (3 : Int32) then
        (f_atLeastAt o_atLeastCount v4 v3).bind fun r49 =>
        (f_exclusion o_slotActive o_slotType v1 v4 v3).bind fun r50 =>
        (rdA o_roomsAtLeast v4).bind fun x51 =>
        if x51 < ((r49 - r50) + (1 : Int32)) then
          some (0 : Int32)
        else
          f_nightFits_3 o_roomsAtLeast o_slotActive o_slotType o_atLeastCount n v1 v2 v3 (v4 + (1 : Int32))
      else
        some (1 : Int32)
def f_nightFits (o_roomsAtLeast : List Int32) (o_slotActive : List Int32) (o_slotType : List Int32) (o_atLeastCount : List Int32) (v1 : Int32) (v2 : Int32) (v3 : Int32) : Option (Int32) :=
  f_nightFits_3 o_roomsAtLeast o_slotActive o_slotType o_atLeastCount 100000 v1 v2 v3 (0 : Int32)
def f_fitsWith_12 (o_roomsAtLeast : List Int32) (o_slotActive : List Int32) (o_slotType : List Int32) (o_atLeastCount : List Int32) : Nat → Int32 → Int32 → Int32 → Int32 → Option (Int32)
  | 0, _, _, _, _ => none
  | n + 1, v1, v2, v5, v6 =>
    if v6 < (0 : Int32) then
      some (1 : Int32)
    else
      if v6 < v5 then
        (f_nightFits o_roomsAtLeast o_slotActive o_slotType o_atLeastCount v1 v2 v6).bind fun r53 =>
        if r53 = (0 : Int32) then
          some (0 : Int32)
        else
          f_fitsWith_12 o_roomsAtLeast o_slotActive o_slotType o_atLeastCount n v1 v2 v5 (v6 + (1 : Int32))
      else
        some (1 : Int32)
def f_fitsWith (o_roomsAtLeast : List Int32) (o_slotActive : List Int32) (o_slotType : List Int32) (o_atLeastCount : List Int32) (v1 : Int32) (v2 : Int32) (v3 : Int32) (v4 : Int32) : Option (Int32) :=
  (f_endOf v3 v4).bind fun r52 =>
  f_fitsWith_12 o_roomsAtLeast o_slotActive o_slotType o_atLeastCount 100000 v1 v2 r52 v3
def f_lowestInactiveSlot_2 (o_slotActive : List Int32) : Nat → Int32 → Option (Int32)
  | 0, _ => none
  | n + 1, v1 =>
    if v1 < (32 : Int32) then
      (rdA o_slotActive v1).bind fun x54 =>
      if x54 = (0 : Int32) then
        some v1
      else
        f_lowestInactiveSlot_2 o_slotActive n (v1 + (1 : Int32))
    else
      some (-1 : Int32)
def f_lowestInactiveSlot (o_slotActive : List Int32) : Option (Int32) :=
  f_lowestInactiveSlot_2 o_slotActive 100000 (0 : Int32)
def f_storeStay (o_slotType : List Int32) (o_slotArrive : List Int32) (o_slotNights : List Int32) (v1 : Int32) (v2 : Int32) (v3 : Int32) (v4 : Int32) : Option (List Int32 × List Int32 × List Int32) :=
  (wrA o_slotType v1 v2).bind fun A55 =>
  (wrA o_slotArrive v1 v3).bind fun A56 =>
  (wrA o_slotNights v1 v4).bind fun A57 =>
  some (A55, A56, A57)
def f_adjustCoverage_84 (k53 : List Int32 → List Int32 → Int32 → Int32 → Int32 → Int32 → Option (List Int32 × List Int32)) (o_slotType : List Int32) (o_slotArrive : List Int32) (o_slotNights : List Int32) : Nat → List Int32 → List Int32 → Int32 → Int32 → Int32 → Int32 → Int32 → Option (List Int32 × List Int32)
  | 0, _, _, _, _, _, _, _ => none
  | n + 1, o_exactCount, o_atLeastCount, v2, v3, v5, v6, v7 =>
    if v3 < v7 then
      k53 o_exactCount o_atLeastCount v2 v3 v5 (v6 + (1 : Int32))
    else
      (f_countIndex v7 v6).bind fun r66 =>
      (rdA o_atLeastCount r66).bind fun x67 =>
      (wrA o_atLeastCount r66 (x67 + v2)).bind fun A68 =>
      f_adjustCoverage_84 k53 o_slotType o_slotArrive o_slotNights n o_exactCount A68 v2 v3 v5 v6 (v7 + (1 : Int32))
def f_adjustCoverage_53 (o_slotType : List Int32) (o_slotArrive : List Int32) (o_slotNights : List Int32) : Nat → List Int32 → List Int32 → Int32 → Int32 → Int32 → Int32 → Option (List Int32 × List Int32)
  | 0, _, _, _, _, _, _ => none
  | n + 1, o_exactCount, o_atLeastCount, v2, v3, v5, v6 =>
    if v6 < (0 : Int32) then
      some (o_exactCount, o_atLeastCount)
    else
      if v6 < v5 then
        (f_countIndex v3 v6).bind fun r63 =>
        (rdA o_exactCount r63).bind fun x64 =>
        (wrA o_exactCount r63 (x64 + v2)).bind fun A65 =>
        f_adjustCoverage_84 (f_adjustCoverage_53 o_slotType o_slotArrive o_slotNights n) o_slotType o_slotArrive o_slotNights 100000 A65 o_atLeastCount v2 v3 v5 v6 (0 : Int32)
      else
        some (o_exactCount, o_atLeastCount)
def f_adjustCoverage (o_slotType : List Int32) (o_slotArrive : List Int32) (o_slotNights : List Int32) (o_exactCount : List Int32) (o_atLeastCount : List Int32) (v1 : Int32) (v2 : Int32) : Option (List Int32 × List Int32) :=
  if v1 < (0 : Int32) then
    some (o_exactCount, o_atLeastCount)
  else
    if v1 < (32 : Int32) then
      (rdA o_slotType v1).bind fun x58 =>
      (f_isValidType x58).bind fun r59 =>
      if r59 = (0 : Int32) then
        some (o_exactCount, o_atLeastCount)
      else
        (rdA o_slotArrive v1).bind fun x60 =>
        (rdA o_slotNights v1).bind fun x61 =>
        (f_endOf x60 x61).bind fun r62 =>
        f_adjustCoverage_53 o_slotType o_slotArrive o_slotNights 100000 o_exactCount o_atLeastCount v2 x58 r62 x60
    else
      some (o_exactCount, o_atLeastCount)
def f_activateStay (o_slotActive : List Int32) (o_slotType : List Int32) (o_slotArrive : List Int32) (o_slotNights : List Int32) (o_exactCount : List Int32) (o_atLeastCount : List Int32) (o_activeStays : Int32) (v1 : Int32) (v2 : Int32) (v3 : Int32) (v4 : Int32) : Option (List Int32 × List Int32 × List Int32 × List Int32 × List Int32 × List Int32 × Int32) :=
  (f_storeStay o_slotType o_slotArrive o_slotNights v1 v2 v3 v4).bind fun (s69, s70, s71) =>
  (wrA o_slotActive v1 (1 : Int32)).bind fun A72 =>
  (f_adjustCoverage s69 s70 s71 o_exactCount o_atLeastCount v1 (1 : Int32)).bind fun (s73, s74) =>
  some (A72, s69, s70, s71, s73, s74, (o_activeStays + (1 : Int32)))
def f_discardPlan (o_planCurrent : Int32) : Option (Int32) :=
  some (0 : Int32)
def f_book (o_roomsAtLeast : List Int32) (o_slotActive : List Int32) (o_slotType : List Int32) (o_slotArrive : List Int32) (o_slotNights : List Int32) (o_exactCount : List Int32) (o_atLeastCount : List Int32) (o_activeStays : Int32) (o_planCurrent : Int32) (v1 : Int32) (v2 : Int32) (v3 : Int32) : Option (Int32 × List Int32 × List Int32 × List Int32 × List Int32 × List Int32 × List Int32 × Int32 × Int32) :=
  (f_requestError v1 v2 v3).bind fun r75 =>
  if r75 = (0 : Int32) then
    if o_activeStays < (32 : Int32) then
      (f_fitsWith o_roomsAtLeast o_slotActive o_slotType o_atLeastCount (-1 : Int32) v1 v2 v3).bind fun r76 =>
      if r76 = (0 : Int32) then
        some ((-4 : Int32), o_slotActive, o_slotType, o_slotArrive, o_slotNights, o_exactCount, o_atLeastCount, o_activeStays, o_planCurrent)
      else
        (f_lowestInactiveSlot o_slotActive).bind fun r77 =>
        if r77 < (0 : Int32) then
          some ((-3 : Int32), o_slotActive, o_slotType, o_slotArrive, o_slotNights, o_exactCount, o_atLeastCount, o_activeStays, o_planCurrent)
        else
          (f_activateStay o_slotActive o_slotType o_slotArrive o_slotNights o_exactCount o_atLeastCount o_activeStays r77 v1 v2 v3).bind fun (s78, s79, s80, s81, s82, s83, s84) =>
          (f_discardPlan o_planCurrent).bind fun s85 =>
          some (r77, s78, s79, s80, s81, s82, s83, s84, s85)
    else
      some ((-3 : Int32), o_slotActive, o_slotType, o_slotArrive, o_slotNights, o_exactCount, o_atLeastCount, o_activeStays, o_planCurrent)
  else
    some (r75, o_slotActive, o_slotType, o_slotArrive, o_slotNights, o_exactCount, o_atLeastCount, o_activeStays, o_planCurrent)
def f_isAssigned (o_planCurrent : Int32) : Option (Int32) :=
  some (o_planCurrent &&& 1)
def f_appendToOrder (o_planOrder : List Int32) (o_planOrderLength : Int32) (v1 : Int32) : Option (List Int32 × Int32) :=
  if o_planOrderLength < (0 : Int32) then
    some (o_planOrder, o_planOrderLength)
  else
    if o_planOrderLength < (32 : Int32) then
      (wrA o_planOrder o_planOrderLength v1).bind fun A86 =>
      some (A86, (o_planOrderLength + (1 : Int32)))
    else
      some (o_planOrder, o_planOrderLength)
def f_buildOrder_15 (k7 : List Int32 → Int32 → Int32 → Option (List Int32 × Int32)) (o_slotActive : List Int32) (o_slotArrive : List Int32) : Nat → List Int32 → Int32 → Int32 → Int32 → Option (List Int32 × Int32)
  | 0, _, _, _, _ => none
  | n + 1, o_planOrder, o_planOrderLength, v1, v2 =>
    if v2 < (32 : Int32) then
      (rdA o_slotActive v2).bind fun x87 =>
      if x87 = (0 : Int32) then
        f_buildOrder_15 k7 o_slotActive o_slotArrive n o_planOrder o_planOrderLength v1 (v2 + (1 : Int32))
      else
        (rdA o_slotArrive v2).bind fun x88 =>
        if x88 = v1 then
          (f_appendToOrder o_planOrder o_planOrderLength v2).bind fun (s89, s90) =>
          f_buildOrder_15 k7 o_slotActive o_slotArrive n s89 s90 v1 (v2 + (1 : Int32))
        else
          f_buildOrder_15 k7 o_slotActive o_slotArrive n o_planOrder o_planOrderLength v1 (v2 + (1 : Int32))
    else
      k7 o_planOrder o_planOrderLength (v1 + (1 : Int32))
def f_buildOrder_7 (o_slotActive : List Int32) (o_slotArrive : List Int32) : Nat → List Int32 → Int32 → Int32 → Option (List Int32 × Int32)
  | 0, _, _, _ => none
  | n + 1, o_planOrder, o_planOrderLength, v1 =>
    if v1 < (32 : Int32) then
      f_buildOrder_15 (f_buildOrder_7 o_slotActive o_slotArrive n) o_slotActive o_slotArrive 100000 o_planOrder o_planOrderLength v1 (0 : Int32)
    else
      some (o_planOrder, o_planOrderLength)
def f_buildOrder (o_slotActive : List Int32) (o_slotArrive : List Int32) (o_planOrder : List Int32) (o_planOrderLength : Int32) : Option (List Int32 × Int32) :=
  f_buildOrder_7 o_slotActive o_slotArrive 100000 o_planOrder (0 : Int32) (0 : Int32)
def f_gridIndex (v1 : Int32) (v2 : Int32) : Option (Int32) :=
  some ((v1 * (32 : Int32)) + v2)
def f_gridAt (o_planGrid : List Int32) (v1 : Int32) (v2 : Int32) : Option (Int32) :=
  if v1 < (0 : Int32) then
    some (-1 : Int32)
  else
    if v1 < (24 : Int32) then
      (f_isValidNight v2).bind fun r91 =>
      if r91 = (0 : Int32) then
        some (-1 : Int32)
      else
        (f_gridIndex v1 v2).bind fun r92 =>
        (rdA o_planGrid r92).bind fun x93 =>
        some x93
    else
      some (-1 : Int32)
def f_roomIsFree_11 (o_planGrid : List Int32) : Nat → Int32 → Int32 → Int32 → Option (Int32)
  | 0, _, _, _ => none
  | n + 1, v1, v4, v5 =>
    if v5 < (0 : Int32) then
      some (1 : Int32)
    else
      if v5 < v4 then
        (f_gridAt o_planGrid v1 v5).bind fun r95 =>
        if r95 = (-1 : Int32) then
          f_roomIsFree_11 o_planGrid n v1 v4 (v5 + (1 : Int32))
        else
          some (0 : Int32)
      else
        some (1 : Int32)
def f_roomIsFree (o_planGrid : List Int32) (v1 : Int32) (v2 : Int32) (v3 : Int32) : Option (Int32) :=
  (f_endOf v2 v3).bind fun r94 =>
  f_roomIsFree_11 o_planGrid 100000 v1 r94 v2
def f_markRoom_23 : Nat → List Int32 → Int32 → Int32 → Int32 → Int32 → Option (List Int32)
  | 0, _, _, _, _, _ => none
  | n + 1, o_planGrid, v1, v2, v5, v6 =>
    if v6 < (0 : Int32) then
      some o_planGrid
    else
      if v6 < v5 then
        (f_gridIndex v1 v6).bind fun r97 =>
        (wrA o_planGrid r97 v2).bind fun A98 =>
        f_markRoom_23 n A98 v1 v2 v5 (v6 + (1 : Int32))
      else
        some o_planGrid
def f_markRoom (o_planGrid : List Int32) (v1 : Int32) (v2 : Int32) (v3 : Int32) (v4 : Int32) : Option (List Int32) :=
  if v1 < (0 : Int32) then
    some o_planGrid
  else
    if v1 < (24 : Int32) then
      (f_endOf v3 v4).bind fun r96 =>
      f_markRoom_23 100000 o_planGrid v1 v2 r96 v3
    else
      some o_planGrid
def f_placeStay_78 (o_firstRoomOfType : List Int32) (o_slotActive : List Int32) (o_slotType : List Int32) (o_slotArrive : List Int32) (o_slotNights : List Int32) (o_totalRooms : Int32) (o_planRoom : List Int32) (o_planGrid : List Int32) (v1 : Int32) (v3 : Int32) (v4 : Int32) (v5 : Int32) : Option (Int32 × List Int32 × List Int32) :=
  (f_markRoom o_planGrid v5 v1 v3 v4).bind fun s106 =>
  (wrA o_planRoom v1 v5).bind fun A107 =>
  some ((1 : Int32), A107, s106)
def f_placeStay_50 (k78 : List Int32 → List Int32 → Int32 → Int32 → Int32 → Int32 → Option (Int32 × List Int32 × List Int32)) (o_firstRoomOfType : List Int32) (o_slotActive : List Int32) (o_slotType : List Int32) (o_slotArrive : List Int32) (o_slotNights : List Int32) (o_totalRooms : Int32) : Nat → List Int32 → List Int32 → Int32 → Int32 → Int32 → Int32 → Option (Int32 × List Int32 × List Int32)
  | 0, _, _, _, _, _, _ => none
  | n + 1, o_planRoom, o_planGrid, v1, v3, v4, v5 =>
    if v5 < o_totalRooms then
      if v5 < (24 : Int32) then
        (f_roomIsFree o_planGrid v5 v3 v4).bind fun r105 =>
        if r105 = (0 : Int32) then
          f_placeStay_50 k78 o_firstRoomOfType o_slotActive o_slotType o_slotArrive o_slotNights o_totalRooms n o_planRoom o_planGrid v1 v3 v4 (v5 + (1 : Int32))
        else
          k78 o_planRoom o_planGrid v1 v3 v4 v5
      else
        some ((0 : Int32), o_planRoom, o_planGrid)
    else
      some ((0 : Int32), o_planRoom, o_planGrid)
def f_placeStay (o_firstRoomOfType : List Int32) (o_slotActive : List Int32) (o_slotType : List Int32) (o_slotArrive : List Int32) (o_slotNights : List Int32) (o_totalRooms : Int32) (o_planRoom : List Int32) (o_planGrid : List Int32) (v1 : Int32) : Option (Int32 × List Int32 × List Int32) :=
  (f_isActiveStay o_slotActive v1).bind fun r99 =>
  if r99 = (0 : Int32) then
    some ((0 : Int32), o_planRoom, o_planGrid)
  else
    (rdA o_slotType v1).bind fun x100 =>
    (f_isValidType x100).bind fun r101 =>
    if r101 = (0 : Int32) then
      some ((0 : Int32), o_planRoom, o_planGrid)
    else
      (rdA o_slotArrive v1).bind fun x102 =>
      (rdA o_slotNights v1).bind fun x103 =>
      (rdA o_firstRoomOfType x100).bind fun x104 =>
      f_placeStay_50 (f_placeStay_78 o_firstRoomOfType o_slotActive o_slotType o_slotArrive o_slotNights o_totalRooms) o_firstRoomOfType o_slotActive o_slotType o_slotArrive o_slotNights o_totalRooms 100000 o_planRoom o_planGrid v1 x102 x103 x104
def f_assign_58 (o_firstRoomOfType : List Int32) (o_slotActive : List Int32) (o_slotType : List Int32) (o_slotArrive : List Int32) (o_slotNights : List Int32) (o_totalRooms : Int32) (o_planRoom : List Int32) (o_planGrid : List Int32) (o_planOrder : List Int32) (o_planOrderLength : Int32) (o_planCurrent : Int32) (o_planUnplaced : Int32) (v1 : Int32) : Option (Int32 × List Int32 × List Int32 × List Int32 × Int32 × Int32 × Int32) :=
  some (v1, o_planRoom, o_planGrid, o_planOrder, o_planOrderLength, (1 : Int32), v1)
def f_assign_16 (k58 : List Int32 → List Int32 → List Int32 → Int32 → Int32 → Int32 → Int32 → Option (Int32 × List Int32 × List Int32 × List Int32 × Int32 × Int32 × Int32)) (o_firstRoomOfType : List Int32) (o_slotActive : List Int32) (o_slotType : List Int32) (o_slotArrive : List Int32) (o_slotNights : List Int32) (o_totalRooms : Int32) : Nat → List Int32 → List Int32 → List Int32 → Int32 → Int32 → Int32 → Int32 → Int32 → Option (Int32 × List Int32 × List Int32 × List Int32 × Int32 × Int32 × Int32)
  | 0, _, _, _, _, _, _, _, _ => none
  | n + 1, o_planRoom, o_planGrid, o_planOrder, o_planOrderLength, o_planCurrent, o_planUnplaced, v1, v2 =>
    if v2 < o_planOrderLength then
      if v2 < (32 : Int32) then
        (rdA o_planOrder v2).bind fun x115 =>
        (f_placeStay o_firstRoomOfType o_slotActive o_slotType o_slotArrive o_slotNights o_totalRooms o_planRoom o_planGrid x115).bind fun (r116, s117, s118) =>
        f_assign_16 k58 o_firstRoomOfType o_slotActive o_slotType o_slotArrive o_slotNights o_totalRooms n s117 s118 o_planOrder o_planOrderLength o_planCurrent o_planUnplaced (if r116 = (0 : Int32) then (v1 + (1 : Int32)) else v1) (v2 + (1 : Int32))
      else
        k58 o_planRoom o_planGrid o_planOrder o_planOrderLength o_planCurrent o_planUnplaced v1
    else
      k58 o_planRoom o_planGrid o_planOrder o_planOrderLength o_planCurrent o_planUnplaced v1
def f_assign (o_firstRoomOfType : List Int32) (o_slotActive : List Int32) (o_slotType : List Int32) (o_slotArrive : List Int32) (o_slotNights : List Int32) (o_totalRooms : Int32) (o_planRoom : List Int32) (o_planGrid : List Int32) (o_planOrder : List Int32) (o_planOrderLength : Int32) (o_planCurrent : Int32) (o_planUnplaced : Int32) : Option (Int32 × List Int32 × List Int32 × List Int32 × Int32 × Int32 × Int32) :=
  (f_discardPlan o_planCurrent).bind fun s108 =>
  (f_clearPlan o_planRoom o_planGrid o_planOrder o_planOrderLength).bind fun (s109, s110, s111, s112) =>
  (f_buildOrder o_slotActive o_slotArrive s111 s112).bind fun (s113, s114) =>
  f_assign_16 (f_assign_58 o_firstRoomOfType o_slotActive o_slotType o_slotArrive o_slotNights o_totalRooms) o_firstRoomOfType o_slotActive o_slotType o_slotArrive o_slotNights o_totalRooms 100000 s109 s110 s113 s114 s108 o_planUnplaced (0 : Int32) (0 : Int32)
def f_roomOf (o_slotActive : List Int32) (o_planRoom : List Int32) (o_planCurrent : Int32) (v1 : Int32) : Option (Int32) :=
  (f_isActiveStay o_slotActive v1).bind fun r119 =>
  if r119 = (0 : Int32) then
    some (-1 : Int32)
  else
    if o_planCurrent = (0 : Int32) then
      some (-1 : Int32)
    else
      (rdA o_planRoom v1).bind fun x120 =>
      some x120
def f_isValidRoom (o_totalRooms : Int32) (v1 : Int32) : Option (Int32) :=
  some (if v1 < (0 : Int32) then (0 : Int32) else (if v1 < o_totalRooms then (if v1 < (24 : Int32) then (1 : Int32) else (0 : Int32)) else (0 : Int32)))
def f_occupant (o_planGrid : List Int32) (o_totalRooms : Int32) (o_planCurrent : Int32) (v1 : Int32) (v2 : Int32) : Option (Int32) :=
  (f_isValidRoom o_totalRooms v1).bind fun r121 =>
  if r121 = (0 : Int32) then
    some (-1 : Int32)
  else
    (f_isValidNight v2).bind fun r122 =>
    if r122 = (0 : Int32) then
      some (-1 : Int32)
    else
      if o_planCurrent = (0 : Int32) then
        some (-1 : Int32)
      else
        (f_gridAt o_planGrid v1 v2).bind fun r123 =>
        some r123
def f_L_law_375 (kb : List Int32 → Int32 → Int32 → Int32 → Int32 → Int32 → Int32 → Int32 → Option (Int32)) (n0_planGrid : List Int32) (n0_totalRooms : Int32) (n0_planCurrent : Int32) (v7 : Int32) (v16 : Int32) (v17 : Int32) (v18 : Int32) (v19 : Int32) (v20 : Int32) : Option (Int32) :=
  (f_occupant n0_planGrid n0_totalRooms n0_planCurrent v19 v7).bind fun r170 =>
  if r170 = v20 then
    kb n0_planGrid n0_totalRooms n0_planCurrent v7 v16 v17 v18 (v19 + (1 : Int32))
  else
    some (0 : Int32)
def f_L_law_335 : Nat → List Int32 → Int32 → Int32 → Int32 → Int32 → Int32 → Int32 → Int32 → Option (Int32)
  | 0, _, _, _, _, _, _, _, _ => none
  | n + 1, n0_planGrid, n0_totalRooms, n0_planCurrent, v7, v16, v17, v18, v19 =>
    if v19 < (2 : Int32) then
      f_L_law_375 (f_L_law_335 n) n0_planGrid n0_totalRooms n0_planCurrent v7 v16 v17 v18 v19 (if v16 = v19 then (0 : Int32) else (if v18 = (0 : Int32) then (-1 : Int32) else (if v17 = v19 then (1 : Int32) else (-1 : Int32))))
    else
      some (1 : Int32)
def f_L_law_257 (n0_firstRoomOfType : List Int32) (n0_slotActive : List Int32) (n0_slotType : List Int32) (n0_slotArrive : List Int32) (n0_slotNights : List Int32) (n0_planRoom : List Int32) (n0_planGrid : List Int32) (n0_planOrder : List Int32) (n0_totalRooms : Int32) (n0_planOrderLength : Int32) (n0_planCurrent : Int32) (n0_planUnplaced : Int32) (v7 : Int32) (v10 : Int32) (v11 : Int32) (v14 : Int32) (v16 : Int32) (v17 : Int32) : Option (Int32) :=
  (f_assign n0_firstRoomOfType n0_slotActive n0_slotType n0_slotArrive n0_slotNights n0_totalRooms n0_planRoom n0_planGrid n0_planOrder n0_planOrderLength n0_planCurrent n0_planUnplaced).bind fun (r160, s161, s162, s163, s164, s165, s166) =>
  if r160 = (0 : Int32) then
    (f_isAssigned s165).bind fun r167 =>
    if r167 = (0 : Int32) then
      some (0 : Int32)
    else
      (f_roomOf n0_slotActive s161 s165 (0 : Int32)).bind fun r168 =>
      if r168 = v16 then
        (f_roomOf n0_slotActive s161 s165 (1 : Int32)).bind fun r169 =>
        if r169 = v17 then
          f_L_law_335 100000 s162 n0_totalRooms s165 v7 v16 v17 (if v14 = (0 : Int32) then (0 : Int32) else (if v7 < v10 then (0 : Int32) else (if v7 < (v10 + v11) then (1 : Int32) else (0 : Int32)))) (0 : Int32)
        else
          some (0 : Int32)
      else
        some (0 : Int32)
  else
    some (0 : Int32)
def f_L_law_157 (n0_firstRoomOfType : List Int32) (n0_slotActive : List Int32) (n0_slotType : List Int32) (n0_slotArrive : List Int32) (n0_slotNights : List Int32) (n0_planRoom : List Int32) (n0_planGrid : List Int32) (n0_planOrder : List Int32) (n0_totalRooms : Int32) (n0_planOrderLength : Int32) (n0_planCurrent : Int32) (n0_planUnplaced : Int32) (v6 : Int32) (v7 : Int32) (v9 : Int32) (v10 : Int32) (v11 : Int32) (v13 : Int32) (v14 : Int32) (t0 : Int32) (t1 : Int32) : Option (Int32) :=
  if t1 = t0 then
    (f_isAssigned n0_planCurrent).bind fun r159 =>
    if r159 = (0 : Int32) then
      f_L_law_257 n0_firstRoomOfType n0_slotActive n0_slotType n0_slotArrive n0_slotNights n0_planRoom n0_planGrid n0_planOrder n0_totalRooms n0_planOrderLength n0_planCurrent n0_planUnplaced v7 v10 v11 v14 (if v14 = (0 : Int32) then v6 else (if v13 = (0 : Int32) then v6 else (if v10 < v7 then (if v6 = (1 : Int32) then (1 : Int32) else (if v9 = (0 : Int32) then (1 : Int32) else (0 : Int32))) else v6))) (if v14 = (0 : Int32) then (-1 : Int32) else (if v13 = (0 : Int32) then v9 else (if v10 < v7 then v9 else (if v9 = (1 : Int32) then (1 : Int32) else (if v6 = (0 : Int32) then (1 : Int32) else (0 : Int32))))))
    else
      some (0 : Int32)
  else
    some (0 : Int32)
def f_L_law_129 (n0_roomsAtLeast : List Int32) (n0_firstRoomOfType : List Int32) (n0_slotActive : List Int32) (n0_slotType : List Int32) (n0_slotArrive : List Int32) (n0_slotNights : List Int32) (n0_exactCount : List Int32) (n0_atLeastCount : List Int32) (n0_planRoom : List Int32) (n0_planGrid : List Int32) (n0_planOrder : List Int32) (n0_totalRooms : Int32) (n0_activeStays : Int32) (n0_planOrderLength : Int32) (n0_planCurrent : Int32) (n0_planUnplaced : Int32) (v6 : Int32) (v7 : Int32) (v9 : Int32) (v10 : Int32) (v11 : Int32) (v13 : Int32) (t0 : Int32) : Option (Int32) :=
  (f_book n0_roomsAtLeast n0_slotActive n0_slotType n0_slotArrive n0_slotNights n0_exactCount n0_atLeastCount n0_activeStays n0_planCurrent v9 v10 v11).bind fun (r150, s151, s152, s153, s154, s155, s156, s157, s158) =>
  f_L_law_157 n0_firstRoomOfType s151 s152 s153 s154 n0_planRoom n0_planGrid n0_planOrder n0_totalRooms n0_planOrderLength s158 n0_planUnplaced v6 v7 v9 v10 v11 v13 t0 (if t0 = (0 : Int32) then (-4 : Int32) else (1 : Int32)) r150
def f_L_law_105 (n0_roomsAtLeast : List Int32) (n0_firstRoomOfType : List Int32) (n0_slotActive : List Int32) (n0_slotType : List Int32) (n0_slotArrive : List Int32) (n0_slotNights : List Int32) (n0_exactCount : List Int32) (n0_atLeastCount : List Int32) (n0_planRoom : List Int32) (n0_planGrid : List Int32) (n0_planOrder : List Int32) (n0_totalRooms : Int32) (n0_activeStays : Int32) (n0_planOrderLength : Int32) (n0_planCurrent : Int32) (n0_planUnplaced : Int32) (v6 : Int32) (v7 : Int32) (v9 : Int32) (v10 : Int32) (v11 : Int32) (t0 : Int32) : Option (Int32) :=
  f_L_law_129 n0_roomsAtLeast n0_firstRoomOfType n0_slotActive n0_slotType n0_slotArrive n0_slotNights n0_exactCount n0_atLeastCount n0_planRoom n0_planGrid n0_planOrder n0_totalRooms n0_activeStays n0_planOrderLength n0_planCurrent n0_planUnplaced v6 v7 v9 v10 v11 t0 (if t0 = (0 : Int32) then (1 : Int32) else (if v6 = (1 : Int32) then (if v9 = (1 : Int32) then (0 : Int32) else (1 : Int32)) else (1 : Int32)))
def f_L_law (v0 : Int32) (v1 : Int32) (v2 : Int32) (v3 : Int32) (v4 : Int32) (v5 : Int32) : Option (Int32) :=
  if ((32 : Int32) - (v1 &&& (31 : Int32))) = 0 then none else
  if ((32 : Int32) - (v4 &&& (31 : Int32))) = 0 then none else
  (f_init (1 : Int32) (1 : Int32) (0 : Int32)).bind fun (s124, s125, s126, s127, s128, s129, s130, s131, s132, s133, s134, s135, s136, s137, s138, s139, s140) =>
  (f_book s125 s127 s128 s129 s130 s131 s132 s137 s139 (v0 &&& (1 : Int32)) (v1 &&& (31 : Int32)) ((1 : Int32) + ((v2 &&& (2147483647 : Int32)) % ((32 : Int32) - (v1 &&& (31 : Int32)))))).bind fun (r141, s142, s143, s144, s145, s146, s147, s148, s149) =>
  if r141 = (0 : Int32) then
    f_L_law_105 s125 s126 s142 s143 s144 s145 s146 s147 s133 s134 s135 s136 s148 s138 s149 s140 (v0 &&& (1 : Int32)) (v1 &&& (31 : Int32)) (v3 &&& (1 : Int32)) (v4 &&& (31 : Int32)) ((1 : Int32) + ((v5 &&& (2147483647 : Int32)) % ((32 : Int32) - (v4 &&& (31 : Int32))))) (if (v1 &&& (31 : Int32)) < ((v4 &&& (31 : Int32)) + ((1 : Int32) + ((v5 &&& (2147483647 : Int32)) % ((32 : Int32) - (v4 &&& (31 : Int32)))))) then (if (v4 &&& (31 : Int32)) < ((v1 &&& (31 : Int32)) + ((1 : Int32) + ((v2 &&& (2147483647 : Int32)) % ((32 : Int32) - (v1 &&& (31 : Int32)))))) then (1 : Int32) else (0 : Int32)) else (0 : Int32))
  else
    some (0 : Int32)
set_option maxHeartbeats 4000000
set_option maxRecDepth 10000
theorem ok_clampRooms {o_roomsOfType : List Int32} {o_roomsAtLeast : List Int32} {o_firstRoomOfType : List Int32} {o_slotActive : List Int32} {o_slotType : List Int32} {o_slotArrive : List Int32} {o_slotNights : List Int32} {o_exactCount : List Int32} {o_atLeastCount : List Int32} {o_planRoom : List Int32} {o_planGrid : List Int32} {o_planOrder : List Int32} {o_totalRooms : Int32} {o_activeStays : Int32} {o_planOrderLength : Int32} {o_planCurrent : Int32} {o_planUnplaced : Int32} {po : List ACell} {v1 : Int32} {res : Int32} (h : f_clampRooms v1 = some res) : OEnds own_P 2 0 [.val (.ref 0), .val (.int v1)] [] (bk0 o_roomsOfType o_roomsAtLeast o_firstRoomOfType o_slotActive o_slotType o_slotArrive o_slotNights o_exactCount o_atLeastCount o_planRoom o_planGrid o_planOrder o_totalRooms o_activeStays o_planOrderLength o_planCurrent o_planUnplaced po) (some (.int res), (bk0 o_roomsOfType o_roomsAtLeast o_firstRoomOfType o_slotActive o_slotType o_slotArrive o_slotNights o_exactCount o_atLeastCount o_planRoom o_planGrid o_planOrder o_totalRooms o_activeStays o_planOrderLength o_planCurrent o_planUnplaced po), 0, 0) := by
  unfold f_clampRooms at h
  refine OEnds.adv hm_2 1 (pc' := 1) (L' := [.val (.ref 0), .val (.int v1)]) (S' := [.int v1]) (H' := (bk0 o_roomsOfType o_roomsAtLeast o_firstRoomOfType o_slotActive o_slotType o_slotArrive o_slotNights o_exactCount o_atLeastCount o_planRoom o_planGrid o_planOrder o_totalRooms o_activeStays o_planOrderLength o_planCurrent o_planUnplaced po)) rfl ?_
  by_cases hc1 : v1 < (0 : Int32)
  · simp only [if_pos hc1] at h
    refine OEnds.ifF hm_2 rfl ((tlt hc1).2.1) ?_
    refine OEnds.adv hm_2 1 (pc' := 5) (L' := [.val (.ref 0), .val (.int v1)]) (S' := [.int 0]) (H' := (bk0 o_roomsOfType o_roomsAtLeast o_firstRoomOfType o_slotActive o_slotType o_slotArrive o_slotNights o_exactCount o_atLeastCount o_planRoom o_planGrid o_planOrder o_totalRooms o_activeStays o_planOrderLength o_planCurrent o_planUnplaced po)) rfl ?_
    cases h
    exact OEnds.iret hm_2 rfl rfl
  · simp only [if_neg hc1] at h
    refine OEnds.ifT hm_2 rfl (q := 6) rfl ((flt hc1).2.1) ?_
    refine OEnds.adv hm_2 2 (pc' := 9) (L' := [.val (.ref 0), .val (.int v1)]) (S' := [.int 8, .int v1]) (H' := (bk0 o_roomsOfType o_roomsAtLeast o_firstRoomOfType o_slotActive o_slotType o_slotArrive o_slotNights o_exactCount o_atLeastCount o_planRoom o_planGrid o_planOrder o_totalRooms o_activeStays o_planOrderLength o_planCurrent o_planUnplaced po)) rfl ?_
    by_cases hc2 : (8 : Int32) < v1
    · simp only [if_pos hc2] at h
      refine OEnds.icmpF hm_2 rfl ((tlt hc2).2.2.2) ?_
      refine OEnds.adv hm_2 1 (pc' := 14) (L' := [.val (.ref 0), .val (.int v1)]) (S' := [.int 8]) (H' := (bk0 o_roomsOfType o_roomsAtLeast o_firstRoomOfType o_slotActive o_slotType o_slotArrive o_slotNights o_exactCount o_atLeastCount o_planRoom o_planGrid o_planOrder o_totalRooms o_activeStays o_planOrderLength o_planCurrent o_planUnplaced po)) rfl ?_
      cases h
      exact OEnds.iret hm_2 rfl rfl
    · simp only [if_neg hc2] at h
      refine OEnds.icmpT hm_2 rfl (q := 15) rfl ((flt hc2).2.2.2) ?_
      refine OEnds.adv hm_2 1 (pc' := 16) (L' := [.val (.ref 0), .val (.int v1)]) (S' := [.int v1]) (H' := (bk0 o_roomsOfType o_roomsAtLeast o_firstRoomOfType o_slotActive o_slotType o_slotArrive o_slotNights o_exactCount o_atLeastCount o_planRoom o_planGrid o_planOrder o_totalRooms o_activeStays o_planOrderLength o_planCurrent o_planUnplaced po)) rfl ?_
      cases h
      exact OEnds.iret hm_2 rfl rfl
theorem ok_computeRoomTables {o_roomsOfType : List Int32} {o_slotActive : List Int32} {o_slotType : List Int32} {o_slotArrive : List Int32} {o_slotNights : List Int32} {o_exactCount : List Int32} {o_atLeastCount : List Int32} {o_planRoom : List Int32} {o_planGrid : List Int32} {o_planOrder : List Int32} {o_activeStays : Int32} {o_planOrderLength : Int32} {o_planCurrent : Int32} {o_planUnplaced : Int32} {po : List ACell} {o_roomsAtLeast : List Int32} {o_firstRoomOfType : List Int32} {o_totalRooms : Int32} {w_o_roomsAtLeast : List Int32} {w_o_firstRoomOfType : List Int32} {w_o_totalRooms : Int32} (h : f_computeRoomTables o_roomsOfType o_roomsAtLeast o_firstRoomOfType o_totalRooms = some (w_o_roomsAtLeast, w_o_firstRoomOfType, w_o_totalRooms)) : OEnds own_P 3 0 [.val (.ref 0), .unset, .unset, .unset] [] (bk0 o_roomsOfType o_roomsAtLeast o_firstRoomOfType o_slotActive o_slotType o_slotArrive o_slotNights o_exactCount o_atLeastCount o_planRoom o_planGrid o_planOrder o_totalRooms o_activeStays o_planOrderLength o_planCurrent o_planUnplaced po) (none, (bk0 o_roomsOfType w_o_roomsAtLeast w_o_firstRoomOfType o_slotActive o_slotType o_slotArrive o_slotNights o_exactCount o_atLeastCount o_planRoom o_planGrid o_planOrder w_o_totalRooms o_activeStays o_planOrderLength o_planCurrent o_planUnplaced po), 0, 0) := by
  unfold f_computeRoomTables at h
  refine OEnds.adv hm_3 3 (pc' := 5) (L' := [.val (.ref 0), .unset, .unset, .unset]) (S' := [.int 0, .ref 1]) (H' := (bk0 o_roomsOfType o_roomsAtLeast o_firstRoomOfType o_slotActive o_slotType o_slotArrive o_slotNights o_exactCount o_atLeastCount o_planRoom o_planGrid o_planOrder o_totalRooms o_activeStays o_planOrderLength o_planCurrent o_planUnplaced po)) rfl ?_
  obtain ⟨x1, hx1, h⟩ := bnd h
  refine OEnds.plain hm_3 rfl rfl (x_iaload rfl hx1) ?_
  refine OEnds.adv hm_3 4 (pc' := 12) (L' := [.val (.ref 0), .val (.int x1), .unset, .unset]) (S' := [.int 1, .ref 1]) (H' := (bk0 o_roomsOfType o_roomsAtLeast o_firstRoomOfType o_slotActive o_slotType o_slotArrive o_slotNights o_exactCount o_atLeastCount o_planRoom o_planGrid o_planOrder o_totalRooms o_activeStays o_planOrderLength o_planCurrent o_planUnplaced po)) rfl ?_
  obtain ⟨x2, hx2, h⟩ := bnd h
  refine OEnds.plain hm_3 rfl rfl (x_iaload rfl hx2) ?_
  refine OEnds.adv hm_3 4 (pc' := 19) (L' := [.val (.ref 0), .val (.int x1), .val (.int x2), .unset]) (S' := [.int 2, .ref 1]) (H' := (bk0 o_roomsOfType o_roomsAtLeast o_firstRoomOfType o_slotActive o_slotType o_slotArrive o_slotNights o_exactCount o_atLeastCount o_planRoom o_planGrid o_planOrder o_totalRooms o_activeStays o_planOrderLength o_planCurrent o_planUnplaced po)) rfl ?_
  obtain ⟨x3, hx3, h⟩ := bnd h
  refine OEnds.plain hm_3 rfl rfl (x_iaload rfl hx3) ?_
  refine OEnds.adv hm_3 5 (pc' := 27) (L' := [.val (.ref 0), .val (.int x1), .val (.int x2), .val (.int x3)]) (S' := [.int x3, .int 2, .ref 2]) (H' := (bk0 o_roomsOfType o_roomsAtLeast o_firstRoomOfType o_slotActive o_slotType o_slotArrive o_slotNights o_exactCount o_atLeastCount o_planRoom o_planGrid o_planOrder o_totalRooms o_activeStays o_planOrderLength o_planCurrent o_planUnplaced po)) rfl ?_
  obtain ⟨A4, hA4, h⟩ := bnd h
  refine OEnds.plain hm_3 rfl rfl (x_iastore rfl (Nat.le_of_ble_eq_true rfl) hA4) ?_
  refine OEnds.adv hm_3 6 (pc' := 36) (L' := [.val (.ref 0), .val (.int x1), .val (.int x2), .val (.int x3)]) (S' := [.int (x2 + x3), .int 1, .ref 2]) (H' := (bk0 o_roomsOfType A4 o_firstRoomOfType o_slotActive o_slotType o_slotArrive o_slotNights o_exactCount o_atLeastCount o_planRoom o_planGrid o_planOrder o_totalRooms o_activeStays o_planOrderLength o_planCurrent o_planUnplaced po)) rfl ?_
  obtain ⟨A5, hA5, h⟩ := bnd h
  refine OEnds.plain hm_3 rfl rfl (x_iastore rfl (Nat.le_of_ble_eq_true rfl) hA5) ?_
  refine OEnds.adv hm_3 8 (pc' := 47) (L' := [.val (.ref 0), .val (.int x1), .val (.int x2), .val (.int x3)]) (S' := [.int ((x1 + x2) + x3), .int 0, .ref 2]) (H' := (bk0 o_roomsOfType A5 o_firstRoomOfType o_slotActive o_slotType o_slotArrive o_slotNights o_exactCount o_atLeastCount o_planRoom o_planGrid o_planOrder o_totalRooms o_activeStays o_planOrderLength o_planCurrent o_planUnplaced po)) rfl ?_
  obtain ⟨A6, hA6, h⟩ := bnd h
  refine OEnds.plain hm_3 rfl rfl (x_iastore rfl (Nat.le_of_ble_eq_true rfl) hA6) ?_
  refine OEnds.adv hm_3 4 (pc' := 54) (L' := [.val (.ref 0), .val (.int x1), .val (.int x2), .val (.int x3)]) (S' := [.int 0, .int 0, .ref 3]) (H' := (bk0 o_roomsOfType A6 o_firstRoomOfType o_slotActive o_slotType o_slotArrive o_slotNights o_exactCount o_atLeastCount o_planRoom o_planGrid o_planOrder o_totalRooms o_activeStays o_planOrderLength o_planCurrent o_planUnplaced po)) rfl ?_
  obtain ⟨A7, hA7, h⟩ := bnd h
  refine OEnds.plain hm_3 rfl rfl (x_iastore rfl (Nat.le_of_ble_eq_true rfl) hA7) ?_
  refine OEnds.adv hm_3 4 (pc' := 61) (L' := [.val (.ref 0), .val (.int x1), .val (.int x2), .val (.int x3)]) (S' := [.int x1, .int 1, .ref 3]) (H' := (bk0 o_roomsOfType A6 A7 o_slotActive o_slotType o_slotArrive o_slotNights o_exactCount o_atLeastCount o_planRoom o_planGrid o_planOrder o_totalRooms o_activeStays o_planOrderLength o_planCurrent o_planUnplaced po)) rfl ?_
  obtain ⟨A8, hA8, h⟩ := bnd h
  refine OEnds.plain hm_3 rfl rfl (x_iastore rfl (Nat.le_of_ble_eq_true rfl) hA8) ?_
  refine OEnds.adv hm_3 6 (pc' := 70) (L' := [.val (.ref 0), .val (.int x1), .val (.int x2), .val (.int x3)]) (S' := [.int (x1 + x2), .int 2, .ref 3]) (H' := (bk0 o_roomsOfType A6 A8 o_slotActive o_slotType o_slotArrive o_slotNights o_exactCount o_atLeastCount o_planRoom o_planGrid o_planOrder o_totalRooms o_activeStays o_planOrderLength o_planCurrent o_planUnplaced po)) rfl ?_
  obtain ⟨A9, hA9, h⟩ := bnd h
  refine OEnds.plain hm_3 rfl rfl (x_iastore rfl (Nat.le_of_ble_eq_true rfl) hA9) ?_
  refine OEnds.adv hm_3 7 (pc' := 80) (L' := [.val (.ref 0), .val (.int x1), .val (.int x2), .val (.int x3)]) (S' := []) (H' := (bk0 o_roomsOfType A6 A9 o_slotActive o_slotType o_slotArrive o_slotNights o_exactCount o_atLeastCount o_planRoom o_planGrid o_planOrder ((x1 + x2) + x3) o_activeStays o_planOrderLength o_planCurrent o_planUnplaced po)) rfl ?_
  cases h
  exact OEnds.vret hm_3 rfl rfl
theorem ok_resetStays_2 {o_roomsOfType : List Int32} {o_roomsAtLeast : List Int32} {o_firstRoomOfType : List Int32} {o_exactCount : List Int32} {o_atLeastCount : List Int32} {o_planRoom : List Int32} {o_planGrid : List Int32} {o_planOrder : List Int32} {o_totalRooms : Int32} {o_planOrderLength : Int32} {o_planCurrent : Int32} {o_planUnplaced : Int32} {po : List ACell} : ∀ (n : Nat), ∀ {o_slotActive : List Int32} {o_slotType : List Int32} {o_slotArrive : List Int32} {o_slotNights : List Int32} {o_activeStays : Int32} {v1 : Int32} {w_o_slotActive : List Int32} {w_o_slotType : List Int32} {w_o_slotArrive : List Int32} {w_o_slotNights : List Int32} {w_o_activeStays : Int32}, f_resetStays_2 n o_slotActive o_slotType o_slotArrive o_slotNights o_activeStays v1 = some (w_o_slotActive, w_o_slotType, w_o_slotArrive, w_o_slotNights, w_o_activeStays) → OEnds own_P 4 2 [.val (.ref 0), .val (.int v1)] [] (bk0 o_roomsOfType o_roomsAtLeast o_firstRoomOfType o_slotActive o_slotType o_slotArrive o_slotNights o_exactCount o_atLeastCount o_planRoom o_planGrid o_planOrder o_totalRooms o_activeStays o_planOrderLength o_planCurrent o_planUnplaced po) (none, (bk0 o_roomsOfType o_roomsAtLeast o_firstRoomOfType w_o_slotActive w_o_slotType w_o_slotArrive w_o_slotNights o_exactCount o_atLeastCount o_planRoom o_planGrid o_planOrder o_totalRooms w_o_activeStays o_planOrderLength o_planCurrent o_planUnplaced po), 0, 0) := by
  intro n
  induction n with
  | zero => intro o_slotActive o_slotType o_slotArrive o_slotNights o_activeStays v1 w_o_slotActive w_o_slotType w_o_slotArrive w_o_slotNights w_o_activeStays h; cases h
  | succ n ih =>
    intro o_slotActive o_slotType o_slotArrive o_slotNights o_activeStays v1 w_o_slotActive w_o_slotType w_o_slotArrive w_o_slotNights w_o_activeStays h
    unfold f_resetStays_2 at h
    refine OEnds.adv hm_4 2 (pc' := 5) (L' := [.val (.ref 0), .val (.int v1)]) (S' := [.int 32, .int v1]) (H' := (bk0 o_roomsOfType o_roomsAtLeast o_firstRoomOfType o_slotActive o_slotType o_slotArrive o_slotNights o_exactCount o_atLeastCount o_planRoom o_planGrid o_planOrder o_totalRooms o_activeStays o_planOrderLength o_planCurrent o_planUnplaced po)) rfl ?_
    by_cases hc3 : v1 < (32 : Int32)
    · simp only [if_pos hc3] at h
      refine OEnds.icmpF hm_4 rfl ((tlt hc3).2.1) ?_
      refine OEnds.adv hm_4 4 (pc' := 14) (L' := [.val (.ref 0), .val (.int v1)]) (S' := [.int 0, .int v1, .ref 4]) (H' := (bk0 o_roomsOfType o_roomsAtLeast o_firstRoomOfType o_slotActive o_slotType o_slotArrive o_slotNights o_exactCount o_atLeastCount o_planRoom o_planGrid o_planOrder o_totalRooms o_activeStays o_planOrderLength o_planCurrent o_planUnplaced po)) rfl ?_
      obtain ⟨A10, hA10, h⟩ := bnd h
      refine OEnds.plain hm_4 rfl rfl (x_bastore rfl (Nat.le_of_ble_eq_true rfl) hA10) ?_
      refine OEnds.adv hm_4 4 (pc' := 21) (L' := [.val (.ref 0), .val (.int v1)]) (S' := [.int 0, .int v1, .ref 5]) (H' := (bk0 o_roomsOfType o_roomsAtLeast o_firstRoomOfType A10 o_slotType o_slotArrive o_slotNights o_exactCount o_atLeastCount o_planRoom o_planGrid o_planOrder o_totalRooms o_activeStays o_planOrderLength o_planCurrent o_planUnplaced po)) rfl ?_
      obtain ⟨A11, hA11, h⟩ := bnd h
      refine OEnds.plain hm_4 rfl rfl (x_iastore rfl (Nat.le_of_ble_eq_true rfl) hA11) ?_
      refine OEnds.adv hm_4 4 (pc' := 28) (L' := [.val (.ref 0), .val (.int v1)]) (S' := [.int 0, .int v1, .ref 6]) (H' := (bk0 o_roomsOfType o_roomsAtLeast o_firstRoomOfType A10 A11 o_slotArrive o_slotNights o_exactCount o_atLeastCount o_planRoom o_planGrid o_planOrder o_totalRooms o_activeStays o_planOrderLength o_planCurrent o_planUnplaced po)) rfl ?_
      obtain ⟨A12, hA12, h⟩ := bnd h
      refine OEnds.plain hm_4 rfl rfl (x_iastore rfl (Nat.le_of_ble_eq_true rfl) hA12) ?_
      refine OEnds.adv hm_4 4 (pc' := 35) (L' := [.val (.ref 0), .val (.int v1)]) (S' := [.int 0, .int v1, .ref 7]) (H' := (bk0 o_roomsOfType o_roomsAtLeast o_firstRoomOfType A10 A11 A12 o_slotNights o_exactCount o_atLeastCount o_planRoom o_planGrid o_planOrder o_totalRooms o_activeStays o_planOrderLength o_planCurrent o_planUnplaced po)) rfl ?_
      obtain ⟨A13, hA13, h⟩ := bnd h
      refine OEnds.plain hm_4 rfl rfl (x_iastore rfl (Nat.le_of_ble_eq_true rfl) hA13) ?_
      refine OEnds.adv hm_4 2 (pc' := 2) (L' := [.val (.ref 0), .val (.int (v1 + (1 : Int32)))]) (S' := []) (H' := (bk0 o_roomsOfType o_roomsAtLeast o_firstRoomOfType A10 A11 A12 A13 o_exactCount o_atLeastCount o_planRoom o_planGrid o_planOrder o_totalRooms o_activeStays o_planOrderLength o_planCurrent o_planUnplaced po)) rfl ?_
      exact ih h
    · simp only [if_neg hc3] at h
      refine OEnds.icmpT hm_4 rfl (q := 42) rfl ((flt hc3).2.1) ?_
      refine OEnds.adv hm_4 3 (pc' := 47) (L' := [.val (.ref 0), .val (.int v1)]) (S' := []) (H' := (bk0 o_roomsOfType o_roomsAtLeast o_firstRoomOfType o_slotActive o_slotType o_slotArrive o_slotNights o_exactCount o_atLeastCount o_planRoom o_planGrid o_planOrder o_totalRooms 0 o_planOrderLength o_planCurrent o_planUnplaced po)) rfl ?_
      cases h
      exact OEnds.vret hm_4 rfl rfl
theorem ok_resetStays {o_roomsOfType : List Int32} {o_roomsAtLeast : List Int32} {o_firstRoomOfType : List Int32} {o_exactCount : List Int32} {o_atLeastCount : List Int32} {o_planRoom : List Int32} {o_planGrid : List Int32} {o_planOrder : List Int32} {o_totalRooms : Int32} {o_planOrderLength : Int32} {o_planCurrent : Int32} {o_planUnplaced : Int32} {po : List ACell} {o_slotActive : List Int32} {o_slotType : List Int32} {o_slotArrive : List Int32} {o_slotNights : List Int32} {o_activeStays : Int32} {w_o_slotActive : List Int32} {w_o_slotType : List Int32} {w_o_slotArrive : List Int32} {w_o_slotNights : List Int32} {w_o_activeStays : Int32} (h : f_resetStays o_slotActive o_slotType o_slotArrive o_slotNights o_activeStays = some (w_o_slotActive, w_o_slotType, w_o_slotArrive, w_o_slotNights, w_o_activeStays)) : OEnds own_P 4 0 [.val (.ref 0), .unset] [] (bk0 o_roomsOfType o_roomsAtLeast o_firstRoomOfType o_slotActive o_slotType o_slotArrive o_slotNights o_exactCount o_atLeastCount o_planRoom o_planGrid o_planOrder o_totalRooms o_activeStays o_planOrderLength o_planCurrent o_planUnplaced po) (none, (bk0 o_roomsOfType o_roomsAtLeast o_firstRoomOfType w_o_slotActive w_o_slotType w_o_slotArrive w_o_slotNights o_exactCount o_atLeastCount o_planRoom o_planGrid o_planOrder o_totalRooms w_o_activeStays o_planOrderLength o_planCurrent o_planUnplaced po), 0, 0) := by
  unfold f_resetStays at h
  refine OEnds.adv hm_4 2 (pc' := 2) (L' := [.val (.ref 0), .val (.int 0)]) (S' := []) (H' := (bk0 o_roomsOfType o_roomsAtLeast o_firstRoomOfType o_slotActive o_slotType o_slotArrive o_slotNights o_exactCount o_atLeastCount o_planRoom o_planGrid o_planOrder o_totalRooms o_activeStays o_planOrderLength o_planCurrent o_planUnplaced po)) rfl ?_
  exact ok_resetStays_2 100000 h
theorem ok_resetCounts_2 {o_roomsOfType : List Int32} {o_roomsAtLeast : List Int32} {o_firstRoomOfType : List Int32} {o_slotActive : List Int32} {o_slotType : List Int32} {o_slotArrive : List Int32} {o_slotNights : List Int32} {o_planRoom : List Int32} {o_planGrid : List Int32} {o_planOrder : List Int32} {o_totalRooms : Int32} {o_activeStays : Int32} {o_planOrderLength : Int32} {o_planCurrent : Int32} {o_planUnplaced : Int32} {po : List ACell} : ∀ (n : Nat), ∀ {o_exactCount : List Int32} {o_atLeastCount : List Int32} {v1 : Int32} {w_o_exactCount : List Int32} {w_o_atLeastCount : List Int32}, f_resetCounts_2 n o_exactCount o_atLeastCount v1 = some (w_o_exactCount, w_o_atLeastCount) → OEnds own_P 5 2 [.val (.ref 0), .val (.int v1)] [] (bk0 o_roomsOfType o_roomsAtLeast o_firstRoomOfType o_slotActive o_slotType o_slotArrive o_slotNights o_exactCount o_atLeastCount o_planRoom o_planGrid o_planOrder o_totalRooms o_activeStays o_planOrderLength o_planCurrent o_planUnplaced po) (none, (bk0 o_roomsOfType o_roomsAtLeast o_firstRoomOfType o_slotActive o_slotType o_slotArrive o_slotNights w_o_exactCount w_o_atLeastCount o_planRoom o_planGrid o_planOrder o_totalRooms o_activeStays o_planOrderLength o_planCurrent o_planUnplaced po), 0, 0) := by
  intro n
  induction n with
  | zero => intro o_exactCount o_atLeastCount v1 w_o_exactCount w_o_atLeastCount h; cases h
  | succ n ih =>
    intro o_exactCount o_atLeastCount v1 w_o_exactCount w_o_atLeastCount h
    unfold f_resetCounts_2 at h
    refine OEnds.adv hm_5 2 (pc' := 5) (L' := [.val (.ref 0), .val (.int v1)]) (S' := [.int 96, .int v1]) (H' := (bk0 o_roomsOfType o_roomsAtLeast o_firstRoomOfType o_slotActive o_slotType o_slotArrive o_slotNights o_exactCount o_atLeastCount o_planRoom o_planGrid o_planOrder o_totalRooms o_activeStays o_planOrderLength o_planCurrent o_planUnplaced po)) rfl ?_
    by_cases hc4 : v1 < (96 : Int32)
    · simp only [if_pos hc4] at h
      refine OEnds.icmpF hm_5 rfl ((tlt hc4).2.1) ?_
      refine OEnds.adv hm_5 4 (pc' := 14) (L' := [.val (.ref 0), .val (.int v1)]) (S' := [.int 0, .int v1, .ref 8]) (H' := (bk0 o_roomsOfType o_roomsAtLeast o_firstRoomOfType o_slotActive o_slotType o_slotArrive o_slotNights o_exactCount o_atLeastCount o_planRoom o_planGrid o_planOrder o_totalRooms o_activeStays o_planOrderLength o_planCurrent o_planUnplaced po)) rfl ?_
      obtain ⟨A14, hA14, h⟩ := bnd h
      refine OEnds.plain hm_5 rfl rfl (x_iastore rfl (Nat.le_of_ble_eq_true rfl) hA14) ?_
      refine OEnds.adv hm_5 4 (pc' := 21) (L' := [.val (.ref 0), .val (.int v1)]) (S' := [.int 0, .int v1, .ref 9]) (H' := (bk0 o_roomsOfType o_roomsAtLeast o_firstRoomOfType o_slotActive o_slotType o_slotArrive o_slotNights A14 o_atLeastCount o_planRoom o_planGrid o_planOrder o_totalRooms o_activeStays o_planOrderLength o_planCurrent o_planUnplaced po)) rfl ?_
      obtain ⟨A15, hA15, h⟩ := bnd h
      refine OEnds.plain hm_5 rfl rfl (x_iastore rfl (Nat.le_of_ble_eq_true rfl) hA15) ?_
      refine OEnds.adv hm_5 2 (pc' := 2) (L' := [.val (.ref 0), .val (.int (v1 + (1 : Int32)))]) (S' := []) (H' := (bk0 o_roomsOfType o_roomsAtLeast o_firstRoomOfType o_slotActive o_slotType o_slotArrive o_slotNights A14 A15 o_planRoom o_planGrid o_planOrder o_totalRooms o_activeStays o_planOrderLength o_planCurrent o_planUnplaced po)) rfl ?_
      exact ih h
    · simp only [if_neg hc4] at h
      refine OEnds.icmpT hm_5 rfl (q := 28) rfl ((flt hc4).2.1) ?_
      show OEnds own_P 5 28 [.val (.ref 0), .val (.int v1)] [] (bk0 o_roomsOfType o_roomsAtLeast o_firstRoomOfType o_slotActive o_slotType o_slotArrive o_slotNights o_exactCount o_atLeastCount o_planRoom o_planGrid o_planOrder o_totalRooms o_activeStays o_planOrderLength o_planCurrent o_planUnplaced po) _
      cases h
      exact OEnds.vret hm_5 rfl rfl
theorem ok_resetCounts {o_roomsOfType : List Int32} {o_roomsAtLeast : List Int32} {o_firstRoomOfType : List Int32} {o_slotActive : List Int32} {o_slotType : List Int32} {o_slotArrive : List Int32} {o_slotNights : List Int32} {o_planRoom : List Int32} {o_planGrid : List Int32} {o_planOrder : List Int32} {o_totalRooms : Int32} {o_activeStays : Int32} {o_planOrderLength : Int32} {o_planCurrent : Int32} {o_planUnplaced : Int32} {po : List ACell} {o_exactCount : List Int32} {o_atLeastCount : List Int32} {w_o_exactCount : List Int32} {w_o_atLeastCount : List Int32} (h : f_resetCounts o_exactCount o_atLeastCount = some (w_o_exactCount, w_o_atLeastCount)) : OEnds own_P 5 0 [.val (.ref 0), .unset] [] (bk0 o_roomsOfType o_roomsAtLeast o_firstRoomOfType o_slotActive o_slotType o_slotArrive o_slotNights o_exactCount o_atLeastCount o_planRoom o_planGrid o_planOrder o_totalRooms o_activeStays o_planOrderLength o_planCurrent o_planUnplaced po) (none, (bk0 o_roomsOfType o_roomsAtLeast o_firstRoomOfType o_slotActive o_slotType o_slotArrive o_slotNights w_o_exactCount w_o_atLeastCount o_planRoom o_planGrid o_planOrder o_totalRooms o_activeStays o_planOrderLength o_planCurrent o_planUnplaced po), 0, 0) := by
  unfold f_resetCounts at h
  refine OEnds.adv hm_5 2 (pc' := 2) (L' := [.val (.ref 0), .val (.int 0)]) (S' := []) (H' := (bk0 o_roomsOfType o_roomsAtLeast o_firstRoomOfType o_slotActive o_slotType o_slotArrive o_slotNights o_exactCount o_atLeastCount o_planRoom o_planGrid o_planOrder o_totalRooms o_activeStays o_planOrderLength o_planCurrent o_planUnplaced po)) rfl ?_
  exact ok_resetCounts_2 100000 h
theorem ok_clearPlan_30 {o_roomsOfType : List Int32} {o_roomsAtLeast : List Int32} {o_firstRoomOfType : List Int32} {o_slotActive : List Int32} {o_slotType : List Int32} {o_slotArrive : List Int32} {o_slotNights : List Int32} {o_exactCount : List Int32} {o_atLeastCount : List Int32} {o_totalRooms : Int32} {o_activeStays : Int32} {o_planCurrent : Int32} {o_planUnplaced : Int32} {po : List ACell} : ∀ (n : Nat), ∀ {o_planRoom : List Int32} {o_planGrid : List Int32} {o_planOrder : List Int32} {o_planOrderLength : Int32} {v1 : Int32} {w_o_planRoom : List Int32} {w_o_planGrid : List Int32} {w_o_planOrder : List Int32} {w_o_planOrderLength : Int32}, f_clearPlan_30 n o_planRoom o_planGrid o_planOrder o_planOrderLength v1 = some (w_o_planRoom, w_o_planGrid, w_o_planOrder, w_o_planOrderLength) → OEnds own_P 6 30 [.val (.ref 0), .val (.int v1)] [] (bk0 o_roomsOfType o_roomsAtLeast o_firstRoomOfType o_slotActive o_slotType o_slotArrive o_slotNights o_exactCount o_atLeastCount o_planRoom o_planGrid o_planOrder o_totalRooms o_activeStays o_planOrderLength o_planCurrent o_planUnplaced po) (none, (bk0 o_roomsOfType o_roomsAtLeast o_firstRoomOfType o_slotActive o_slotType o_slotArrive o_slotNights o_exactCount o_atLeastCount w_o_planRoom w_o_planGrid w_o_planOrder o_totalRooms o_activeStays w_o_planOrderLength o_planCurrent o_planUnplaced po), 0, 0) := by
  intro n
  induction n with
  | zero => intro o_planRoom o_planGrid o_planOrder o_planOrderLength v1 w_o_planRoom w_o_planGrid w_o_planOrder w_o_planOrderLength h; cases h
  | succ n ih =>
    intro o_planRoom o_planGrid o_planOrder o_planOrderLength v1 w_o_planRoom w_o_planGrid w_o_planOrder w_o_planOrderLength h
    unfold f_clearPlan_30 at h
    refine OEnds.adv hm_6 2 (pc' := 34) (L' := [.val (.ref 0), .val (.int v1)]) (S' := [.int 768, .int v1]) (H' := (bk0 o_roomsOfType o_roomsAtLeast o_firstRoomOfType o_slotActive o_slotType o_slotArrive o_slotNights o_exactCount o_atLeastCount o_planRoom o_planGrid o_planOrder o_totalRooms o_activeStays o_planOrderLength o_planCurrent o_planUnplaced po)) rfl ?_
    by_cases hc5 : v1 < (768 : Int32)
    · simp only [if_pos hc5] at h
      refine OEnds.icmpF hm_6 rfl ((tlt hc5).2.1) ?_
      refine OEnds.adv hm_6 4 (pc' := 43) (L' := [.val (.ref 0), .val (.int v1)]) (S' := [.int (-1), .int v1, .ref 11]) (H' := (bk0 o_roomsOfType o_roomsAtLeast o_firstRoomOfType o_slotActive o_slotType o_slotArrive o_slotNights o_exactCount o_atLeastCount o_planRoom o_planGrid o_planOrder o_totalRooms o_activeStays o_planOrderLength o_planCurrent o_planUnplaced po)) rfl ?_
      obtain ⟨A18, hA18, h⟩ := bnd h
      refine OEnds.plain hm_6 rfl rfl (x_iastore rfl (Nat.le_of_ble_eq_true rfl) hA18) ?_
      refine OEnds.adv hm_6 2 (pc' := 30) (L' := [.val (.ref 0), .val (.int (v1 + (1 : Int32)))]) (S' := []) (H' := (bk0 o_roomsOfType o_roomsAtLeast o_firstRoomOfType o_slotActive o_slotType o_slotArrive o_slotNights o_exactCount o_atLeastCount o_planRoom A18 o_planOrder o_totalRooms o_activeStays o_planOrderLength o_planCurrent o_planUnplaced po)) rfl ?_
      exact ih h
    · simp only [if_neg hc5] at h
      refine OEnds.icmpT hm_6 rfl (q := 50) rfl ((flt hc5).2.1) ?_
      refine OEnds.adv hm_6 3 (pc' := 55) (L' := [.val (.ref 0), .val (.int v1)]) (S' := []) (H' := (bk0 o_roomsOfType o_roomsAtLeast o_firstRoomOfType o_slotActive o_slotType o_slotArrive o_slotNights o_exactCount o_atLeastCount o_planRoom o_planGrid o_planOrder o_totalRooms o_activeStays 0 o_planCurrent o_planUnplaced po)) rfl ?_
      cases h
      exact OEnds.vret hm_6 rfl rfl
theorem ok_clearPlan_2 {o_roomsOfType : List Int32} {o_roomsAtLeast : List Int32} {o_firstRoomOfType : List Int32} {o_slotActive : List Int32} {o_slotType : List Int32} {o_slotArrive : List Int32} {o_slotNights : List Int32} {o_exactCount : List Int32} {o_atLeastCount : List Int32} {o_totalRooms : Int32} {o_activeStays : Int32} {o_planCurrent : Int32} {o_planUnplaced : Int32} {po : List ACell} {k30 : List Int32 → List Int32 → List Int32 → Int32 → Int32 → Option (List Int32 × List Int32 × List Int32 × Int32)} (hk30 : ∀ {o_planRoom : List Int32} {o_planGrid : List Int32} {o_planOrder : List Int32} {o_planOrderLength : Int32} {v1 : Int32} {w_o_planRoom : List Int32} {w_o_planGrid : List Int32} {w_o_planOrder : List Int32} {w_o_planOrderLength : Int32}, k30 o_planRoom o_planGrid o_planOrder o_planOrderLength v1 = some (w_o_planRoom, w_o_planGrid, w_o_planOrder, w_o_planOrderLength) → OEnds own_P 6 30 [.val (.ref 0), .val (.int v1)] [] (bk0 o_roomsOfType o_roomsAtLeast o_firstRoomOfType o_slotActive o_slotType o_slotArrive o_slotNights o_exactCount o_atLeastCount o_planRoom o_planGrid o_planOrder o_totalRooms o_activeStays o_planOrderLength o_planCurrent o_planUnplaced po) (none, (bk0 o_roomsOfType o_roomsAtLeast o_firstRoomOfType o_slotActive o_slotType o_slotArrive o_slotNights o_exactCount o_atLeastCount w_o_planRoom w_o_planGrid w_o_planOrder o_totalRooms o_activeStays w_o_planOrderLength o_planCurrent o_planUnplaced po), 0, 0)) : ∀ (n : Nat), ∀ {o_planRoom : List Int32} {o_planGrid : List Int32} {o_planOrder : List Int32} {o_planOrderLength : Int32} {v1 : Int32} {w_o_planRoom : List Int32} {w_o_planGrid : List Int32} {w_o_planOrder : List Int32} {w_o_planOrderLength : Int32}, f_clearPlan_2 k30 n o_planRoom o_planGrid o_planOrder o_planOrderLength v1 = some (w_o_planRoom, w_o_planGrid, w_o_planOrder, w_o_planOrderLength) → OEnds own_P 6 2 [.val (.ref 0), .val (.int v1)] [] (bk0 o_roomsOfType o_roomsAtLeast o_firstRoomOfType o_slotActive o_slotType o_slotArrive o_slotNights o_exactCount o_atLeastCount o_planRoom o_planGrid o_planOrder o_totalRooms o_activeStays o_planOrderLength o_planCurrent o_planUnplaced po) (none, (bk0 o_roomsOfType o_roomsAtLeast o_firstRoomOfType o_slotActive o_slotType o_slotArrive o_slotNights o_exactCount o_atLeastCount w_o_planRoom w_o_planGrid w_o_planOrder o_totalRooms o_activeStays w_o_planOrderLength o_planCurrent o_planUnplaced po), 0, 0) := by
  intro n
  induction n with
  | zero => intro o_planRoom o_planGrid o_planOrder o_planOrderLength v1 w_o_planRoom w_o_planGrid w_o_planOrder w_o_planOrderLength h; cases h
  | succ n ih =>
    intro o_planRoom o_planGrid o_planOrder o_planOrderLength v1 w_o_planRoom w_o_planGrid w_o_planOrder w_o_planOrderLength h
    unfold f_clearPlan_2 at h
    refine OEnds.adv hm_6 2 (pc' := 5) (L' := [.val (.ref 0), .val (.int v1)]) (S' := [.int 32, .int v1]) (H' := (bk0 o_roomsOfType o_roomsAtLeast o_firstRoomOfType o_slotActive o_slotType o_slotArrive o_slotNights o_exactCount o_atLeastCount o_planRoom o_planGrid o_planOrder o_totalRooms o_activeStays o_planOrderLength o_planCurrent o_planUnplaced po)) rfl ?_
    by_cases hc6 : v1 < (32 : Int32)
    · simp only [if_pos hc6] at h
      refine OEnds.icmpF hm_6 rfl ((tlt hc6).2.1) ?_
      refine OEnds.adv hm_6 4 (pc' := 14) (L' := [.val (.ref 0), .val (.int v1)]) (S' := [.int (-1), .int v1, .ref 10]) (H' := (bk0 o_roomsOfType o_roomsAtLeast o_firstRoomOfType o_slotActive o_slotType o_slotArrive o_slotNights o_exactCount o_atLeastCount o_planRoom o_planGrid o_planOrder o_totalRooms o_activeStays o_planOrderLength o_planCurrent o_planUnplaced po)) rfl ?_
      obtain ⟨A16, hA16, h⟩ := bnd h
      refine OEnds.plain hm_6 rfl rfl (x_iastore rfl (Nat.le_of_ble_eq_true rfl) hA16) ?_
      refine OEnds.adv hm_6 4 (pc' := 21) (L' := [.val (.ref 0), .val (.int v1)]) (S' := [.int 0, .int v1, .ref 12]) (H' := (bk0 o_roomsOfType o_roomsAtLeast o_firstRoomOfType o_slotActive o_slotType o_slotArrive o_slotNights o_exactCount o_atLeastCount A16 o_planGrid o_planOrder o_totalRooms o_activeStays o_planOrderLength o_planCurrent o_planUnplaced po)) rfl ?_
      obtain ⟨A17, hA17, h⟩ := bnd h
      refine OEnds.plain hm_6 rfl rfl (x_iastore rfl (Nat.le_of_ble_eq_true rfl) hA17) ?_
      refine OEnds.adv hm_6 2 (pc' := 2) (L' := [.val (.ref 0), .val (.int (v1 + (1 : Int32)))]) (S' := []) (H' := (bk0 o_roomsOfType o_roomsAtLeast o_firstRoomOfType o_slotActive o_slotType o_slotArrive o_slotNights o_exactCount o_atLeastCount A16 o_planGrid A17 o_totalRooms o_activeStays o_planOrderLength o_planCurrent o_planUnplaced po)) rfl ?_
      exact ih h
    · simp only [if_neg hc6] at h
      refine OEnds.icmpT hm_6 rfl (q := 28) rfl ((flt hc6).2.1) ?_
      refine OEnds.adv hm_6 2 (pc' := 30) (L' := [.val (.ref 0), .val (.int 0)]) (S' := []) (H' := (bk0 o_roomsOfType o_roomsAtLeast o_firstRoomOfType o_slotActive o_slotType o_slotArrive o_slotNights o_exactCount o_atLeastCount o_planRoom o_planGrid o_planOrder o_totalRooms o_activeStays o_planOrderLength o_planCurrent o_planUnplaced po)) rfl ?_
      exact hk30 h
theorem ok_clearPlan {o_roomsOfType : List Int32} {o_roomsAtLeast : List Int32} {o_firstRoomOfType : List Int32} {o_slotActive : List Int32} {o_slotType : List Int32} {o_slotArrive : List Int32} {o_slotNights : List Int32} {o_exactCount : List Int32} {o_atLeastCount : List Int32} {o_totalRooms : Int32} {o_activeStays : Int32} {o_planCurrent : Int32} {o_planUnplaced : Int32} {po : List ACell} {o_planRoom : List Int32} {o_planGrid : List Int32} {o_planOrder : List Int32} {o_planOrderLength : Int32} {w_o_planRoom : List Int32} {w_o_planGrid : List Int32} {w_o_planOrder : List Int32} {w_o_planOrderLength : Int32} (h : f_clearPlan o_planRoom o_planGrid o_planOrder o_planOrderLength = some (w_o_planRoom, w_o_planGrid, w_o_planOrder, w_o_planOrderLength)) : OEnds own_P 6 0 [.val (.ref 0), .unset] [] (bk0 o_roomsOfType o_roomsAtLeast o_firstRoomOfType o_slotActive o_slotType o_slotArrive o_slotNights o_exactCount o_atLeastCount o_planRoom o_planGrid o_planOrder o_totalRooms o_activeStays o_planOrderLength o_planCurrent o_planUnplaced po) (none, (bk0 o_roomsOfType o_roomsAtLeast o_firstRoomOfType o_slotActive o_slotType o_slotArrive o_slotNights o_exactCount o_atLeastCount w_o_planRoom w_o_planGrid w_o_planOrder o_totalRooms o_activeStays w_o_planOrderLength o_planCurrent o_planUnplaced po), 0, 0) := by
  unfold f_clearPlan at h
  refine OEnds.adv hm_6 2 (pc' := 2) (L' := [.val (.ref 0), .val (.int 0)]) (S' := []) (H' := (bk0 o_roomsOfType o_roomsAtLeast o_firstRoomOfType o_slotActive o_slotType o_slotArrive o_slotNights o_exactCount o_atLeastCount o_planRoom o_planGrid o_planOrder o_totalRooms o_activeStays o_planOrderLength o_planCurrent o_planUnplaced po)) rfl ?_
  exact ok_clearPlan_2 (k30 := f_clearPlan_30 100000) (ok_clearPlan_30 100000) 100000 h
theorem ok_init {v1 : Int32} {v2 : Int32} {v3 : Int32} {w_o_roomsOfType : List Int32} {w_o_roomsAtLeast : List Int32} {w_o_firstRoomOfType : List Int32} {w_o_slotActive : List Int32} {w_o_slotType : List Int32} {w_o_slotArrive : List Int32} {w_o_slotNights : List Int32} {w_o_exactCount : List Int32} {w_o_atLeastCount : List Int32} {w_o_planRoom : List Int32} {w_o_planGrid : List Int32} {w_o_planOrder : List Int32} {w_o_totalRooms : Int32} {w_o_activeStays : Int32} {w_o_planOrderLength : Int32} {w_o_planCurrent : Int32} {w_o_planUnplaced : Int32} (h : f_init v1 v2 v3 = some (w_o_roomsOfType, w_o_roomsAtLeast, w_o_firstRoomOfType, w_o_slotActive, w_o_slotType, w_o_slotArrive, w_o_slotNights, w_o_exactCount, w_o_atLeastCount, w_o_planRoom, w_o_planGrid, w_o_planOrder, w_o_totalRooms, w_o_activeStays, w_o_planOrderLength, w_o_planCurrent, w_o_planUnplaced)) : OEnds own_P 1 0 [.val (.ref 0), .val (.int v1), .val (.int v2), .val (.int v3)] [] ((.inl (0, [.null, .null, .null, .null, .null, .null, .null, .null, .null, .null, .null, .null, .int 0, .int 0, .int 0, .int 0, .int 0]) : ACell) :: []) (none, (bk0 w_o_roomsOfType w_o_roomsAtLeast w_o_firstRoomOfType w_o_slotActive w_o_slotType w_o_slotArrive w_o_slotNights w_o_exactCount w_o_atLeastCount w_o_planRoom w_o_planGrid w_o_planOrder w_o_totalRooms w_o_activeStays w_o_planOrderLength w_o_planCurrent w_o_planUnplaced []), 12, 1161) := by
  unfold f_init at h
  refine OEnds.adv hm_1 1 (pc' := 1) (L' := [.val (.ref 0), .val (.int v1), .val (.int v2), .val (.int v3)]) (S' := [.ref 0]) (H' := ((.inl (0, [.null, .null, .null, .null, .null, .null, .null, .null, .null, .null, .null, .null, .int 0, .int 0, .int 0, .int 0, .int 0]) : ACell) :: [])) rfl ?_
  refine OEnds.oinit hm_1 rfl ⟨Nat.le_of_ble_eq_true rfl, Nat.le_of_ble_eq_true rfl⟩ ?_
  refine OEnds.adv hm_1 2 (pc' := 6) (L' := [.val (.ref 0), .val (.int v1), .val (.int v2), .val (.int v3)]) (S' := [.int 3, .ref 0]) (H' := ((.inl (0, [.null, .null, .null, .null, .null, .null, .null, .null, .null, .null, .null, .null, .int 0, .int 0, .int 0, .int 0, .int 0]) : ACell) :: [])) rfl ?_
  refine OEnds.made1 hm_1 rfl rfl (ks := 3) rfl rfl ?_
  refine OEnds.adv hm_1 3 (pc' := 13) (L' := [.val (.ref 0), .val (.int v1), .val (.int v2), .val (.int v3)]) (S' := [.int 3, .ref 0]) (H' := ((.inl (0, [.ref 1, .null, .null, .null, .null, .null, .null, .null, .null, .null, .null, .null, .int 0, .int 0, .int 0, .int 0, .int 0]) : ACell) :: .inr (.inl (false, (List.replicate 3 0))) :: [])) rfl ?_
  refine OEnds.made1 hm_1 rfl rfl (ks := 3) rfl rfl ?_
  refine OEnds.adv hm_1 3 (pc' := 20) (L' := [.val (.ref 0), .val (.int v1), .val (.int v2), .val (.int v3)]) (S' := [.int 3, .ref 0]) (H' := ((.inl (0, [.ref 1, .ref 2, .null, .null, .null, .null, .null, .null, .null, .null, .null, .null, .int 0, .int 0, .int 0, .int 0, .int 0]) : ACell) :: .inr (.inl (false, (List.replicate 3 0))) :: .inr (.inl (false, (List.replicate 3 0))) :: [])) rfl ?_
  refine OEnds.made1 hm_1 rfl rfl (ks := 3) rfl rfl ?_
  refine OEnds.adv hm_1 3 (pc' := 28) (L' := [.val (.ref 0), .val (.int v1), .val (.int v2), .val (.int v3)]) (S' := [.int 32, .ref 0]) (H' := ((.inl (0, [.ref 1, .ref 2, .ref 3, .null, .null, .null, .null, .null, .null, .null, .null, .null, .int 0, .int 0, .int 0, .int 0, .int 0]) : ACell) :: .inr (.inl (false, (List.replicate 3 0))) :: .inr (.inl (false, (List.replicate 3 0))) :: .inr (.inl (false, (List.replicate 3 0))) :: [])) rfl ?_
  refine OEnds.made1 hm_1 rfl rfl (ks := 32) rfl rfl ?_
  refine OEnds.adv hm_1 3 (pc' := 36) (L' := [.val (.ref 0), .val (.int v1), .val (.int v2), .val (.int v3)]) (S' := [.int 32, .ref 0]) (H' := ((.inl (0, [.ref 1, .ref 2, .ref 3, .ref 4, .null, .null, .null, .null, .null, .null, .null, .null, .int 0, .int 0, .int 0, .int 0, .int 0]) : ACell) :: .inr (.inl (false, (List.replicate 3 0))) :: .inr (.inl (false, (List.replicate 3 0))) :: .inr (.inl (false, (List.replicate 3 0))) :: .inr (.inl (true, (List.replicate 32 0))) :: [])) rfl ?_
  refine OEnds.made1 hm_1 rfl rfl (ks := 32) rfl rfl ?_
  refine OEnds.adv hm_1 3 (pc' := 44) (L' := [.val (.ref 0), .val (.int v1), .val (.int v2), .val (.int v3)]) (S' := [.int 32, .ref 0]) (H' := ((.inl (0, [.ref 1, .ref 2, .ref 3, .ref 4, .ref 5, .null, .null, .null, .null, .null, .null, .null, .int 0, .int 0, .int 0, .int 0, .int 0]) : ACell) :: .inr (.inl (false, (List.replicate 3 0))) :: .inr (.inl (false, (List.replicate 3 0))) :: .inr (.inl (false, (List.replicate 3 0))) :: .inr (.inl (true, (List.replicate 32 0))) :: .inr (.inl (false, (List.replicate 32 0))) :: [])) rfl ?_
  refine OEnds.made1 hm_1 rfl rfl (ks := 32) rfl rfl ?_
  refine OEnds.adv hm_1 3 (pc' := 52) (L' := [.val (.ref 0), .val (.int v1), .val (.int v2), .val (.int v3)]) (S' := [.int 32, .ref 0]) (H' := ((.inl (0, [.ref 1, .ref 2, .ref 3, .ref 4, .ref 5, .ref 6, .null, .null, .null, .null, .null, .null, .int 0, .int 0, .int 0, .int 0, .int 0]) : ACell) :: .inr (.inl (false, (List.replicate 3 0))) :: .inr (.inl (false, (List.replicate 3 0))) :: .inr (.inl (false, (List.replicate 3 0))) :: .inr (.inl (true, (List.replicate 32 0))) :: .inr (.inl (false, (List.replicate 32 0))) :: .inr (.inl (false, (List.replicate 32 0))) :: [])) rfl ?_
  refine OEnds.made1 hm_1 rfl rfl (ks := 32) rfl rfl ?_
  refine OEnds.adv hm_1 3 (pc' := 60) (L' := [.val (.ref 0), .val (.int v1), .val (.int v2), .val (.int v3)]) (S' := [.int 96, .ref 0]) (H' := ((.inl (0, [.ref 1, .ref 2, .ref 3, .ref 4, .ref 5, .ref 6, .ref 7, .null, .null, .null, .null, .null, .int 0, .int 0, .int 0, .int 0, .int 0]) : ACell) :: .inr (.inl (false, (List.replicate 3 0))) :: .inr (.inl (false, (List.replicate 3 0))) :: .inr (.inl (false, (List.replicate 3 0))) :: .inr (.inl (true, (List.replicate 32 0))) :: .inr (.inl (false, (List.replicate 32 0))) :: .inr (.inl (false, (List.replicate 32 0))) :: .inr (.inl (false, (List.replicate 32 0))) :: [])) rfl ?_
  refine OEnds.made1 hm_1 rfl rfl (ks := 96) rfl rfl ?_
  refine OEnds.adv hm_1 3 (pc' := 68) (L' := [.val (.ref 0), .val (.int v1), .val (.int v2), .val (.int v3)]) (S' := [.int 96, .ref 0]) (H' := ((.inl (0, [.ref 1, .ref 2, .ref 3, .ref 4, .ref 5, .ref 6, .ref 7, .ref 8, .null, .null, .null, .null, .int 0, .int 0, .int 0, .int 0, .int 0]) : ACell) :: .inr (.inl (false, (List.replicate 3 0))) :: .inr (.inl (false, (List.replicate 3 0))) :: .inr (.inl (false, (List.replicate 3 0))) :: .inr (.inl (true, (List.replicate 32 0))) :: .inr (.inl (false, (List.replicate 32 0))) :: .inr (.inl (false, (List.replicate 32 0))) :: .inr (.inl (false, (List.replicate 32 0))) :: .inr (.inl (false, (List.replicate 96 0))) :: [])) rfl ?_
  refine OEnds.made1 hm_1 rfl rfl (ks := 96) rfl rfl ?_
  refine OEnds.adv hm_1 3 (pc' := 76) (L' := [.val (.ref 0), .val (.int v1), .val (.int v2), .val (.int v3)]) (S' := [.int 32, .ref 0]) (H' := ((.inl (0, [.ref 1, .ref 2, .ref 3, .ref 4, .ref 5, .ref 6, .ref 7, .ref 8, .ref 9, .null, .null, .null, .int 0, .int 0, .int 0, .int 0, .int 0]) : ACell) :: .inr (.inl (false, (List.replicate 3 0))) :: .inr (.inl (false, (List.replicate 3 0))) :: .inr (.inl (false, (List.replicate 3 0))) :: .inr (.inl (true, (List.replicate 32 0))) :: .inr (.inl (false, (List.replicate 32 0))) :: .inr (.inl (false, (List.replicate 32 0))) :: .inr (.inl (false, (List.replicate 32 0))) :: .inr (.inl (false, (List.replicate 96 0))) :: .inr (.inl (false, (List.replicate 96 0))) :: [])) rfl ?_
  refine OEnds.made1 hm_1 rfl rfl (ks := 32) rfl rfl ?_
  refine OEnds.adv hm_1 3 (pc' := 85) (L' := [.val (.ref 0), .val (.int v1), .val (.int v2), .val (.int v3)]) (S' := [.int 768, .ref 0]) (H' := ((.inl (0, [.ref 1, .ref 2, .ref 3, .ref 4, .ref 5, .ref 6, .ref 7, .ref 8, .ref 9, .ref 10, .null, .null, .int 0, .int 0, .int 0, .int 0, .int 0]) : ACell) :: .inr (.inl (false, (List.replicate 3 0))) :: .inr (.inl (false, (List.replicate 3 0))) :: .inr (.inl (false, (List.replicate 3 0))) :: .inr (.inl (true, (List.replicate 32 0))) :: .inr (.inl (false, (List.replicate 32 0))) :: .inr (.inl (false, (List.replicate 32 0))) :: .inr (.inl (false, (List.replicate 32 0))) :: .inr (.inl (false, (List.replicate 96 0))) :: .inr (.inl (false, (List.replicate 96 0))) :: .inr (.inl (false, (List.replicate 32 0))) :: [])) rfl ?_
  refine OEnds.made1 hm_1 rfl rfl (ks := 768) rfl rfl ?_
  refine OEnds.adv hm_1 3 (pc' := 93) (L' := [.val (.ref 0), .val (.int v1), .val (.int v2), .val (.int v3)]) (S' := [.int 32, .ref 0]) (H' := ((.inl (0, [.ref 1, .ref 2, .ref 3, .ref 4, .ref 5, .ref 6, .ref 7, .ref 8, .ref 9, .ref 10, .ref 11, .null, .int 0, .int 0, .int 0, .int 0, .int 0]) : ACell) :: .inr (.inl (false, (List.replicate 3 0))) :: .inr (.inl (false, (List.replicate 3 0))) :: .inr (.inl (false, (List.replicate 3 0))) :: .inr (.inl (true, (List.replicate 32 0))) :: .inr (.inl (false, (List.replicate 32 0))) :: .inr (.inl (false, (List.replicate 32 0))) :: .inr (.inl (false, (List.replicate 32 0))) :: .inr (.inl (false, (List.replicate 96 0))) :: .inr (.inl (false, (List.replicate 96 0))) :: .inr (.inl (false, (List.replicate 32 0))) :: .inr (.inl (false, (List.replicate 768 0))) :: [])) rfl ?_
  refine OEnds.made1 hm_1 rfl rfl (ks := 32) rfl rfl ?_
  refine OEnds.adv hm_1 6 (pc' := 105) (L' := [.val (.ref 0), .val (.int v1), .val (.int v2), .val (.int v3)]) (S' := [.int v1, .ref 0, .int 0, .ref 1]) (H' := (bk0 (List.replicate 3 0) (List.replicate 3 0) (List.replicate 3 0) (List.replicate 32 0) (List.replicate 32 0) (List.replicate 32 0) (List.replicate 32 0) (List.replicate 96 0) (List.replicate 96 0) (List.replicate 32 0) (List.replicate 768 0) (List.replicate 32 0) 0 0 0 0 0 [])) rfl ?_
  obtain ⟨r19, hq7, h⟩ := bnd h
  refine OEnds.call0 hm_1 rfl rfl (by decide) rfl (as := [.ref 0, .int v1]) (rest := [.int 0, .ref 1]) rfl rfl (ok_clampRooms hq7) ?_
  show OEnds own_P 1 108 [.val (.ref 0), .val (.int v1), .val (.int v2), .val (.int v3)] [.int r19, .int 0, .ref 1] (bk0 (List.replicate 3 0) (List.replicate 3 0) (List.replicate 3 0) (List.replicate 32 0) (List.replicate 32 0) (List.replicate 32 0) (List.replicate 32 0) (List.replicate 96 0) (List.replicate 96 0) (List.replicate 32 0) (List.replicate 768 0) (List.replicate 32 0) 0 0 0 0 0 []) _
  obtain ⟨A20, hA20, h⟩ := bnd h
  refine OEnds.plain hm_1 rfl rfl (x_iastore rfl (Nat.le_of_ble_eq_true rfl) hA20) ?_
  refine OEnds.adv hm_1 5 (pc' := 116) (L' := [.val (.ref 0), .val (.int v1), .val (.int v2), .val (.int v3)]) (S' := [.int v2, .ref 0, .int 1, .ref 1]) (H' := (bk0 A20 (List.replicate 3 0) (List.replicate 3 0) (List.replicate 32 0) (List.replicate 32 0) (List.replicate 32 0) (List.replicate 32 0) (List.replicate 96 0) (List.replicate 96 0) (List.replicate 32 0) (List.replicate 768 0) (List.replicate 32 0) 0 0 0 0 0 [])) rfl ?_
  obtain ⟨r21, hq8, h⟩ := bnd h
  refine OEnds.call0 hm_1 rfl rfl (by decide) rfl (as := [.ref 0, .int v2]) (rest := [.int 1, .ref 1]) rfl rfl (ok_clampRooms hq8) ?_
  show OEnds own_P 1 119 [.val (.ref 0), .val (.int v1), .val (.int v2), .val (.int v3)] [.int r21, .int 1, .ref 1] (bk0 A20 (List.replicate 3 0) (List.replicate 3 0) (List.replicate 32 0) (List.replicate 32 0) (List.replicate 32 0) (List.replicate 32 0) (List.replicate 96 0) (List.replicate 96 0) (List.replicate 32 0) (List.replicate 768 0) (List.replicate 32 0) 0 0 0 0 0 []) _
  obtain ⟨A22, hA22, h⟩ := bnd h
  refine OEnds.plain hm_1 rfl rfl (x_iastore rfl (Nat.le_of_ble_eq_true rfl) hA22) ?_
  refine OEnds.adv hm_1 5 (pc' := 127) (L' := [.val (.ref 0), .val (.int v1), .val (.int v2), .val (.int v3)]) (S' := [.int v3, .ref 0, .int 2, .ref 1]) (H' := (bk0 A22 (List.replicate 3 0) (List.replicate 3 0) (List.replicate 32 0) (List.replicate 32 0) (List.replicate 32 0) (List.replicate 32 0) (List.replicate 96 0) (List.replicate 96 0) (List.replicate 32 0) (List.replicate 768 0) (List.replicate 32 0) 0 0 0 0 0 [])) rfl ?_
  obtain ⟨r23, hq9, h⟩ := bnd h
  refine OEnds.call0 hm_1 rfl rfl (by decide) rfl (as := [.ref 0, .int v3]) (rest := [.int 2, .ref 1]) rfl rfl (ok_clampRooms hq9) ?_
  show OEnds own_P 1 130 [.val (.ref 0), .val (.int v1), .val (.int v2), .val (.int v3)] [.int r23, .int 2, .ref 1] (bk0 A22 (List.replicate 3 0) (List.replicate 3 0) (List.replicate 32 0) (List.replicate 32 0) (List.replicate 32 0) (List.replicate 32 0) (List.replicate 96 0) (List.replicate 96 0) (List.replicate 32 0) (List.replicate 768 0) (List.replicate 32 0) 0 0 0 0 0 []) _
  obtain ⟨A24, hA24, h⟩ := bnd h
  refine OEnds.plain hm_1 rfl rfl (x_iastore rfl (Nat.le_of_ble_eq_true rfl) hA24) ?_
  refine OEnds.adv hm_1 1 (pc' := 132) (L' := [.val (.ref 0), .val (.int v1), .val (.int v2), .val (.int v3)]) (S' := [.ref 0]) (H' := (bk0 A24 (List.replicate 3 0) (List.replicate 3 0) (List.replicate 32 0) (List.replicate 32 0) (List.replicate 32 0) (List.replicate 32 0) (List.replicate 96 0) (List.replicate 96 0) (List.replicate 32 0) (List.replicate 768 0) (List.replicate 32 0) 0 0 0 0 0 [])) rfl ?_
  obtain ⟨⟨s25, s26, s27⟩, hq10, h⟩ := bnd h
  refine OEnds.call0 hm_1 rfl rfl (by decide) rfl (as := [.ref 0]) (rest := []) rfl rfl (ok_computeRoomTables hq10) ?_
  refine OEnds.adv hm_1 1 (pc' := 136) (L' := [.val (.ref 0), .val (.int v1), .val (.int v2), .val (.int v3)]) (S' := [.ref 0]) (H' := (bk0 A24 s25 s26 (List.replicate 32 0) (List.replicate 32 0) (List.replicate 32 0) (List.replicate 32 0) (List.replicate 96 0) (List.replicate 96 0) (List.replicate 32 0) (List.replicate 768 0) (List.replicate 32 0) s27 0 0 0 0 [])) rfl ?_
  obtain ⟨⟨s28, s29, s30, s31, s32⟩, hq11, h⟩ := bnd h
  refine OEnds.call0 hm_1 rfl rfl (by decide) rfl (as := [.ref 0]) (rest := []) rfl rfl (ok_resetStays hq11) ?_
  refine OEnds.adv hm_1 1 (pc' := 140) (L' := [.val (.ref 0), .val (.int v1), .val (.int v2), .val (.int v3)]) (S' := [.ref 0]) (H' := (bk0 A24 s25 s26 s28 s29 s30 s31 (List.replicate 96 0) (List.replicate 96 0) (List.replicate 32 0) (List.replicate 768 0) (List.replicate 32 0) s27 s32 0 0 0 [])) rfl ?_
  obtain ⟨⟨s33, s34⟩, hq12, h⟩ := bnd h
  refine OEnds.call0 hm_1 rfl rfl (by decide) rfl (as := [.ref 0]) (rest := []) rfl rfl (ok_resetCounts hq12) ?_
  refine OEnds.adv hm_1 1 (pc' := 144) (L' := [.val (.ref 0), .val (.int v1), .val (.int v2), .val (.int v3)]) (S' := [.ref 0]) (H' := (bk0 A24 s25 s26 s28 s29 s30 s31 s33 s34 (List.replicate 32 0) (List.replicate 768 0) (List.replicate 32 0) s27 s32 0 0 0 [])) rfl ?_
  obtain ⟨⟨s35, s36, s37, s38⟩, hq13, h⟩ := bnd h
  refine OEnds.call0 hm_1 rfl rfl (by decide) rfl (as := [.ref 0]) (rest := []) rfl rfl (ok_clearPlan hq13) ?_
  refine OEnds.adv hm_1 6 (pc' := 157) (L' := [.val (.ref 0), .val (.int v1), .val (.int v2), .val (.int v3)]) (S' := []) (H' := (bk0 A24 s25 s26 s28 s29 s30 s31 s33 s34 s35 s36 s37 s27 s32 s38 0 0 [])) rfl ?_
  cases h
  exact OEnds.vret hm_1 rfl rfl
theorem ok_isValidType {o_roomsOfType : List Int32} {o_roomsAtLeast : List Int32} {o_firstRoomOfType : List Int32} {o_slotActive : List Int32} {o_slotType : List Int32} {o_slotArrive : List Int32} {o_slotNights : List Int32} {o_exactCount : List Int32} {o_atLeastCount : List Int32} {o_planRoom : List Int32} {o_planGrid : List Int32} {o_planOrder : List Int32} {o_totalRooms : Int32} {o_activeStays : Int32} {o_planOrderLength : Int32} {o_planCurrent : Int32} {o_planUnplaced : Int32} {po : List ACell} {v1 : Int32} {res : Int32} (h : f_isValidType v1 = some res) : OEnds own_P 9 0 [.val (.ref 0), .val (.int v1)] [] (bk0 o_roomsOfType o_roomsAtLeast o_firstRoomOfType o_slotActive o_slotType o_slotArrive o_slotNights o_exactCount o_atLeastCount o_planRoom o_planGrid o_planOrder o_totalRooms o_activeStays o_planOrderLength o_planCurrent o_planUnplaced po) (some (.int res), (bk0 o_roomsOfType o_roomsAtLeast o_firstRoomOfType o_slotActive o_slotType o_slotArrive o_slotNights o_exactCount o_atLeastCount o_planRoom o_planGrid o_planOrder o_totalRooms o_activeStays o_planOrderLength o_planCurrent o_planUnplaced po), 0, 0) := by
  unfold f_isValidType at h
  refine OEnds.adv hm_9 1 (pc' := 1) (L' := [.val (.ref 0), .val (.int v1)]) (S' := [.int v1]) (H' := (bk0 o_roomsOfType o_roomsAtLeast o_firstRoomOfType o_slotActive o_slotType o_slotArrive o_slotNights o_exactCount o_atLeastCount o_planRoom o_planGrid o_planOrder o_totalRooms o_activeStays o_planOrderLength o_planCurrent o_planUnplaced po)) rfl ?_
  by_cases hc14 : v1 < (0 : Int32)
  · simp only [if_pos hc14] at h
    refine OEnds.ifT hm_9 rfl (q := 13) rfl ((tlt hc14).1) ?_
    refine OEnds.adv hm_9 1 (pc' := 14) (L' := [.val (.ref 0), .val (.int v1)]) (S' := [.int 0]) (H' := (bk0 o_roomsOfType o_roomsAtLeast o_firstRoomOfType o_slotActive o_slotType o_slotArrive o_slotNights o_exactCount o_atLeastCount o_planRoom o_planGrid o_planOrder o_totalRooms o_activeStays o_planOrderLength o_planCurrent o_planUnplaced po)) rfl ?_
    cases h
    exact OEnds.iret hm_9 rfl rfl
  · simp only [if_neg hc14] at h
    refine OEnds.ifF hm_9 rfl ((flt hc14).1) ?_
    refine OEnds.adv hm_9 2 (pc' := 6) (L' := [.val (.ref 0), .val (.int v1)]) (S' := [.int 3, .int v1]) (H' := (bk0 o_roomsOfType o_roomsAtLeast o_firstRoomOfType o_slotActive o_slotType o_slotArrive o_slotNights o_exactCount o_atLeastCount o_planRoom o_planGrid o_planOrder o_totalRooms o_activeStays o_planOrderLength o_planCurrent o_planUnplaced po)) rfl ?_
    by_cases hc15 : v1 < (3 : Int32)
    · simp only [if_pos hc15] at h
      refine OEnds.icmpF hm_9 rfl ((tlt hc15).2.1) ?_
      refine OEnds.adv hm_9 2 (pc' := 14) (L' := [.val (.ref 0), .val (.int v1)]) (S' := [.int 1]) (H' := (bk0 o_roomsOfType o_roomsAtLeast o_firstRoomOfType o_slotActive o_slotType o_slotArrive o_slotNights o_exactCount o_atLeastCount o_planRoom o_planGrid o_planOrder o_totalRooms o_activeStays o_planOrderLength o_planCurrent o_planUnplaced po)) rfl ?_
      cases h
      exact OEnds.iret hm_9 rfl rfl
    · simp only [if_neg hc15] at h
      refine OEnds.icmpT hm_9 rfl (q := 13) rfl ((flt hc15).2.1) ?_
      refine OEnds.adv hm_9 1 (pc' := 14) (L' := [.val (.ref 0), .val (.int v1)]) (S' := [.int 0]) (H' := (bk0 o_roomsOfType o_roomsAtLeast o_firstRoomOfType o_slotActive o_slotType o_slotArrive o_slotNights o_exactCount o_atLeastCount o_planRoom o_planGrid o_planOrder o_totalRooms o_activeStays o_planOrderLength o_planCurrent o_planUnplaced po)) rfl ?_
      cases h
      exact OEnds.iret hm_9 rfl rfl
theorem ok_isValidNight {o_roomsOfType : List Int32} {o_roomsAtLeast : List Int32} {o_firstRoomOfType : List Int32} {o_slotActive : List Int32} {o_slotType : List Int32} {o_slotArrive : List Int32} {o_slotNights : List Int32} {o_exactCount : List Int32} {o_atLeastCount : List Int32} {o_planRoom : List Int32} {o_planGrid : List Int32} {o_planOrder : List Int32} {o_totalRooms : Int32} {o_activeStays : Int32} {o_planOrderLength : Int32} {o_planCurrent : Int32} {o_planUnplaced : Int32} {po : List ACell} {v1 : Int32} {res : Int32} (h : f_isValidNight v1 = some res) : OEnds own_P 10 0 [.val (.ref 0), .val (.int v1)] [] (bk0 o_roomsOfType o_roomsAtLeast o_firstRoomOfType o_slotActive o_slotType o_slotArrive o_slotNights o_exactCount o_atLeastCount o_planRoom o_planGrid o_planOrder o_totalRooms o_activeStays o_planOrderLength o_planCurrent o_planUnplaced po) (some (.int res), (bk0 o_roomsOfType o_roomsAtLeast o_firstRoomOfType o_slotActive o_slotType o_slotArrive o_slotNights o_exactCount o_atLeastCount o_planRoom o_planGrid o_planOrder o_totalRooms o_activeStays o_planOrderLength o_planCurrent o_planUnplaced po), 0, 0) := by
  unfold f_isValidNight at h
  refine OEnds.adv hm_10 1 (pc' := 1) (L' := [.val (.ref 0), .val (.int v1)]) (S' := [.int v1]) (H' := (bk0 o_roomsOfType o_roomsAtLeast o_firstRoomOfType o_slotActive o_slotType o_slotArrive o_slotNights o_exactCount o_atLeastCount o_planRoom o_planGrid o_planOrder o_totalRooms o_activeStays o_planOrderLength o_planCurrent o_planUnplaced po)) rfl ?_
  by_cases hc16 : v1 < (0 : Int32)
  · simp only [if_pos hc16] at h
    refine OEnds.ifT hm_10 rfl (q := 14) rfl ((tlt hc16).1) ?_
    refine OEnds.adv hm_10 1 (pc' := 15) (L' := [.val (.ref 0), .val (.int v1)]) (S' := [.int 0]) (H' := (bk0 o_roomsOfType o_roomsAtLeast o_firstRoomOfType o_slotActive o_slotType o_slotArrive o_slotNights o_exactCount o_atLeastCount o_planRoom o_planGrid o_planOrder o_totalRooms o_activeStays o_planOrderLength o_planCurrent o_planUnplaced po)) rfl ?_
    cases h
    exact OEnds.iret hm_10 rfl rfl
  · simp only [if_neg hc16] at h
    refine OEnds.ifF hm_10 rfl ((flt hc16).1) ?_
    refine OEnds.adv hm_10 2 (pc' := 7) (L' := [.val (.ref 0), .val (.int v1)]) (S' := [.int 32, .int v1]) (H' := (bk0 o_roomsOfType o_roomsAtLeast o_firstRoomOfType o_slotActive o_slotType o_slotArrive o_slotNights o_exactCount o_atLeastCount o_planRoom o_planGrid o_planOrder o_totalRooms o_activeStays o_planOrderLength o_planCurrent o_planUnplaced po)) rfl ?_
    by_cases hc17 : v1 < (32 : Int32)
    · simp only [if_pos hc17] at h
      refine OEnds.icmpF hm_10 rfl ((tlt hc17).2.1) ?_
      refine OEnds.adv hm_10 2 (pc' := 15) (L' := [.val (.ref 0), .val (.int v1)]) (S' := [.int 1]) (H' := (bk0 o_roomsOfType o_roomsAtLeast o_firstRoomOfType o_slotActive o_slotType o_slotArrive o_slotNights o_exactCount o_atLeastCount o_planRoom o_planGrid o_planOrder o_totalRooms o_activeStays o_planOrderLength o_planCurrent o_planUnplaced po)) rfl ?_
      cases h
      exact OEnds.iret hm_10 rfl rfl
    · simp only [if_neg hc17] at h
      refine OEnds.icmpT hm_10 rfl (q := 14) rfl ((flt hc17).2.1) ?_
      refine OEnds.adv hm_10 1 (pc' := 15) (L' := [.val (.ref 0), .val (.int v1)]) (S' := [.int 0]) (H' := (bk0 o_roomsOfType o_roomsAtLeast o_firstRoomOfType o_slotActive o_slotType o_slotArrive o_slotNights o_exactCount o_atLeastCount o_planRoom o_planGrid o_planOrder o_totalRooms o_activeStays o_planOrderLength o_planCurrent o_planUnplaced po)) rfl ?_
      cases h
      exact OEnds.iret hm_10 rfl rfl
theorem ok_isValidLength {o_roomsOfType : List Int32} {o_roomsAtLeast : List Int32} {o_firstRoomOfType : List Int32} {o_slotActive : List Int32} {o_slotType : List Int32} {o_slotArrive : List Int32} {o_slotNights : List Int32} {o_exactCount : List Int32} {o_atLeastCount : List Int32} {o_planRoom : List Int32} {o_planGrid : List Int32} {o_planOrder : List Int32} {o_totalRooms : Int32} {o_activeStays : Int32} {o_planOrderLength : Int32} {o_planCurrent : Int32} {o_planUnplaced : Int32} {po : List ACell} {v1 : Int32} {v2 : Int32} {res : Int32} (h : f_isValidLength v1 v2 = some res) : OEnds own_P 11 0 [.val (.ref 0), .val (.int v1), .val (.int v2)] [] (bk0 o_roomsOfType o_roomsAtLeast o_firstRoomOfType o_slotActive o_slotType o_slotArrive o_slotNights o_exactCount o_atLeastCount o_planRoom o_planGrid o_planOrder o_totalRooms o_activeStays o_planOrderLength o_planCurrent o_planUnplaced po) (some (.int res), (bk0 o_roomsOfType o_roomsAtLeast o_firstRoomOfType o_slotActive o_slotType o_slotArrive o_slotNights o_exactCount o_atLeastCount o_planRoom o_planGrid o_planOrder o_totalRooms o_activeStays o_planOrderLength o_planCurrent o_planUnplaced po), 0, 0) := by
  unfold f_isValidLength at h
  refine OEnds.adv hm_11 2 (pc' := 2) (L' := [.val (.ref 0), .val (.int v1), .val (.int v2)]) (S' := [.int 1, .int v2]) (H' := (bk0 o_roomsOfType o_roomsAtLeast o_firstRoomOfType o_slotActive o_slotType o_slotArrive o_slotNights o_exactCount o_atLeastCount o_planRoom o_planGrid o_planOrder o_totalRooms o_activeStays o_planOrderLength o_planCurrent o_planUnplaced po)) rfl ?_
  by_cases hc18 : v2 < (1 : Int32)
  · simp only [if_pos hc18] at h
    refine OEnds.icmpF hm_11 rfl ((tlt hc18).2.1) ?_
    refine OEnds.adv hm_11 1 (pc' := 6) (L' := [.val (.ref 0), .val (.int v1), .val (.int v2)]) (S' := [.int 0]) (H' := (bk0 o_roomsOfType o_roomsAtLeast o_firstRoomOfType o_slotActive o_slotType o_slotArrive o_slotNights o_exactCount o_atLeastCount o_planRoom o_planGrid o_planOrder o_totalRooms o_activeStays o_planOrderLength o_planCurrent o_planUnplaced po)) rfl ?_
    cases h
    exact OEnds.iret hm_11 rfl rfl
  · simp only [if_neg hc18] at h
    refine OEnds.icmpT hm_11 rfl (q := 7) rfl ((flt hc18).2.1) ?_
    refine OEnds.adv hm_11 4 (pc' := 12) (L' := [.val (.ref 0), .val (.int v1), .val (.int v2)]) (S' := [.int ((32 : Int32) - v1), .int v2]) (H' := (bk0 o_roomsOfType o_roomsAtLeast o_firstRoomOfType o_slotActive o_slotType o_slotArrive o_slotNights o_exactCount o_atLeastCount o_planRoom o_planGrid o_planOrder o_totalRooms o_activeStays o_planOrderLength o_planCurrent o_planUnplaced po)) rfl ?_
    by_cases hc19 : ((32 : Int32) - v1) < v2
    · simp only [if_pos hc19] at h
      refine OEnds.icmpT hm_11 rfl (q := 19) rfl ((tlt hc19).2.2.1) ?_
      refine OEnds.adv hm_11 1 (pc' := 20) (L' := [.val (.ref 0), .val (.int v1), .val (.int v2)]) (S' := [.int 0]) (H' := (bk0 o_roomsOfType o_roomsAtLeast o_firstRoomOfType o_slotActive o_slotType o_slotArrive o_slotNights o_exactCount o_atLeastCount o_planRoom o_planGrid o_planOrder o_totalRooms o_activeStays o_planOrderLength o_planCurrent o_planUnplaced po)) rfl ?_
      cases h
      exact OEnds.iret hm_11 rfl rfl
    · simp only [if_neg hc19] at h
      refine OEnds.icmpF hm_11 rfl ((flt hc19).2.2.1) ?_
      refine OEnds.adv hm_11 2 (pc' := 20) (L' := [.val (.ref 0), .val (.int v1), .val (.int v2)]) (S' := [.int 1]) (H' := (bk0 o_roomsOfType o_roomsAtLeast o_firstRoomOfType o_slotActive o_slotType o_slotArrive o_slotNights o_exactCount o_atLeastCount o_planRoom o_planGrid o_planOrder o_totalRooms o_activeStays o_planOrderLength o_planCurrent o_planUnplaced po)) rfl ?_
      cases h
      exact OEnds.iret hm_11 rfl rfl
theorem ok_requestError {o_roomsOfType : List Int32} {o_roomsAtLeast : List Int32} {o_firstRoomOfType : List Int32} {o_slotActive : List Int32} {o_slotType : List Int32} {o_slotArrive : List Int32} {o_slotNights : List Int32} {o_exactCount : List Int32} {o_atLeastCount : List Int32} {o_planRoom : List Int32} {o_planGrid : List Int32} {o_planOrder : List Int32} {o_totalRooms : Int32} {o_activeStays : Int32} {o_planOrderLength : Int32} {o_planCurrent : Int32} {o_planUnplaced : Int32} {po : List ACell} {v1 : Int32} {v2 : Int32} {v3 : Int32} {res : Int32} (h : f_requestError v1 v2 v3 = some res) : OEnds own_P 8 0 [.val (.ref 0), .val (.int v1), .val (.int v2), .val (.int v3)] [] (bk0 o_roomsOfType o_roomsAtLeast o_firstRoomOfType o_slotActive o_slotType o_slotArrive o_slotNights o_exactCount o_atLeastCount o_planRoom o_planGrid o_planOrder o_totalRooms o_activeStays o_planOrderLength o_planCurrent o_planUnplaced po) (some (.int res), (bk0 o_roomsOfType o_roomsAtLeast o_firstRoomOfType o_slotActive o_slotType o_slotArrive o_slotNights o_exactCount o_atLeastCount o_planRoom o_planGrid o_planOrder o_totalRooms o_activeStays o_planOrderLength o_planCurrent o_planUnplaced po), 0, 0) := by
  unfold f_requestError at h
  refine OEnds.adv hm_8 2 (pc' := 2) (L' := [.val (.ref 0), .val (.int v1), .val (.int v2), .val (.int v3)]) (S' := [.int v1, .ref 0]) (H' := (bk0 o_roomsOfType o_roomsAtLeast o_firstRoomOfType o_slotActive o_slotType o_slotArrive o_slotNights o_exactCount o_atLeastCount o_planRoom o_planGrid o_planOrder o_totalRooms o_activeStays o_planOrderLength o_planCurrent o_planUnplaced po)) rfl ?_
  obtain ⟨r39, hq20, h⟩ := bnd h
  refine OEnds.call0 hm_8 rfl rfl (by decide) rfl (as := [.ref 0, .int v1]) (rest := []) rfl rfl (ok_isValidType hq20) ?_
  show OEnds own_P 8 5 [.val (.ref 0), .val (.int v1), .val (.int v2), .val (.int v3)] [.int r39] (bk0 o_roomsOfType o_roomsAtLeast o_firstRoomOfType o_slotActive o_slotType o_slotArrive o_slotNights o_exactCount o_atLeastCount o_planRoom o_planGrid o_planOrder o_totalRooms o_activeStays o_planOrderLength o_planCurrent o_planUnplaced po) _
  by_cases hc21 : r39 = (0 : Int32)
  · simp only [if_pos hc21] at h
    refine OEnds.ifF hm_8 rfl ((teq hc21).2) ?_
    refine OEnds.adv hm_8 1 (pc' := 9) (L' := [.val (.ref 0), .val (.int v1), .val (.int v2), .val (.int v3)]) (S' := [.int (-1)]) (H' := (bk0 o_roomsOfType o_roomsAtLeast o_firstRoomOfType o_slotActive o_slotType o_slotArrive o_slotNights o_exactCount o_atLeastCount o_planRoom o_planGrid o_planOrder o_totalRooms o_activeStays o_planOrderLength o_planCurrent o_planUnplaced po)) rfl ?_
    cases h
    exact OEnds.iret hm_8 rfl rfl
  · simp only [if_neg hc21] at h
    refine OEnds.ifT hm_8 rfl (q := 10) rfl ((feq hc21).2) ?_
    refine OEnds.adv hm_8 2 (pc' := 12) (L' := [.val (.ref 0), .val (.int v1), .val (.int v2), .val (.int v3)]) (S' := [.int v2, .ref 0]) (H' := (bk0 o_roomsOfType o_roomsAtLeast o_firstRoomOfType o_slotActive o_slotType o_slotArrive o_slotNights o_exactCount o_atLeastCount o_planRoom o_planGrid o_planOrder o_totalRooms o_activeStays o_planOrderLength o_planCurrent o_planUnplaced po)) rfl ?_
    obtain ⟨r40, hq22, h⟩ := bnd h
    refine OEnds.call0 hm_8 rfl rfl (by decide) rfl (as := [.ref 0, .int v2]) (rest := []) rfl rfl (ok_isValidNight hq22) ?_
    show OEnds own_P 8 15 [.val (.ref 0), .val (.int v1), .val (.int v2), .val (.int v3)] [.int r40] (bk0 o_roomsOfType o_roomsAtLeast o_firstRoomOfType o_slotActive o_slotType o_slotArrive o_slotNights o_exactCount o_atLeastCount o_planRoom o_planGrid o_planOrder o_totalRooms o_activeStays o_planOrderLength o_planCurrent o_planUnplaced po) _
    by_cases hc23 : r40 = (0 : Int32)
    · simp only [if_pos hc23] at h
      refine OEnds.ifF hm_8 rfl ((teq hc23).2) ?_
      refine OEnds.adv hm_8 1 (pc' := 20) (L' := [.val (.ref 0), .val (.int v1), .val (.int v2), .val (.int v3)]) (S' := [.int (-2)]) (H' := (bk0 o_roomsOfType o_roomsAtLeast o_firstRoomOfType o_slotActive o_slotType o_slotArrive o_slotNights o_exactCount o_atLeastCount o_planRoom o_planGrid o_planOrder o_totalRooms o_activeStays o_planOrderLength o_planCurrent o_planUnplaced po)) rfl ?_
      cases h
      exact OEnds.iret hm_8 rfl rfl
    · simp only [if_neg hc23] at h
      refine OEnds.ifT hm_8 rfl (q := 21) rfl ((feq hc23).2) ?_
      refine OEnds.adv hm_8 3 (pc' := 24) (L' := [.val (.ref 0), .val (.int v1), .val (.int v2), .val (.int v3)]) (S' := [.int v3, .int v2, .ref 0]) (H' := (bk0 o_roomsOfType o_roomsAtLeast o_firstRoomOfType o_slotActive o_slotType o_slotArrive o_slotNights o_exactCount o_atLeastCount o_planRoom o_planGrid o_planOrder o_totalRooms o_activeStays o_planOrderLength o_planCurrent o_planUnplaced po)) rfl ?_
      obtain ⟨r41, hq24, h⟩ := bnd h
      refine OEnds.call0 hm_8 rfl rfl (by decide) rfl (as := [.ref 0, .int v2, .int v3]) (rest := []) rfl rfl (ok_isValidLength hq24) ?_
      show OEnds own_P 8 27 [.val (.ref 0), .val (.int v1), .val (.int v2), .val (.int v3)] [.int r41] (bk0 o_roomsOfType o_roomsAtLeast o_firstRoomOfType o_slotActive o_slotType o_slotArrive o_slotNights o_exactCount o_atLeastCount o_planRoom o_planGrid o_planOrder o_totalRooms o_activeStays o_planOrderLength o_planCurrent o_planUnplaced po) _
      by_cases hc25 : r41 = (0 : Int32)
      · simp only [if_pos hc25] at h
        refine OEnds.ifF hm_8 rfl ((teq hc25).2) ?_
        refine OEnds.adv hm_8 1 (pc' := 32) (L' := [.val (.ref 0), .val (.int v1), .val (.int v2), .val (.int v3)]) (S' := [.int (-2)]) (H' := (bk0 o_roomsOfType o_roomsAtLeast o_firstRoomOfType o_slotActive o_slotType o_slotArrive o_slotNights o_exactCount o_atLeastCount o_planRoom o_planGrid o_planOrder o_totalRooms o_activeStays o_planOrderLength o_planCurrent o_planUnplaced po)) rfl ?_
        cases h
        exact OEnds.iret hm_8 rfl rfl
      · simp only [if_neg hc25] at h
        refine OEnds.ifT hm_8 rfl (q := 33) rfl ((feq hc25).2) ?_
        refine OEnds.adv hm_8 1 (pc' := 34) (L' := [.val (.ref 0), .val (.int v1), .val (.int v2), .val (.int v3)]) (S' := [.int 0]) (H' := (bk0 o_roomsOfType o_roomsAtLeast o_firstRoomOfType o_slotActive o_slotType o_slotArrive o_slotNights o_exactCount o_atLeastCount o_planRoom o_planGrid o_planOrder o_totalRooms o_activeStays o_planOrderLength o_planCurrent o_planUnplaced po)) rfl ?_
        cases h
        exact OEnds.iret hm_8 rfl rfl
theorem ok_endOf {o_roomsOfType : List Int32} {o_roomsAtLeast : List Int32} {o_firstRoomOfType : List Int32} {o_slotActive : List Int32} {o_slotType : List Int32} {o_slotArrive : List Int32} {o_slotNights : List Int32} {o_exactCount : List Int32} {o_atLeastCount : List Int32} {o_planRoom : List Int32} {o_planGrid : List Int32} {o_planOrder : List Int32} {o_totalRooms : Int32} {o_activeStays : Int32} {o_planOrderLength : Int32} {o_planCurrent : Int32} {o_planUnplaced : Int32} {po : List ACell} {v1 : Int32} {v2 : Int32} {res : Int32} (h : f_endOf v1 v2 = some res) : OEnds own_P 13 0 [.val (.ref 0), .val (.int v1), .val (.int v2), .unset] [] (bk0 o_roomsOfType o_roomsAtLeast o_firstRoomOfType o_slotActive o_slotType o_slotArrive o_slotNights o_exactCount o_atLeastCount o_planRoom o_planGrid o_planOrder o_totalRooms o_activeStays o_planOrderLength o_planCurrent o_planUnplaced po) (some (.int res), (bk0 o_roomsOfType o_roomsAtLeast o_firstRoomOfType o_slotActive o_slotType o_slotArrive o_slotNights o_exactCount o_atLeastCount o_planRoom o_planGrid o_planOrder o_totalRooms o_activeStays o_planOrderLength o_planCurrent o_planUnplaced po), 0, 0) := by
  unfold f_endOf at h
  refine OEnds.adv hm_13 6 (pc' := 7) (L' := [.val (.ref 0), .val (.int v1), .val (.int v2), .val (.int (v1 + v2))]) (S' := [.int 32, .int (v1 + v2)]) (H' := (bk0 o_roomsOfType o_roomsAtLeast o_firstRoomOfType o_slotActive o_slotType o_slotArrive o_slotNights o_exactCount o_atLeastCount o_planRoom o_planGrid o_planOrder o_totalRooms o_activeStays o_planOrderLength o_planCurrent o_planUnplaced po)) rfl ?_
  by_cases hc26 : (32 : Int32) < (v1 + v2)
  · simp only [if_pos hc26] at h
    refine OEnds.icmpF hm_13 rfl ((tlt hc26).2.2.2) ?_
    refine OEnds.adv hm_13 1 (pc' := 12) (L' := [.val (.ref 0), .val (.int v1), .val (.int v2), .val (.int (v1 + v2))]) (S' := [.int 32]) (H' := (bk0 o_roomsOfType o_roomsAtLeast o_firstRoomOfType o_slotActive o_slotType o_slotArrive o_slotNights o_exactCount o_atLeastCount o_planRoom o_planGrid o_planOrder o_totalRooms o_activeStays o_planOrderLength o_planCurrent o_planUnplaced po)) rfl ?_
    cases h
    exact OEnds.iret hm_13 rfl rfl
  · simp only [if_neg hc26] at h
    refine OEnds.icmpT hm_13 rfl (q := 13) rfl ((flt hc26).2.2.2) ?_
    refine OEnds.adv hm_13 1 (pc' := 14) (L' := [.val (.ref 0), .val (.int v1), .val (.int v2), .val (.int (v1 + v2))]) (S' := [.int (v1 + v2)]) (H' := (bk0 o_roomsOfType o_roomsAtLeast o_firstRoomOfType o_slotActive o_slotType o_slotArrive o_slotNights o_exactCount o_atLeastCount o_planRoom o_planGrid o_planOrder o_totalRooms o_activeStays o_planOrderLength o_planCurrent o_planUnplaced po)) rfl ?_
    cases h
    exact OEnds.iret hm_13 rfl rfl
theorem ok_countIndex {o_roomsOfType : List Int32} {o_roomsAtLeast : List Int32} {o_firstRoomOfType : List Int32} {o_slotActive : List Int32} {o_slotType : List Int32} {o_slotArrive : List Int32} {o_slotNights : List Int32} {o_exactCount : List Int32} {o_atLeastCount : List Int32} {o_planRoom : List Int32} {o_planGrid : List Int32} {o_planOrder : List Int32} {o_totalRooms : Int32} {o_activeStays : Int32} {o_planOrderLength : Int32} {o_planCurrent : Int32} {o_planUnplaced : Int32} {po : List ACell} {v1 : Int32} {v2 : Int32} {res : Int32} (h : f_countIndex v1 v2 = some res) : OEnds own_P 16 0 [.val (.ref 0), .val (.int v1), .val (.int v2)] [] (bk0 o_roomsOfType o_roomsAtLeast o_firstRoomOfType o_slotActive o_slotType o_slotArrive o_slotNights o_exactCount o_atLeastCount o_planRoom o_planGrid o_planOrder o_totalRooms o_activeStays o_planOrderLength o_planCurrent o_planUnplaced po) (some (.int res), (bk0 o_roomsOfType o_roomsAtLeast o_firstRoomOfType o_slotActive o_slotType o_slotArrive o_slotNights o_exactCount o_atLeastCount o_planRoom o_planGrid o_planOrder o_totalRooms o_activeStays o_planOrderLength o_planCurrent o_planUnplaced po), 0, 0) := by
  unfold f_countIndex at h
  refine OEnds.adv hm_16 5 (pc' := 6) (L' := [.val (.ref 0), .val (.int v1), .val (.int v2)]) (S' := [.int ((v1 * (32 : Int32)) + v2)]) (H' := (bk0 o_roomsOfType o_roomsAtLeast o_firstRoomOfType o_slotActive o_slotType o_slotArrive o_slotNights o_exactCount o_atLeastCount o_planRoom o_planGrid o_planOrder o_totalRooms o_activeStays o_planOrderLength o_planCurrent o_planUnplaced po)) rfl ?_
  cases h
  exact OEnds.iret hm_16 rfl rfl
theorem ok_atLeastAt {o_roomsOfType : List Int32} {o_roomsAtLeast : List Int32} {o_firstRoomOfType : List Int32} {o_slotActive : List Int32} {o_slotType : List Int32} {o_slotArrive : List Int32} {o_slotNights : List Int32} {o_exactCount : List Int32} {o_atLeastCount : List Int32} {o_planRoom : List Int32} {o_planGrid : List Int32} {o_planOrder : List Int32} {o_totalRooms : Int32} {o_activeStays : Int32} {o_planOrderLength : Int32} {o_planCurrent : Int32} {o_planUnplaced : Int32} {po : List ACell} {v1 : Int32} {v2 : Int32} {res : Int32} (h : f_atLeastAt o_atLeastCount v1 v2 = some res) : OEnds own_P 15 0 [.val (.ref 0), .val (.int v1), .val (.int v2)] [] (bk0 o_roomsOfType o_roomsAtLeast o_firstRoomOfType o_slotActive o_slotType o_slotArrive o_slotNights o_exactCount o_atLeastCount o_planRoom o_planGrid o_planOrder o_totalRooms o_activeStays o_planOrderLength o_planCurrent o_planUnplaced po) (some (.int res), (bk0 o_roomsOfType o_roomsAtLeast o_firstRoomOfType o_slotActive o_slotType o_slotArrive o_slotNights o_exactCount o_atLeastCount o_planRoom o_planGrid o_planOrder o_totalRooms o_activeStays o_planOrderLength o_planCurrent o_planUnplaced po), 0, 0) := by
  unfold f_atLeastAt at h
  refine OEnds.adv hm_15 2 (pc' := 2) (L' := [.val (.ref 0), .val (.int v1), .val (.int v2)]) (S' := [.int v1, .ref 0]) (H' := (bk0 o_roomsOfType o_roomsAtLeast o_firstRoomOfType o_slotActive o_slotType o_slotArrive o_slotNights o_exactCount o_atLeastCount o_planRoom o_planGrid o_planOrder o_totalRooms o_activeStays o_planOrderLength o_planCurrent o_planUnplaced po)) rfl ?_
  obtain ⟨r42, hq27, h⟩ := bnd h
  refine OEnds.call0 hm_15 rfl rfl (by decide) rfl (as := [.ref 0, .int v1]) (rest := []) rfl rfl (ok_isValidType hq27) ?_
  show OEnds own_P 15 5 [.val (.ref 0), .val (.int v1), .val (.int v2)] [.int r42] (bk0 o_roomsOfType o_roomsAtLeast o_firstRoomOfType o_slotActive o_slotType o_slotArrive o_slotNights o_exactCount o_atLeastCount o_planRoom o_planGrid o_planOrder o_totalRooms o_activeStays o_planOrderLength o_planCurrent o_planUnplaced po) _
  by_cases hc28 : r42 = (0 : Int32)
  · simp only [if_pos hc28] at h
    refine OEnds.ifT hm_15 rfl (q := 16) rfl ((teq hc28).1) ?_
    refine OEnds.adv hm_15 1 (pc' := 17) (L' := [.val (.ref 0), .val (.int v1), .val (.int v2)]) (S' := [.int 0]) (H' := (bk0 o_roomsOfType o_roomsAtLeast o_firstRoomOfType o_slotActive o_slotType o_slotArrive o_slotNights o_exactCount o_atLeastCount o_planRoom o_planGrid o_planOrder o_totalRooms o_activeStays o_planOrderLength o_planCurrent o_planUnplaced po)) rfl ?_
    cases h
    exact OEnds.iret hm_15 rfl rfl
  · simp only [if_neg hc28] at h
    refine OEnds.ifF hm_15 rfl ((feq hc28).1) ?_
    refine OEnds.adv hm_15 2 (pc' := 10) (L' := [.val (.ref 0), .val (.int v1), .val (.int v2)]) (S' := [.int v2, .ref 0]) (H' := (bk0 o_roomsOfType o_roomsAtLeast o_firstRoomOfType o_slotActive o_slotType o_slotArrive o_slotNights o_exactCount o_atLeastCount o_planRoom o_planGrid o_planOrder o_totalRooms o_activeStays o_planOrderLength o_planCurrent o_planUnplaced po)) rfl ?_
    obtain ⟨r43, hq29, h⟩ := bnd h
    refine OEnds.call0 hm_15 rfl rfl (by decide) rfl (as := [.ref 0, .int v2]) (rest := []) rfl rfl (ok_isValidNight hq29) ?_
    show OEnds own_P 15 13 [.val (.ref 0), .val (.int v1), .val (.int v2)] [.int r43] (bk0 o_roomsOfType o_roomsAtLeast o_firstRoomOfType o_slotActive o_slotType o_slotArrive o_slotNights o_exactCount o_atLeastCount o_planRoom o_planGrid o_planOrder o_totalRooms o_activeStays o_planOrderLength o_planCurrent o_planUnplaced po) _
    by_cases hc30 : r43 = (0 : Int32)
    · simp only [if_pos hc30] at h
      refine OEnds.ifF hm_15 rfl ((teq hc30).2) ?_
      refine OEnds.adv hm_15 1 (pc' := 17) (L' := [.val (.ref 0), .val (.int v1), .val (.int v2)]) (S' := [.int 0]) (H' := (bk0 o_roomsOfType o_roomsAtLeast o_firstRoomOfType o_slotActive o_slotType o_slotArrive o_slotNights o_exactCount o_atLeastCount o_planRoom o_planGrid o_planOrder o_totalRooms o_activeStays o_planOrderLength o_planCurrent o_planUnplaced po)) rfl ?_
      cases h
      exact OEnds.iret hm_15 rfl rfl
    · simp only [if_neg hc30] at h
      refine OEnds.ifT hm_15 rfl (q := 18) rfl ((feq hc30).2) ?_
      refine OEnds.adv hm_15 5 (pc' := 25) (L' := [.val (.ref 0), .val (.int v1), .val (.int v2)]) (S' := [.int v2, .int v1, .ref 0, .ref 9]) (H' := (bk0 o_roomsOfType o_roomsAtLeast o_firstRoomOfType o_slotActive o_slotType o_slotArrive o_slotNights o_exactCount o_atLeastCount o_planRoom o_planGrid o_planOrder o_totalRooms o_activeStays o_planOrderLength o_planCurrent o_planUnplaced po)) rfl ?_
      obtain ⟨r44, hq31, h⟩ := bnd h
      refine OEnds.call0 hm_15 rfl rfl (by decide) rfl (as := [.ref 0, .int v1, .int v2]) (rest := [.ref 9]) rfl rfl (ok_countIndex hq31) ?_
      show OEnds own_P 15 28 [.val (.ref 0), .val (.int v1), .val (.int v2)] [.int r44, .ref 9] (bk0 o_roomsOfType o_roomsAtLeast o_firstRoomOfType o_slotActive o_slotType o_slotArrive o_slotNights o_exactCount o_atLeastCount o_planRoom o_planGrid o_planOrder o_totalRooms o_activeStays o_planOrderLength o_planCurrent o_planUnplaced po) _
      obtain ⟨x45, hx45, h⟩ := bnd h
      refine OEnds.plain hm_15 rfl rfl (x_iaload rfl hx45) ?_
      show OEnds own_P 15 29 [.val (.ref 0), .val (.int v1), .val (.int v2)] [.int x45] (bk0 o_roomsOfType o_roomsAtLeast o_firstRoomOfType o_slotActive o_slotType o_slotArrive o_slotNights o_exactCount o_atLeastCount o_planRoom o_planGrid o_planOrder o_totalRooms o_activeStays o_planOrderLength o_planCurrent o_planUnplaced po) _
      cases h
      exact OEnds.iret hm_15 rfl rfl
theorem ok_isActiveStay {o_roomsOfType : List Int32} {o_roomsAtLeast : List Int32} {o_firstRoomOfType : List Int32} {o_slotActive : List Int32} {o_slotType : List Int32} {o_slotArrive : List Int32} {o_slotNights : List Int32} {o_exactCount : List Int32} {o_atLeastCount : List Int32} {o_planRoom : List Int32} {o_planGrid : List Int32} {o_planOrder : List Int32} {o_totalRooms : Int32} {o_activeStays : Int32} {o_planOrderLength : Int32} {o_planCurrent : Int32} {o_planUnplaced : Int32} {po : List ACell} {v1 : Int32} {res : Int32} (h : f_isActiveStay o_slotActive v1 = some res) : OEnds own_P 18 0 [.val (.ref 0), .val (.int v1)] [] (bk0 o_roomsOfType o_roomsAtLeast o_firstRoomOfType o_slotActive o_slotType o_slotArrive o_slotNights o_exactCount o_atLeastCount o_planRoom o_planGrid o_planOrder o_totalRooms o_activeStays o_planOrderLength o_planCurrent o_planUnplaced po) (some (.int res), (bk0 o_roomsOfType o_roomsAtLeast o_firstRoomOfType o_slotActive o_slotType o_slotArrive o_slotNights o_exactCount o_atLeastCount o_planRoom o_planGrid o_planOrder o_totalRooms o_activeStays o_planOrderLength o_planCurrent o_planUnplaced po), 0, 0) := by
  unfold f_isActiveStay at h
  refine OEnds.adv hm_18 1 (pc' := 1) (L' := [.val (.ref 0), .val (.int v1)]) (S' := [.int v1]) (H' := (bk0 o_roomsOfType o_roomsAtLeast o_firstRoomOfType o_slotActive o_slotType o_slotArrive o_slotNights o_exactCount o_atLeastCount o_planRoom o_planGrid o_planOrder o_totalRooms o_activeStays o_planOrderLength o_planCurrent o_planUnplaced po)) rfl ?_
  by_cases hc32 : v1 < (0 : Int32)
  · simp only [if_pos hc32] at h
    refine OEnds.ifT hm_18 rfl (q := 10) rfl ((tlt hc32).1) ?_
    refine OEnds.adv hm_18 1 (pc' := 11) (L' := [.val (.ref 0), .val (.int v1)]) (S' := [.int 0]) (H' := (bk0 o_roomsOfType o_roomsAtLeast o_firstRoomOfType o_slotActive o_slotType o_slotArrive o_slotNights o_exactCount o_atLeastCount o_planRoom o_planGrid o_planOrder o_totalRooms o_activeStays o_planOrderLength o_planCurrent o_planUnplaced po)) rfl ?_
    cases h
    exact OEnds.iret hm_18 rfl rfl
  · simp only [if_neg hc32] at h
    refine OEnds.ifF hm_18 rfl ((flt hc32).1) ?_
    refine OEnds.adv hm_18 2 (pc' := 7) (L' := [.val (.ref 0), .val (.int v1)]) (S' := [.int 32, .int v1]) (H' := (bk0 o_roomsOfType o_roomsAtLeast o_firstRoomOfType o_slotActive o_slotType o_slotArrive o_slotNights o_exactCount o_atLeastCount o_planRoom o_planGrid o_planOrder o_totalRooms o_activeStays o_planOrderLength o_planCurrent o_planUnplaced po)) rfl ?_
    by_cases hc33 : v1 < (32 : Int32)
    · simp only [if_pos hc33] at h
      refine OEnds.icmpT hm_18 rfl (q := 12) rfl ((tlt hc33).1) ?_
      refine OEnds.adv hm_18 3 (pc' := 17) (L' := [.val (.ref 0), .val (.int v1)]) (S' := [.int v1, .ref 4]) (H' := (bk0 o_roomsOfType o_roomsAtLeast o_firstRoomOfType o_slotActive o_slotType o_slotArrive o_slotNights o_exactCount o_atLeastCount o_planRoom o_planGrid o_planOrder o_totalRooms o_activeStays o_planOrderLength o_planCurrent o_planUnplaced po)) rfl ?_
      obtain ⟨x46, hx46, h⟩ := bnd h
      refine OEnds.plain hm_18 rfl rfl (x_baload rfl hx46) ?_
      show OEnds own_P 18 18 [.val (.ref 0), .val (.int v1)] [.int x46] (bk0 o_roomsOfType o_roomsAtLeast o_firstRoomOfType o_slotActive o_slotType o_slotArrive o_slotNights o_exactCount o_atLeastCount o_planRoom o_planGrid o_planOrder o_totalRooms o_activeStays o_planOrderLength o_planCurrent o_planUnplaced po) _
      cases h
      exact OEnds.iret hm_18 rfl rfl
    · simp only [if_neg hc33] at h
      refine OEnds.icmpF hm_18 rfl ((flt hc33).1) ?_
      refine OEnds.adv hm_18 1 (pc' := 11) (L' := [.val (.ref 0), .val (.int v1)]) (S' := [.int 0]) (H' := (bk0 o_roomsOfType o_roomsAtLeast o_firstRoomOfType o_slotActive o_slotType o_slotArrive o_slotNights o_exactCount o_atLeastCount o_planRoom o_planGrid o_planOrder o_totalRooms o_activeStays o_planOrderLength o_planCurrent o_planUnplaced po)) rfl ?_
      cases h
      exact OEnds.iret hm_18 rfl rfl
theorem ok_exclusion {o_roomsOfType : List Int32} {o_roomsAtLeast : List Int32} {o_firstRoomOfType : List Int32} {o_slotActive : List Int32} {o_slotType : List Int32} {o_slotArrive : List Int32} {o_slotNights : List Int32} {o_exactCount : List Int32} {o_atLeastCount : List Int32} {o_planRoom : List Int32} {o_planGrid : List Int32} {o_planOrder : List Int32} {o_totalRooms : Int32} {o_activeStays : Int32} {o_planOrderLength : Int32} {o_planCurrent : Int32} {o_planUnplaced : Int32} {po : List ACell} {v1 : Int32} {v2 : Int32} {v3 : Int32} {res : Int32} (h : f_exclusion o_slotActive o_slotType v1 v2 v3 = some res) : OEnds own_P 17 0 [.val (.ref 0), .val (.int v1), .val (.int v2), .val (.int v3)] [] (bk0 o_roomsOfType o_roomsAtLeast o_firstRoomOfType o_slotActive o_slotType o_slotArrive o_slotNights o_exactCount o_atLeastCount o_planRoom o_planGrid o_planOrder o_totalRooms o_activeStays o_planOrderLength o_planCurrent o_planUnplaced po) (some (.int res), (bk0 o_roomsOfType o_roomsAtLeast o_firstRoomOfType o_slotActive o_slotType o_slotArrive o_slotNights o_exactCount o_atLeastCount o_planRoom o_planGrid o_planOrder o_totalRooms o_activeStays o_planOrderLength o_planCurrent o_planUnplaced po), 0, 0) := by
  unfold f_exclusion at h
  refine OEnds.adv hm_17 2 (pc' := 2) (L' := [.val (.ref 0), .val (.int v1), .val (.int v2), .val (.int v3)]) (S' := [.int v1, .ref 0]) (H' := (bk0 o_roomsOfType o_roomsAtLeast o_firstRoomOfType o_slotActive o_slotType o_slotArrive o_slotNights o_exactCount o_atLeastCount o_planRoom o_planGrid o_planOrder o_totalRooms o_activeStays o_planOrderLength o_planCurrent o_planUnplaced po)) rfl ?_
  obtain ⟨r47, hq34, h⟩ := bnd h
  refine OEnds.call0 hm_17 rfl rfl (by decide) rfl (as := [.ref 0, .int v1]) (rest := []) rfl rfl (ok_isActiveStay hq34) ?_
  show OEnds own_P 17 5 [.val (.ref 0), .val (.int v1), .val (.int v2), .val (.int v3)] [.int r47] (bk0 o_roomsOfType o_roomsAtLeast o_firstRoomOfType o_slotActive o_slotType o_slotArrive o_slotNights o_exactCount o_atLeastCount o_planRoom o_planGrid o_planOrder o_totalRooms o_activeStays o_planOrderLength o_planCurrent o_planUnplaced po) _
  by_cases hc35 : r47 = (0 : Int32)
  · simp only [if_pos hc35] at h
    refine OEnds.ifF hm_17 rfl ((teq hc35).2) ?_
    refine OEnds.adv hm_17 1 (pc' := 9) (L' := [.val (.ref 0), .val (.int v1), .val (.int v2), .val (.int v3)]) (S' := [.int 0]) (H' := (bk0 o_roomsOfType o_roomsAtLeast o_firstRoomOfType o_slotActive o_slotType o_slotArrive o_slotNights o_exactCount o_atLeastCount o_planRoom o_planGrid o_planOrder o_totalRooms o_activeStays o_planOrderLength o_planCurrent o_planUnplaced po)) rfl ?_
    cases h
    exact OEnds.iret hm_17 rfl rfl
  · simp only [if_neg hc35] at h
    refine OEnds.ifT hm_17 rfl (q := 10) rfl ((feq hc35).2) ?_
    refine OEnds.adv hm_17 3 (pc' := 15) (L' := [.val (.ref 0), .val (.int v1), .val (.int v2), .val (.int v3)]) (S' := [.int v1, .ref 5]) (H' := (bk0 o_roomsOfType o_roomsAtLeast o_firstRoomOfType o_slotActive o_slotType o_slotArrive o_slotNights o_exactCount o_atLeastCount o_planRoom o_planGrid o_planOrder o_totalRooms o_activeStays o_planOrderLength o_planCurrent o_planUnplaced po)) rfl ?_
    obtain ⟨x48, hx48, h⟩ := bnd h
    refine OEnds.plain hm_17 rfl rfl (x_iaload rfl hx48) ?_
    refine OEnds.adv hm_17 1 (pc' := 17) (L' := [.val (.ref 0), .val (.int v1), .val (.int v2), .val (.int v3)]) (S' := [.int v2, .int x48]) (H' := (bk0 o_roomsOfType o_roomsAtLeast o_firstRoomOfType o_slotActive o_slotType o_slotArrive o_slotNights o_exactCount o_atLeastCount o_planRoom o_planGrid o_planOrder o_totalRooms o_activeStays o_planOrderLength o_planCurrent o_planUnplaced po)) rfl ?_
    by_cases hc36 : x48 < v2
    · simp only [if_pos hc36] at h
      refine OEnds.icmpF hm_17 rfl ((tlt hc36).2.1) ?_
      refine OEnds.adv hm_17 1 (pc' := 21) (L' := [.val (.ref 0), .val (.int v1), .val (.int v2), .val (.int v3)]) (S' := [.int 0]) (H' := (bk0 o_roomsOfType o_roomsAtLeast o_firstRoomOfType o_slotActive o_slotType o_slotArrive o_slotNights o_exactCount o_atLeastCount o_planRoom o_planGrid o_planOrder o_totalRooms o_activeStays o_planOrderLength o_planCurrent o_planUnplaced po)) rfl ?_
      cases h
      exact OEnds.iret hm_17 rfl rfl
    · simp only [if_neg hc36] at h
      refine OEnds.icmpT hm_17 rfl (q := 22) rfl ((flt hc36).2.1) ?_
      refine OEnds.adv hm_17 3 (pc' := 25) (L' := [.val (.ref 0), .val (.int v1), .val (.int v2), .val (.int v3)]) (S' := [.int v3, .int v1, .ref 0]) (H' := (bk0 o_roomsOfType o_roomsAtLeast o_firstRoomOfType o_slotActive o_slotType o_slotArrive o_slotNights o_exactCount o_atLeastCount o_planRoom o_planGrid o_planOrder o_totalRooms o_activeStays o_planOrderLength o_planCurrent o_planUnplaced po)) rfl ?_
      cases h
theorem ok_nightFits_3 {o_roomsOfType : List Int32} {o_roomsAtLeast : List Int32} {o_firstRoomOfType : List Int32} {o_slotActive : List Int32} {o_slotType : List Int32} {o_slotArrive : List Int32} {o_slotNights : List Int32} {o_exactCount : List Int32} {o_atLeastCount : List Int32} {o_planRoom : List Int32} {o_planGrid : List Int32} {o_planOrder : List Int32} {o_totalRooms : Int32} {o_activeStays : Int32} {o_planOrderLength : Int32} {o_planCurrent : Int32} {o_planUnplaced : Int32} {po : List ACell} : ∀ (n : Nat), ∀ {v1 : Int32} {v2 : Int32} {v3 : Int32} {v4 : Int32} {d5 d6 d7 : Slot} {res : Int32}, f_nightFits_3 o_roomsAtLeast o_slotActive o_slotType o_atLeastCount n v1 v2 v3 v4 = some res → OEnds own_P 14 3 [.val (.ref 0), .val (.int v1), .val (.int v2), .val (.int v3), .val (.int v4), d5, d6, d7] [] (bk0 o_roomsOfType o_roomsAtLeast o_firstRoomOfType o_slotActive o_slotType o_slotArrive o_slotNights o_exactCount o_atLeastCount o_planRoom o_planGrid o_planOrder o_totalRooms o_activeStays o_planOrderLength o_planCurrent o_planUnplaced po) (some (.int res), (bk0 o_roomsOfType o_roomsAtLeast o_firstRoomOfType o_slotActive o_slotType o_slotArrive o_slotNights o_exactCount o_atLeastCount o_planRoom o_planGrid o_planOrder o_totalRooms o_activeStays o_planOrderLength o_planCurrent o_planUnplaced po), 0, 0) := by
  intro n
  induction n with
  | zero => intro v1 v2 v3 v4 d5 d6 d7 res h; cases h
  | succ n ih =>
    intro v1 v2 v3 v4 d5 d6 d7 res h
    unfold f_nightFits_3 at h
    refine OEnds.adv hm_14 2 (pc' := 6) (L' := [.val (.ref 0), .val (.int v1), .val (.int v2), .val (.int v3), .val (.int v4), .unset, .unset, .unset]) (S' := [.int v2, .int v4]) (H' := (bk0 o_roomsOfType o_roomsAtLeast o_firstRoomOfType o_slotActive o_slotType o_slotArrive o_slotNights o_exactCount o_atLeastCount o_planRoom o_planGrid o_planOrder o_totalRooms o_activeStays o_planOrderLength o_planCurrent o_planUnplaced po)) rfl ?_
    by_cases hc37 : v2 < v4
    · simp only [if_pos hc37] at h
      refine OEnds.icmpT hm_14 rfl (q := 63) rfl ((tlt hc37).2.2.1) ?_
      refine OEnds.adv hm_14 1 (pc' := 64) (L' := [.val (.ref 0), .val (.int v1), .val (.int v2), .val (.int v3), .val (.int v4), .unset, .unset, .unset]) (S' := [.int 1]) (H' := (bk0 o_roomsOfType o_roomsAtLeast o_firstRoomOfType o_slotActive o_slotType o_slotArrive o_slotNights o_exactCount o_atLeastCount o_planRoom o_planGrid o_planOrder o_totalRooms o_activeStays o_planOrderLength o_planCurrent o_planUnplaced po)) rfl ?_
      cases h
      exact OEnds.iret hm_14 rfl rfl
    · simp only [if_neg hc37] at h
      refine OEnds.icmpF hm_14 rfl ((flt hc37).2.2.1) ?_
      refine OEnds.adv hm_14 2 (pc' := 12) (L' := [.val (.ref 0), .val (.int v1), .val (.int v2), .val (.int v3), .val (.int v4), .unset, .unset, .unset]) (S' := [.int 3, .int v4]) (H' := (bk0 o_roomsOfType o_roomsAtLeast o_firstRoomOfType o_slotActive o_slotType o_slotArrive o_slotNights o_exactCount o_atLeastCount o_planRoom o_planGrid o_planOrder o_totalRooms o_activeStays o_planOrderLength o_planCurrent o_planUnplaced po)) rfl ?_
      by_cases hc38 : v4 < (3 : Int32)
      · simp only [if_pos hc38] at h
        refine OEnds.icmpF hm_14 rfl ((tlt hc38).2.1) ?_
        refine OEnds.adv hm_14 3 (pc' := 19) (L' := [.val (.ref 0), .val (.int v1), .val (.int v2), .val (.int v3), .val (.int v4), .unset, .unset, .unset]) (S' := [.int v3, .int v4, .ref 0]) (H' := (bk0 o_roomsOfType o_roomsAtLeast o_firstRoomOfType o_slotActive o_slotType o_slotArrive o_slotNights o_exactCount o_atLeastCount o_planRoom o_planGrid o_planOrder o_totalRooms o_activeStays o_planOrderLength o_planCurrent o_planUnplaced po)) rfl ?_
        obtain ⟨r49, hq39, h⟩ := bnd h
        refine OEnds.call0 hm_14 rfl rfl (by decide) rfl (as := [.ref 0, .int v4, .int v3]) (rest := []) rfl rfl (ok_atLeastAt hq39) ?_
        refine OEnds.adv hm_14 5 (pc' := 29) (L' := [.val (.ref 0), .val (.int v1), .val (.int v2), .val (.int v3), .val (.int v4), .val (.int r49), .unset, .unset]) (S' := [.int v3, .int v4, .int v1, .ref 0]) (H' := (bk0 o_roomsOfType o_roomsAtLeast o_firstRoomOfType o_slotActive o_slotType o_slotArrive o_slotNights o_exactCount o_atLeastCount o_planRoom o_planGrid o_planOrder o_totalRooms o_activeStays o_planOrderLength o_planCurrent o_planUnplaced po)) rfl ?_
        obtain ⟨r50, hq40, h⟩ := bnd h
        refine OEnds.call0 hm_14 rfl rfl (by decide) rfl (as := [.ref 0, .int v1, .int v4, .int v3]) (rest := []) rfl rfl (ok_exclusion hq40) ?_
        refine OEnds.adv hm_14 11 (pc' := 51) (L' := [.val (.ref 0), .val (.int v1), .val (.int v2), .val (.int v3), .val (.int v4), .val (.int r49), .val (.int r50), .val (.int ((r49 - r50) + (1 : Int32)))]) (S' := [.int v4, .ref 2, .int ((r49 - r50) + (1 : Int32))]) (H' := (bk0 o_roomsOfType o_roomsAtLeast o_firstRoomOfType o_slotActive o_slotType o_slotArrive o_slotNights o_exactCount o_atLeastCount o_planRoom o_planGrid o_planOrder o_totalRooms o_activeStays o_planOrderLength o_planCurrent o_planUnplaced po)) rfl ?_
        obtain ⟨x51, hx51, h⟩ := bnd h
        refine OEnds.plain hm_14 rfl rfl (x_iaload rfl hx51) ?_
        show OEnds own_P 14 52 [.val (.ref 0), .val (.int v1), .val (.int v2), .val (.int v3), .val (.int v4), .val (.int r49), .val (.int r50), .val (.int ((r49 - r50) + (1 : Int32)))] [.int x51, .int ((r49 - r50) + (1 : Int32))] (bk0 o_roomsOfType o_roomsAtLeast o_firstRoomOfType o_slotActive o_slotType o_slotArrive o_slotNights o_exactCount o_atLeastCount o_planRoom o_planGrid o_planOrder o_totalRooms o_activeStays o_planOrderLength o_planCurrent o_planUnplaced po) _
        by_cases hc41 : x51 < ((r49 - r50) + (1 : Int32))
        · simp only [if_pos hc41] at h
          refine OEnds.icmpF hm_14 rfl ((tlt hc41).2.2.2) ?_
          refine OEnds.adv hm_14 1 (pc' := 56) (L' := [.val (.ref 0), .val (.int v1), .val (.int v2), .val (.int v3), .val (.int v4), .val (.int r49), .val (.int r50), .val (.int ((r49 - r50) + (1 : Int32)))]) (S' := [.int 0]) (H' := (bk0 o_roomsOfType o_roomsAtLeast o_firstRoomOfType o_slotActive o_slotType o_slotArrive o_slotNights o_exactCount o_atLeastCount o_planRoom o_planGrid o_planOrder o_totalRooms o_activeStays o_planOrderLength o_planCurrent o_planUnplaced po)) rfl ?_
          cases h
          exact OEnds.iret hm_14 rfl rfl
        · simp only [if_neg hc41] at h
          refine OEnds.icmpT hm_14 rfl (q := 57) rfl ((flt hc41).2.2.2) ?_
          refine OEnds.adv hm_14 2 (pc' := 3) (L' := [.val (.ref 0), .val (.int v1), .val (.int v2), .val (.int v3), .val (.int (v4 + (1 : Int32))), .val (.int r49), .val (.int r50), .val (.int ((r49 - r50) + (1 : Int32)))]) (S' := []) (H' := (bk0 o_roomsOfType o_roomsAtLeast o_firstRoomOfType o_slotActive o_slotType o_slotArrive o_slotNights o_exactCount o_atLeastCount o_planRoom o_planGrid o_planOrder o_totalRooms o_activeStays o_planOrderLength o_planCurrent o_planUnplaced po)) rfl ?_
          exact ih h
      · simp only [if_neg hc38] at h
        refine OEnds.icmpT hm_14 rfl (q := 63) rfl ((flt hc38).2.1) ?_
        refine OEnds.adv hm_14 1 (pc' := 64) (L' := [.val (.ref 0), .val (.int v1), .val (.int v2), .val (.int v3), .val (.int v4), .unset, .unset, .unset]) (S' := [.int 1]) (H' := (bk0 o_roomsOfType o_roomsAtLeast o_firstRoomOfType o_slotActive o_slotType o_slotArrive o_slotNights o_exactCount o_atLeastCount o_planRoom o_planGrid o_planOrder o_totalRooms o_activeStays o_planOrderLength o_planCurrent o_planUnplaced po)) rfl ?_
        cases h
        exact OEnds.iret hm_14 rfl rfl
theorem ok_nightFits {o_roomsOfType : List Int32} {o_roomsAtLeast : List Int32} {o_firstRoomOfType : List Int32} {o_slotActive : List Int32} {o_slotType : List Int32} {o_slotArrive : List Int32} {o_slotNights : List Int32} {o_exactCount : List Int32} {o_atLeastCount : List Int32} {o_planRoom : List Int32} {o_planGrid : List Int32} {o_planOrder : List Int32} {o_totalRooms : Int32} {o_activeStays : Int32} {o_planOrderLength : Int32} {o_planCurrent : Int32} {o_planUnplaced : Int32} {po : List ACell} {v1 : Int32} {v2 : Int32} {v3 : Int32} {res : Int32} (h : f_nightFits o_roomsAtLeast o_slotActive o_slotType o_atLeastCount v1 v2 v3 = some res) : OEnds own_P 14 0 [.val (.ref 0), .val (.int v1), .val (.int v2), .val (.int v3), .unset, .unset, .unset, .unset] [] (bk0 o_roomsOfType o_roomsAtLeast o_firstRoomOfType o_slotActive o_slotType o_slotArrive o_slotNights o_exactCount o_atLeastCount o_planRoom o_planGrid o_planOrder o_totalRooms o_activeStays o_planOrderLength o_planCurrent o_planUnplaced po) (some (.int res), (bk0 o_roomsOfType o_roomsAtLeast o_firstRoomOfType o_slotActive o_slotType o_slotArrive o_slotNights o_exactCount o_atLeastCount o_planRoom o_planGrid o_planOrder o_totalRooms o_activeStays o_planOrderLength o_planCurrent o_planUnplaced po), 0, 0) := by
  unfold f_nightFits at h
  refine OEnds.adv hm_14 2 (pc' := 3) (L' := [.val (.ref 0), .val (.int v1), .val (.int v2), .val (.int v3), .val (.int 0), .unset, .unset, .unset]) (S' := []) (H' := (bk0 o_roomsOfType o_roomsAtLeast o_firstRoomOfType o_slotActive o_slotType o_slotArrive o_slotNights o_exactCount o_atLeastCount o_planRoom o_planGrid o_planOrder o_totalRooms o_activeStays o_planOrderLength o_planCurrent o_planUnplaced po)) rfl ?_
  exact ok_nightFits_3 100000 h
theorem ok_fitsWith_12 {o_roomsOfType : List Int32} {o_roomsAtLeast : List Int32} {o_firstRoomOfType : List Int32} {o_slotActive : List Int32} {o_slotType : List Int32} {o_slotArrive : List Int32} {o_slotNights : List Int32} {o_exactCount : List Int32} {o_atLeastCount : List Int32} {o_planRoom : List Int32} {o_planGrid : List Int32} {o_planOrder : List Int32} {o_totalRooms : Int32} {o_activeStays : Int32} {o_planOrderLength : Int32} {o_planCurrent : Int32} {o_planUnplaced : Int32} {po : List ACell} : ∀ (n : Nat), ∀ {v1 : Int32} {v2 : Int32} {v5 : Int32} {v6 : Int32} {d3 d4 : Slot} {res : Int32}, f_fitsWith_12 o_roomsAtLeast o_slotActive o_slotType o_atLeastCount n v1 v2 v5 v6 = some res → OEnds own_P 12 12 [.val (.ref 0), .val (.int v1), .val (.int v2), d3, d4, .val (.int v5), .val (.int v6)] [] (bk0 o_roomsOfType o_roomsAtLeast o_firstRoomOfType o_slotActive o_slotType o_slotArrive o_slotNights o_exactCount o_atLeastCount o_planRoom o_planGrid o_planOrder o_totalRooms o_activeStays o_planOrderLength o_planCurrent o_planUnplaced po) (some (.int res), (bk0 o_roomsOfType o_roomsAtLeast o_firstRoomOfType o_slotActive o_slotType o_slotArrive o_slotNights o_exactCount o_atLeastCount o_planRoom o_planGrid o_planOrder o_totalRooms o_activeStays o_planOrderLength o_planCurrent o_planUnplaced po), 0, 0) := by
  intro n
  induction n with
  | zero => intro v1 v2 v5 v6 d3 d4 res h; cases h
  | succ n ih =>
    intro v1 v2 v5 v6 d3 d4 res h
    unfold f_fitsWith_12 at h
    refine OEnds.adv hm_12 1 (pc' := 14) (L' := [.val (.ref 0), .val (.int v1), .val (.int v2), .unset, .unset, .val (.int v5), .val (.int v6)]) (S' := [.int v6]) (H' := (bk0 o_roomsOfType o_roomsAtLeast o_firstRoomOfType o_slotActive o_slotType o_slotArrive o_slotNights o_exactCount o_atLeastCount o_planRoom o_planGrid o_planOrder o_totalRooms o_activeStays o_planOrderLength o_planCurrent o_planUnplaced po)) rfl ?_
    by_cases hc42 : v6 < (0 : Int32)
    · simp only [if_pos hc42] at h
      refine OEnds.ifT hm_12 rfl (q := 43) rfl ((tlt hc42).1) ?_
      refine OEnds.adv hm_12 1 (pc' := 44) (L' := [.val (.ref 0), .val (.int v1), .val (.int v2), .unset, .unset, .val (.int v5), .val (.int v6)]) (S' := [.int 1]) (H' := (bk0 o_roomsOfType o_roomsAtLeast o_firstRoomOfType o_slotActive o_slotType o_slotArrive o_slotNights o_exactCount o_atLeastCount o_planRoom o_planGrid o_planOrder o_totalRooms o_activeStays o_planOrderLength o_planCurrent o_planUnplaced po)) rfl ?_
      cases h
      exact OEnds.iret hm_12 rfl rfl
    · simp only [if_neg hc42] at h
      refine OEnds.ifF hm_12 rfl ((flt hc42).1) ?_
      refine OEnds.adv hm_12 2 (pc' := 21) (L' := [.val (.ref 0), .val (.int v1), .val (.int v2), .unset, .unset, .val (.int v5), .val (.int v6)]) (S' := [.int v5, .int v6]) (H' := (bk0 o_roomsOfType o_roomsAtLeast o_firstRoomOfType o_slotActive o_slotType o_slotArrive o_slotNights o_exactCount o_atLeastCount o_planRoom o_planGrid o_planOrder o_totalRooms o_activeStays o_planOrderLength o_planCurrent o_planUnplaced po)) rfl ?_
      by_cases hc43 : v6 < v5
      · simp only [if_pos hc43] at h
        refine OEnds.icmpF hm_12 rfl ((tlt hc43).2.1) ?_
        refine OEnds.adv hm_12 4 (pc' := 29) (L' := [.val (.ref 0), .val (.int v1), .val (.int v2), .unset, .unset, .val (.int v5), .val (.int v6)]) (S' := [.int v6, .int v2, .int v1, .ref 0]) (H' := (bk0 o_roomsOfType o_roomsAtLeast o_firstRoomOfType o_slotActive o_slotType o_slotArrive o_slotNights o_exactCount o_atLeastCount o_planRoom o_planGrid o_planOrder o_totalRooms o_activeStays o_planOrderLength o_planCurrent o_planUnplaced po)) rfl ?_
        obtain ⟨r53, hq44, h⟩ := bnd h
        refine OEnds.call0 hm_12 rfl rfl (by decide) rfl (as := [.ref 0, .int v1, .int v2, .int v6]) (rest := []) rfl rfl (ok_nightFits hq44) ?_
        show OEnds own_P 12 32 [.val (.ref 0), .val (.int v1), .val (.int v2), .unset, .unset, .val (.int v5), .val (.int v6)] [.int r53] (bk0 o_roomsOfType o_roomsAtLeast o_firstRoomOfType o_slotActive o_slotType o_slotArrive o_slotNights o_exactCount o_atLeastCount o_planRoom o_planGrid o_planOrder o_totalRooms o_activeStays o_planOrderLength o_planCurrent o_planUnplaced po) _
        by_cases hc45 : r53 = (0 : Int32)
        · simp only [if_pos hc45] at h
          refine OEnds.ifF hm_12 rfl ((teq hc45).2) ?_
          refine OEnds.adv hm_12 1 (pc' := 36) (L' := [.val (.ref 0), .val (.int v1), .val (.int v2), .unset, .unset, .val (.int v5), .val (.int v6)]) (S' := [.int 0]) (H' := (bk0 o_roomsOfType o_roomsAtLeast o_firstRoomOfType o_slotActive o_slotType o_slotArrive o_slotNights o_exactCount o_atLeastCount o_planRoom o_planGrid o_planOrder o_totalRooms o_activeStays o_planOrderLength o_planCurrent o_planUnplaced po)) rfl ?_
          cases h
          exact OEnds.iret hm_12 rfl rfl
        · simp only [if_neg hc45] at h
          refine OEnds.ifT hm_12 rfl (q := 37) rfl ((feq hc45).2) ?_
          refine OEnds.adv hm_12 2 (pc' := 12) (L' := [.val (.ref 0), .val (.int v1), .val (.int v2), .unset, .unset, .val (.int v5), .val (.int (v6 + (1 : Int32)))]) (S' := []) (H' := (bk0 o_roomsOfType o_roomsAtLeast o_firstRoomOfType o_slotActive o_slotType o_slotArrive o_slotNights o_exactCount o_atLeastCount o_planRoom o_planGrid o_planOrder o_totalRooms o_activeStays o_planOrderLength o_planCurrent o_planUnplaced po)) rfl ?_
          exact ih h
      · simp only [if_neg hc43] at h
        refine OEnds.icmpT hm_12 rfl (q := 43) rfl ((flt hc43).2.1) ?_
        refine OEnds.adv hm_12 1 (pc' := 44) (L' := [.val (.ref 0), .val (.int v1), .val (.int v2), .unset, .unset, .val (.int v5), .val (.int v6)]) (S' := [.int 1]) (H' := (bk0 o_roomsOfType o_roomsAtLeast o_firstRoomOfType o_slotActive o_slotType o_slotArrive o_slotNights o_exactCount o_atLeastCount o_planRoom o_planGrid o_planOrder o_totalRooms o_activeStays o_planOrderLength o_planCurrent o_planUnplaced po)) rfl ?_
        cases h
        exact OEnds.iret hm_12 rfl rfl
theorem ok_fitsWith {o_roomsOfType : List Int32} {o_roomsAtLeast : List Int32} {o_firstRoomOfType : List Int32} {o_slotActive : List Int32} {o_slotType : List Int32} {o_slotArrive : List Int32} {o_slotNights : List Int32} {o_exactCount : List Int32} {o_atLeastCount : List Int32} {o_planRoom : List Int32} {o_planGrid : List Int32} {o_planOrder : List Int32} {o_totalRooms : Int32} {o_activeStays : Int32} {o_planOrderLength : Int32} {o_planCurrent : Int32} {o_planUnplaced : Int32} {po : List ACell} {v1 : Int32} {v2 : Int32} {v3 : Int32} {v4 : Int32} {res : Int32} (h : f_fitsWith o_roomsAtLeast o_slotActive o_slotType o_atLeastCount v1 v2 v3 v4 = some res) : OEnds own_P 12 0 [.val (.ref 0), .val (.int v1), .val (.int v2), .val (.int v3), .val (.int v4), .unset, .unset] [] (bk0 o_roomsOfType o_roomsAtLeast o_firstRoomOfType o_slotActive o_slotType o_slotArrive o_slotNights o_exactCount o_atLeastCount o_planRoom o_planGrid o_planOrder o_totalRooms o_activeStays o_planOrderLength o_planCurrent o_planUnplaced po) (some (.int res), (bk0 o_roomsOfType o_roomsAtLeast o_firstRoomOfType o_slotActive o_slotType o_slotArrive o_slotNights o_exactCount o_atLeastCount o_planRoom o_planGrid o_planOrder o_totalRooms o_activeStays o_planOrderLength o_planCurrent o_planUnplaced po), 0, 0) := by
  unfold f_fitsWith at h
  refine OEnds.adv hm_12 3 (pc' := 4) (L' := [.val (.ref 0), .val (.int v1), .val (.int v2), .val (.int v3), .val (.int v4), .unset, .unset]) (S' := [.int v4, .int v3, .ref 0]) (H' := (bk0 o_roomsOfType o_roomsAtLeast o_firstRoomOfType o_slotActive o_slotType o_slotArrive o_slotNights o_exactCount o_atLeastCount o_planRoom o_planGrid o_planOrder o_totalRooms o_activeStays o_planOrderLength o_planCurrent o_planUnplaced po)) rfl ?_
  obtain ⟨r52, hq46, h⟩ := bnd h
  refine OEnds.call0 hm_12 rfl rfl (by decide) rfl (as := [.ref 0, .int v3, .int v4]) (rest := []) rfl rfl (ok_endOf hq46) ?_
  refine OEnds.adv hm_12 3 (pc' := 12) (L' := [.val (.ref 0), .val (.int v1), .val (.int v2), .val (.int v3), .val (.int v4), .val (.int r52), .val (.int v3)]) (S' := []) (H' := (bk0 o_roomsOfType o_roomsAtLeast o_firstRoomOfType o_slotActive o_slotType o_slotArrive o_slotNights o_exactCount o_atLeastCount o_planRoom o_planGrid o_planOrder o_totalRooms o_activeStays o_planOrderLength o_planCurrent o_planUnplaced po)) rfl ?_
  exact ok_fitsWith_12 100000 h
theorem ok_lowestInactiveSlot_2 {o_roomsOfType : List Int32} {o_roomsAtLeast : List Int32} {o_firstRoomOfType : List Int32} {o_slotActive : List Int32} {o_slotType : List Int32} {o_slotArrive : List Int32} {o_slotNights : List Int32} {o_exactCount : List Int32} {o_atLeastCount : List Int32} {o_planRoom : List Int32} {o_planGrid : List Int32} {o_planOrder : List Int32} {o_totalRooms : Int32} {o_activeStays : Int32} {o_planOrderLength : Int32} {o_planCurrent : Int32} {o_planUnplaced : Int32} {po : List ACell} : ∀ (n : Nat), ∀ {v1 : Int32} {res : Int32}, f_lowestInactiveSlot_2 o_slotActive n v1 = some res → OEnds own_P 19 2 [.val (.ref 0), .val (.int v1)] [] (bk0 o_roomsOfType o_roomsAtLeast o_firstRoomOfType o_slotActive o_slotType o_slotArrive o_slotNights o_exactCount o_atLeastCount o_planRoom o_planGrid o_planOrder o_totalRooms o_activeStays o_planOrderLength o_planCurrent o_planUnplaced po) (some (.int res), (bk0 o_roomsOfType o_roomsAtLeast o_firstRoomOfType o_slotActive o_slotType o_slotArrive o_slotNights o_exactCount o_atLeastCount o_planRoom o_planGrid o_planOrder o_totalRooms o_activeStays o_planOrderLength o_planCurrent o_planUnplaced po), 0, 0) := by
  intro n
  induction n with
  | zero => intro v1 res h; cases h
  | succ n ih =>
    intro v1 res h
    unfold f_lowestInactiveSlot_2 at h
    refine OEnds.adv hm_19 2 (pc' := 5) (L' := [.val (.ref 0), .val (.int v1)]) (S' := [.int 32, .int v1]) (H' := (bk0 o_roomsOfType o_roomsAtLeast o_firstRoomOfType o_slotActive o_slotType o_slotArrive o_slotNights o_exactCount o_atLeastCount o_planRoom o_planGrid o_planOrder o_totalRooms o_activeStays o_planOrderLength o_planCurrent o_planUnplaced po)) rfl ?_
    by_cases hc47 : v1 < (32 : Int32)
    · simp only [if_pos hc47] at h
      refine OEnds.icmpF hm_19 rfl ((tlt hc47).2.1) ?_
      refine OEnds.adv hm_19 3 (pc' := 13) (L' := [.val (.ref 0), .val (.int v1)]) (S' := [.int v1, .ref 4]) (H' := (bk0 o_roomsOfType o_roomsAtLeast o_firstRoomOfType o_slotActive o_slotType o_slotArrive o_slotNights o_exactCount o_atLeastCount o_planRoom o_planGrid o_planOrder o_totalRooms o_activeStays o_planOrderLength o_planCurrent o_planUnplaced po)) rfl ?_
      obtain ⟨x54, hx54, h⟩ := bnd h
      refine OEnds.plain hm_19 rfl rfl (x_baload rfl hx54) ?_
      show OEnds own_P 19 14 [.val (.ref 0), .val (.int v1)] [.int x54] (bk0 o_roomsOfType o_roomsAtLeast o_firstRoomOfType o_slotActive o_slotType o_slotArrive o_slotNights o_exactCount o_atLeastCount o_planRoom o_planGrid o_planOrder o_totalRooms o_activeStays o_planOrderLength o_planCurrent o_planUnplaced po) _
      by_cases hc48 : x54 = (0 : Int32)
      · simp only [if_pos hc48] at h
        refine OEnds.ifF hm_19 rfl ((teq hc48).2) ?_
        refine OEnds.adv hm_19 1 (pc' := 18) (L' := [.val (.ref 0), .val (.int v1)]) (S' := [.int v1]) (H' := (bk0 o_roomsOfType o_roomsAtLeast o_firstRoomOfType o_slotActive o_slotType o_slotArrive o_slotNights o_exactCount o_atLeastCount o_planRoom o_planGrid o_planOrder o_totalRooms o_activeStays o_planOrderLength o_planCurrent o_planUnplaced po)) rfl ?_
        cases h
        exact OEnds.iret hm_19 rfl rfl
      · simp only [if_neg hc48] at h
        refine OEnds.ifT hm_19 rfl (q := 19) rfl ((feq hc48).2) ?_
        refine OEnds.adv hm_19 2 (pc' := 2) (L' := [.val (.ref 0), .val (.int (v1 + (1 : Int32)))]) (S' := []) (H' := (bk0 o_roomsOfType o_roomsAtLeast o_firstRoomOfType o_slotActive o_slotType o_slotArrive o_slotNights o_exactCount o_atLeastCount o_planRoom o_planGrid o_planOrder o_totalRooms o_activeStays o_planOrderLength o_planCurrent o_planUnplaced po)) rfl ?_
        exact ih h
    · simp only [if_neg hc47] at h
      refine OEnds.icmpT hm_19 rfl (q := 25) rfl ((flt hc47).2.1) ?_
      refine OEnds.adv hm_19 1 (pc' := 26) (L' := [.val (.ref 0), .val (.int v1)]) (S' := [.int (-1)]) (H' := (bk0 o_roomsOfType o_roomsAtLeast o_firstRoomOfType o_slotActive o_slotType o_slotArrive o_slotNights o_exactCount o_atLeastCount o_planRoom o_planGrid o_planOrder o_totalRooms o_activeStays o_planOrderLength o_planCurrent o_planUnplaced po)) rfl ?_
      cases h
      exact OEnds.iret hm_19 rfl rfl
theorem ok_lowestInactiveSlot {o_roomsOfType : List Int32} {o_roomsAtLeast : List Int32} {o_firstRoomOfType : List Int32} {o_slotActive : List Int32} {o_slotType : List Int32} {o_slotArrive : List Int32} {o_slotNights : List Int32} {o_exactCount : List Int32} {o_atLeastCount : List Int32} {o_planRoom : List Int32} {o_planGrid : List Int32} {o_planOrder : List Int32} {o_totalRooms : Int32} {o_activeStays : Int32} {o_planOrderLength : Int32} {o_planCurrent : Int32} {o_planUnplaced : Int32} {po : List ACell} {res : Int32} (h : f_lowestInactiveSlot o_slotActive = some res) : OEnds own_P 19 0 [.val (.ref 0), .unset] [] (bk0 o_roomsOfType o_roomsAtLeast o_firstRoomOfType o_slotActive o_slotType o_slotArrive o_slotNights o_exactCount o_atLeastCount o_planRoom o_planGrid o_planOrder o_totalRooms o_activeStays o_planOrderLength o_planCurrent o_planUnplaced po) (some (.int res), (bk0 o_roomsOfType o_roomsAtLeast o_firstRoomOfType o_slotActive o_slotType o_slotArrive o_slotNights o_exactCount o_atLeastCount o_planRoom o_planGrid o_planOrder o_totalRooms o_activeStays o_planOrderLength o_planCurrent o_planUnplaced po), 0, 0) := by
  unfold f_lowestInactiveSlot at h
  refine OEnds.adv hm_19 2 (pc' := 2) (L' := [.val (.ref 0), .val (.int 0)]) (S' := []) (H' := (bk0 o_roomsOfType o_roomsAtLeast o_firstRoomOfType o_slotActive o_slotType o_slotArrive o_slotNights o_exactCount o_atLeastCount o_planRoom o_planGrid o_planOrder o_totalRooms o_activeStays o_planOrderLength o_planCurrent o_planUnplaced po)) rfl ?_
  exact ok_lowestInactiveSlot_2 100000 h
theorem ok_storeStay {o_roomsOfType : List Int32} {o_roomsAtLeast : List Int32} {o_firstRoomOfType : List Int32} {o_slotActive : List Int32} {o_exactCount : List Int32} {o_atLeastCount : List Int32} {o_planRoom : List Int32} {o_planGrid : List Int32} {o_planOrder : List Int32} {o_totalRooms : Int32} {o_activeStays : Int32} {o_planOrderLength : Int32} {o_planCurrent : Int32} {o_planUnplaced : Int32} {po : List ACell} {o_slotType : List Int32} {o_slotArrive : List Int32} {o_slotNights : List Int32} {v1 : Int32} {v2 : Int32} {v3 : Int32} {v4 : Int32} {w_o_slotType : List Int32} {w_o_slotArrive : List Int32} {w_o_slotNights : List Int32} (h : f_storeStay o_slotType o_slotArrive o_slotNights v1 v2 v3 v4 = some (w_o_slotType, w_o_slotArrive, w_o_slotNights)) : OEnds own_P 21 0 [.val (.ref 0), .val (.int v1), .val (.int v2), .val (.int v3), .val (.int v4)] [] (bk0 o_roomsOfType o_roomsAtLeast o_firstRoomOfType o_slotActive o_slotType o_slotArrive o_slotNights o_exactCount o_atLeastCount o_planRoom o_planGrid o_planOrder o_totalRooms o_activeStays o_planOrderLength o_planCurrent o_planUnplaced po) (none, (bk0 o_roomsOfType o_roomsAtLeast o_firstRoomOfType o_slotActive w_o_slotType w_o_slotArrive w_o_slotNights o_exactCount o_atLeastCount o_planRoom o_planGrid o_planOrder o_totalRooms o_activeStays o_planOrderLength o_planCurrent o_planUnplaced po), 0, 0) := by
  unfold f_storeStay at h
  refine OEnds.adv hm_21 4 (pc' := 6) (L' := [.val (.ref 0), .val (.int v1), .val (.int v2), .val (.int v3), .val (.int v4)]) (S' := [.int v2, .int v1, .ref 5]) (H' := (bk0 o_roomsOfType o_roomsAtLeast o_firstRoomOfType o_slotActive o_slotType o_slotArrive o_slotNights o_exactCount o_atLeastCount o_planRoom o_planGrid o_planOrder o_totalRooms o_activeStays o_planOrderLength o_planCurrent o_planUnplaced po)) rfl ?_
  obtain ⟨A55, hA55, h⟩ := bnd h
  refine OEnds.plain hm_21 rfl rfl (x_iastore rfl (Nat.le_of_ble_eq_true rfl) hA55) ?_
  refine OEnds.adv hm_21 4 (pc' := 13) (L' := [.val (.ref 0), .val (.int v1), .val (.int v2), .val (.int v3), .val (.int v4)]) (S' := [.int v3, .int v1, .ref 6]) (H' := (bk0 o_roomsOfType o_roomsAtLeast o_firstRoomOfType o_slotActive A55 o_slotArrive o_slotNights o_exactCount o_atLeastCount o_planRoom o_planGrid o_planOrder o_totalRooms o_activeStays o_planOrderLength o_planCurrent o_planUnplaced po)) rfl ?_
  obtain ⟨A56, hA56, h⟩ := bnd h
  refine OEnds.plain hm_21 rfl rfl (x_iastore rfl (Nat.le_of_ble_eq_true rfl) hA56) ?_
  refine OEnds.adv hm_21 4 (pc' := 21) (L' := [.val (.ref 0), .val (.int v1), .val (.int v2), .val (.int v3), .val (.int v4)]) (S' := [.int v4, .int v1, .ref 7]) (H' := (bk0 o_roomsOfType o_roomsAtLeast o_firstRoomOfType o_slotActive A55 A56 o_slotNights o_exactCount o_atLeastCount o_planRoom o_planGrid o_planOrder o_totalRooms o_activeStays o_planOrderLength o_planCurrent o_planUnplaced po)) rfl ?_
  obtain ⟨A57, hA57, h⟩ := bnd h
  refine OEnds.plain hm_21 rfl rfl (x_iastore rfl (Nat.le_of_ble_eq_true rfl) hA57) ?_
  show OEnds own_P 21 22 [.val (.ref 0), .val (.int v1), .val (.int v2), .val (.int v3), .val (.int v4)] [] (bk0 o_roomsOfType o_roomsAtLeast o_firstRoomOfType o_slotActive A55 A56 A57 o_exactCount o_atLeastCount o_planRoom o_planGrid o_planOrder o_totalRooms o_activeStays o_planOrderLength o_planCurrent o_planUnplaced po) _
  cases h
  exact OEnds.vret hm_21 rfl rfl
theorem ok_adjustCoverage_84 {o_roomsOfType : List Int32} {o_roomsAtLeast : List Int32} {o_firstRoomOfType : List Int32} {o_slotActive : List Int32} {o_slotType : List Int32} {o_slotArrive : List Int32} {o_slotNights : List Int32} {o_planRoom : List Int32} {o_planGrid : List Int32} {o_planOrder : List Int32} {o_totalRooms : Int32} {o_activeStays : Int32} {o_planOrderLength : Int32} {o_planCurrent : Int32} {o_planUnplaced : Int32} {po : List ACell} {k53 : List Int32 → List Int32 → Int32 → Int32 → Int32 → Int32 → Option (List Int32 × List Int32)} (hk53 : ∀ {o_exactCount : List Int32} {o_atLeastCount : List Int32} {v2 : Int32} {v3 : Int32} {v5 : Int32} {v6 : Int32} {d1 d4 d7 : Slot} {w_o_exactCount : List Int32} {w_o_atLeastCount : List Int32}, k53 o_exactCount o_atLeastCount v2 v3 v5 v6 = some (w_o_exactCount, w_o_atLeastCount) → OEnds own_P 22 53 [.val (.ref 0), d1, .val (.int v2), .val (.int v3), d4, .val (.int v5), .val (.int v6), d7] [] (bk0 o_roomsOfType o_roomsAtLeast o_firstRoomOfType o_slotActive o_slotType o_slotArrive o_slotNights o_exactCount o_atLeastCount o_planRoom o_planGrid o_planOrder o_totalRooms o_activeStays o_planOrderLength o_planCurrent o_planUnplaced po) (none, (bk0 o_roomsOfType o_roomsAtLeast o_firstRoomOfType o_slotActive o_slotType o_slotArrive o_slotNights w_o_exactCount w_o_atLeastCount o_planRoom o_planGrid o_planOrder o_totalRooms o_activeStays o_planOrderLength o_planCurrent o_planUnplaced po), 0, 0)) : ∀ (n : Nat), ∀ {o_exactCount : List Int32} {o_atLeastCount : List Int32} {v2 : Int32} {v3 : Int32} {v5 : Int32} {v6 : Int32} {v7 : Int32} {d1 d4 : Slot} {w_o_exactCount : List Int32} {w_o_atLeastCount : List Int32}, f_adjustCoverage_84 k53 o_slotType o_slotArrive o_slotNights n o_exactCount o_atLeastCount v2 v3 v5 v6 v7 = some (w_o_exactCount, w_o_atLeastCount) → OEnds own_P 22 84 [.val (.ref 0), d1, .val (.int v2), .val (.int v3), d4, .val (.int v5), .val (.int v6), .val (.int v7)] [] (bk0 o_roomsOfType o_roomsAtLeast o_firstRoomOfType o_slotActive o_slotType o_slotArrive o_slotNights o_exactCount o_atLeastCount o_planRoom o_planGrid o_planOrder o_totalRooms o_activeStays o_planOrderLength o_planCurrent o_planUnplaced po) (none, (bk0 o_roomsOfType o_roomsAtLeast o_firstRoomOfType o_slotActive o_slotType o_slotArrive o_slotNights w_o_exactCount w_o_atLeastCount o_planRoom o_planGrid o_planOrder o_totalRooms o_activeStays o_planOrderLength o_planCurrent o_planUnplaced po), 0, 0) := by
  intro n
  induction n with
  | zero => intro o_exactCount o_atLeastCount v2 v3 v5 v6 v7 d1 d4 w_o_exactCount w_o_atLeastCount h; cases h
  | succ n ih =>
    intro o_exactCount o_atLeastCount v2 v3 v5 v6 v7 d1 d4 w_o_exactCount w_o_atLeastCount h
    unfold f_adjustCoverage_84 at h
    refine OEnds.adv hm_22 2 (pc' := 87) (L' := [.val (.ref 0), .unset, .val (.int v2), .val (.int v3), .unset, .val (.int v5), .val (.int v6), .val (.int v7)]) (S' := [.int v3, .int v7]) (H' := (bk0 o_roomsOfType o_roomsAtLeast o_firstRoomOfType o_slotActive o_slotType o_slotArrive o_slotNights o_exactCount o_atLeastCount o_planRoom o_planGrid o_planOrder o_totalRooms o_activeStays o_planOrderLength o_planCurrent o_planUnplaced po)) rfl ?_
    by_cases hc49 : v3 < v7
    · simp only [if_pos hc49] at h
      refine OEnds.icmpT hm_22 rfl (q := 113) rfl ((tlt hc49).2.2.1) ?_
      refine OEnds.adv hm_22 2 (pc' := 53) (L' := [.val (.ref 0), .unset, .val (.int v2), .val (.int v3), .unset, .val (.int v5), .val (.int (v6 + (1 : Int32))), .val (.int v7)]) (S' := []) (H' := (bk0 o_roomsOfType o_roomsAtLeast o_firstRoomOfType o_slotActive o_slotType o_slotArrive o_slotNights o_exactCount o_atLeastCount o_planRoom o_planGrid o_planOrder o_totalRooms o_activeStays o_planOrderLength o_planCurrent o_planUnplaced po)) rfl ?_
      exact hk53 h
    · simp only [if_neg hc49] at h
      refine OEnds.icmpF hm_22 rfl ((flt hc49).2.2.1) ?_
      refine OEnds.adv hm_22 5 (pc' := 99) (L' := [.val (.ref 0), .unset, .val (.int v2), .val (.int v3), .unset, .val (.int v5), .val (.int v6), .val (.int v7)]) (S' := [.int v6, .int v7, .ref 0, .ref 9]) (H' := (bk0 o_roomsOfType o_roomsAtLeast o_firstRoomOfType o_slotActive o_slotType o_slotArrive o_slotNights o_exactCount o_atLeastCount o_planRoom o_planGrid o_planOrder o_totalRooms o_activeStays o_planOrderLength o_planCurrent o_planUnplaced po)) rfl ?_
      obtain ⟨r66, hq50, h⟩ := bnd h
      refine OEnds.call0 hm_22 rfl rfl (by decide) rfl (as := [.ref 0, .int v7, .int v6]) (rest := [.ref 9]) rfl rfl (ok_countIndex hq50) ?_
      refine OEnds.adv hm_22 1 (pc' := 103) (L' := [.val (.ref 0), .unset, .val (.int v2), .val (.int v3), .unset, .val (.int v5), .val (.int v6), .val (.int v7)]) (S' := [.int r66, .ref 9, .int r66, .ref 9]) (H' := (bk0 o_roomsOfType o_roomsAtLeast o_firstRoomOfType o_slotActive o_slotType o_slotArrive o_slotNights o_exactCount o_atLeastCount o_planRoom o_planGrid o_planOrder o_totalRooms o_activeStays o_planOrderLength o_planCurrent o_planUnplaced po)) rfl ?_
      obtain ⟨x67, hx67, h⟩ := bnd h
      refine OEnds.plain hm_22 rfl rfl (x_iaload rfl hx67) ?_
      refine OEnds.adv hm_22 2 (pc' := 106) (L' := [.val (.ref 0), .unset, .val (.int v2), .val (.int v3), .unset, .val (.int v5), .val (.int v6), .val (.int v7)]) (S' := [.int (x67 + v2), .int r66, .ref 9]) (H' := (bk0 o_roomsOfType o_roomsAtLeast o_firstRoomOfType o_slotActive o_slotType o_slotArrive o_slotNights o_exactCount o_atLeastCount o_planRoom o_planGrid o_planOrder o_totalRooms o_activeStays o_planOrderLength o_planCurrent o_planUnplaced po)) rfl ?_
      obtain ⟨A68, hA68, h⟩ := bnd h
      refine OEnds.plain hm_22 rfl rfl (x_iastore rfl (Nat.le_of_ble_eq_true rfl) hA68) ?_
      refine OEnds.adv hm_22 2 (pc' := 84) (L' := [.val (.ref 0), .unset, .val (.int v2), .val (.int v3), .unset, .val (.int v5), .val (.int v6), .val (.int (v7 + (1 : Int32)))]) (S' := []) (H' := (bk0 o_roomsOfType o_roomsAtLeast o_firstRoomOfType o_slotActive o_slotType o_slotArrive o_slotNights o_exactCount A68 o_planRoom o_planGrid o_planOrder o_totalRooms o_activeStays o_planOrderLength o_planCurrent o_planUnplaced po)) rfl ?_
      exact ih h
theorem ok_adjustCoverage_53 {o_roomsOfType : List Int32} {o_roomsAtLeast : List Int32} {o_firstRoomOfType : List Int32} {o_slotActive : List Int32} {o_slotType : List Int32} {o_slotArrive : List Int32} {o_slotNights : List Int32} {o_planRoom : List Int32} {o_planGrid : List Int32} {o_planOrder : List Int32} {o_totalRooms : Int32} {o_activeStays : Int32} {o_planOrderLength : Int32} {o_planCurrent : Int32} {o_planUnplaced : Int32} {po : List ACell} : ∀ (n : Nat), ∀ {o_exactCount : List Int32} {o_atLeastCount : List Int32} {v2 : Int32} {v3 : Int32} {v5 : Int32} {v6 : Int32} {d1 d4 d7 : Slot} {w_o_exactCount : List Int32} {w_o_atLeastCount : List Int32}, f_adjustCoverage_53 o_slotType o_slotArrive o_slotNights n o_exactCount o_atLeastCount v2 v3 v5 v6 = some (w_o_exactCount, w_o_atLeastCount) → OEnds own_P 22 53 [.val (.ref 0), d1, .val (.int v2), .val (.int v3), d4, .val (.int v5), .val (.int v6), d7] [] (bk0 o_roomsOfType o_roomsAtLeast o_firstRoomOfType o_slotActive o_slotType o_slotArrive o_slotNights o_exactCount o_atLeastCount o_planRoom o_planGrid o_planOrder o_totalRooms o_activeStays o_planOrderLength o_planCurrent o_planUnplaced po) (none, (bk0 o_roomsOfType o_roomsAtLeast o_firstRoomOfType o_slotActive o_slotType o_slotArrive o_slotNights w_o_exactCount w_o_atLeastCount o_planRoom o_planGrid o_planOrder o_totalRooms o_activeStays o_planOrderLength o_planCurrent o_planUnplaced po), 0, 0) := by
  intro n
  induction n with
  | zero => intro o_exactCount o_atLeastCount v2 v3 v5 v6 d1 d4 d7 w_o_exactCount w_o_atLeastCount h; cases h
  | succ n ih =>
    intro o_exactCount o_atLeastCount v2 v3 v5 v6 d1 d4 d7 w_o_exactCount w_o_atLeastCount h
    unfold f_adjustCoverage_53 at h
    refine OEnds.adv hm_22 1 (pc' := 55) (L' := [.val (.ref 0), .unset, .val (.int v2), .val (.int v3), .unset, .val (.int v5), .val (.int v6), .unset]) (S' := [.int v6]) (H' := (bk0 o_roomsOfType o_roomsAtLeast o_firstRoomOfType o_slotActive o_slotType o_slotArrive o_slotNights o_exactCount o_atLeastCount o_planRoom o_planGrid o_planOrder o_totalRooms o_activeStays o_planOrderLength o_planCurrent o_planUnplaced po)) rfl ?_
    by_cases hc51 : v6 < (0 : Int32)
    · simp only [if_pos hc51] at h
      refine OEnds.ifT hm_22 rfl (q := 119) rfl ((tlt hc51).1) ?_
      show OEnds own_P 22 119 [.val (.ref 0), .unset, .val (.int v2), .val (.int v3), .unset, .val (.int v5), .val (.int v6), .unset] [] (bk0 o_roomsOfType o_roomsAtLeast o_firstRoomOfType o_slotActive o_slotType o_slotArrive o_slotNights o_exactCount o_atLeastCount o_planRoom o_planGrid o_planOrder o_totalRooms o_activeStays o_planOrderLength o_planCurrent o_planUnplaced po) _
      cases h
      exact OEnds.vret hm_22 rfl rfl
    · simp only [if_neg hc51] at h
      refine OEnds.ifF hm_22 rfl ((flt hc51).1) ?_
      refine OEnds.adv hm_22 2 (pc' := 62) (L' := [.val (.ref 0), .unset, .val (.int v2), .val (.int v3), .unset, .val (.int v5), .val (.int v6), .unset]) (S' := [.int v5, .int v6]) (H' := (bk0 o_roomsOfType o_roomsAtLeast o_firstRoomOfType o_slotActive o_slotType o_slotArrive o_slotNights o_exactCount o_atLeastCount o_planRoom o_planGrid o_planOrder o_totalRooms o_activeStays o_planOrderLength o_planCurrent o_planUnplaced po)) rfl ?_
      by_cases hc52 : v6 < v5
      · simp only [if_pos hc52] at h
        refine OEnds.icmpF hm_22 rfl ((tlt hc52).2.1) ?_
        refine OEnds.adv hm_22 5 (pc' := 73) (L' := [.val (.ref 0), .unset, .val (.int v2), .val (.int v3), .unset, .val (.int v5), .val (.int v6), .unset]) (S' := [.int v6, .int v3, .ref 0, .ref 8]) (H' := (bk0 o_roomsOfType o_roomsAtLeast o_firstRoomOfType o_slotActive o_slotType o_slotArrive o_slotNights o_exactCount o_atLeastCount o_planRoom o_planGrid o_planOrder o_totalRooms o_activeStays o_planOrderLength o_planCurrent o_planUnplaced po)) rfl ?_
        obtain ⟨r63, hq53, h⟩ := bnd h
        refine OEnds.call0 hm_22 rfl rfl (by decide) rfl (as := [.ref 0, .int v3, .int v6]) (rest := [.ref 8]) rfl rfl (ok_countIndex hq53) ?_
        refine OEnds.adv hm_22 1 (pc' := 77) (L' := [.val (.ref 0), .unset, .val (.int v2), .val (.int v3), .unset, .val (.int v5), .val (.int v6), .unset]) (S' := [.int r63, .ref 8, .int r63, .ref 8]) (H' := (bk0 o_roomsOfType o_roomsAtLeast o_firstRoomOfType o_slotActive o_slotType o_slotArrive o_slotNights o_exactCount o_atLeastCount o_planRoom o_planGrid o_planOrder o_totalRooms o_activeStays o_planOrderLength o_planCurrent o_planUnplaced po)) rfl ?_
        obtain ⟨x64, hx64, h⟩ := bnd h
        refine OEnds.plain hm_22 rfl rfl (x_iaload rfl hx64) ?_
        refine OEnds.adv hm_22 2 (pc' := 80) (L' := [.val (.ref 0), .unset, .val (.int v2), .val (.int v3), .unset, .val (.int v5), .val (.int v6), .unset]) (S' := [.int (x64 + v2), .int r63, .ref 8]) (H' := (bk0 o_roomsOfType o_roomsAtLeast o_firstRoomOfType o_slotActive o_slotType o_slotArrive o_slotNights o_exactCount o_atLeastCount o_planRoom o_planGrid o_planOrder o_totalRooms o_activeStays o_planOrderLength o_planCurrent o_planUnplaced po)) rfl ?_
        obtain ⟨A65, hA65, h⟩ := bnd h
        refine OEnds.plain hm_22 rfl rfl (x_iastore rfl (Nat.le_of_ble_eq_true rfl) hA65) ?_
        refine OEnds.adv hm_22 2 (pc' := 84) (L' := [.val (.ref 0), .unset, .val (.int v2), .val (.int v3), .unset, .val (.int v5), .val (.int v6), .val (.int 0)]) (S' := []) (H' := (bk0 o_roomsOfType o_roomsAtLeast o_firstRoomOfType o_slotActive o_slotType o_slotArrive o_slotNights A65 o_atLeastCount o_planRoom o_planGrid o_planOrder o_totalRooms o_activeStays o_planOrderLength o_planCurrent o_planUnplaced po)) rfl ?_
        exact ok_adjustCoverage_84 (k53 := f_adjustCoverage_53 o_slotType o_slotArrive o_slotNights n) ih 100000 h
      · simp only [if_neg hc52] at h
        refine OEnds.icmpT hm_22 rfl (q := 119) rfl ((flt hc52).2.1) ?_
        show OEnds own_P 22 119 [.val (.ref 0), .unset, .val (.int v2), .val (.int v3), .unset, .val (.int v5), .val (.int v6), .unset] [] (bk0 o_roomsOfType o_roomsAtLeast o_firstRoomOfType o_slotActive o_slotType o_slotArrive o_slotNights o_exactCount o_atLeastCount o_planRoom o_planGrid o_planOrder o_totalRooms o_activeStays o_planOrderLength o_planCurrent o_planUnplaced po) _
        cases h
        exact OEnds.vret hm_22 rfl rfl
theorem ok_adjustCoverage {o_roomsOfType : List Int32} {o_roomsAtLeast : List Int32} {o_firstRoomOfType : List Int32} {o_slotActive : List Int32} {o_slotType : List Int32} {o_slotArrive : List Int32} {o_slotNights : List Int32} {o_planRoom : List Int32} {o_planGrid : List Int32} {o_planOrder : List Int32} {o_totalRooms : Int32} {o_activeStays : Int32} {o_planOrderLength : Int32} {o_planCurrent : Int32} {o_planUnplaced : Int32} {po : List ACell} {o_exactCount : List Int32} {o_atLeastCount : List Int32} {v1 : Int32} {v2 : Int32} {w_o_exactCount : List Int32} {w_o_atLeastCount : List Int32} (h : f_adjustCoverage o_slotType o_slotArrive o_slotNights o_exactCount o_atLeastCount v1 v2 = some (w_o_exactCount, w_o_atLeastCount)) : OEnds own_P 22 0 [.val (.ref 0), .val (.int v1), .val (.int v2), .unset, .unset, .unset, .unset, .unset] [] (bk0 o_roomsOfType o_roomsAtLeast o_firstRoomOfType o_slotActive o_slotType o_slotArrive o_slotNights o_exactCount o_atLeastCount o_planRoom o_planGrid o_planOrder o_totalRooms o_activeStays o_planOrderLength o_planCurrent o_planUnplaced po) (none, (bk0 o_roomsOfType o_roomsAtLeast o_firstRoomOfType o_slotActive o_slotType o_slotArrive o_slotNights w_o_exactCount w_o_atLeastCount o_planRoom o_planGrid o_planOrder o_totalRooms o_activeStays o_planOrderLength o_planCurrent o_planUnplaced po), 0, 0) := by
  unfold f_adjustCoverage at h
  refine OEnds.adv hm_22 1 (pc' := 1) (L' := [.val (.ref 0), .val (.int v1), .val (.int v2), .unset, .unset, .unset, .unset, .unset]) (S' := [.int v1]) (H' := (bk0 o_roomsOfType o_roomsAtLeast o_firstRoomOfType o_slotActive o_slotType o_slotArrive o_slotNights o_exactCount o_atLeastCount o_planRoom o_planGrid o_planOrder o_totalRooms o_activeStays o_planOrderLength o_planCurrent o_planUnplaced po)) rfl ?_
  by_cases hc54 : v1 < (0 : Int32)
  · simp only [if_pos hc54] at h
    refine OEnds.ifT hm_22 rfl (q := 10) rfl ((tlt hc54).1) ?_
    show OEnds own_P 22 10 [.val (.ref 0), .val (.int v1), .val (.int v2), .unset, .unset, .unset, .unset, .unset] [] (bk0 o_roomsOfType o_roomsAtLeast o_firstRoomOfType o_slotActive o_slotType o_slotArrive o_slotNights o_exactCount o_atLeastCount o_planRoom o_planGrid o_planOrder o_totalRooms o_activeStays o_planOrderLength o_planCurrent o_planUnplaced po) _
    cases h
    exact OEnds.vret hm_22 rfl rfl
  · simp only [if_neg hc54] at h
    refine OEnds.ifF hm_22 rfl ((flt hc54).1) ?_
    refine OEnds.adv hm_22 2 (pc' := 7) (L' := [.val (.ref 0), .val (.int v1), .val (.int v2), .unset, .unset, .unset, .unset, .unset]) (S' := [.int 32, .int v1]) (H' := (bk0 o_roomsOfType o_roomsAtLeast o_firstRoomOfType o_slotActive o_slotType o_slotArrive o_slotNights o_exactCount o_atLeastCount o_planRoom o_planGrid o_planOrder o_totalRooms o_activeStays o_planOrderLength o_planCurrent o_planUnplaced po)) rfl ?_
    by_cases hc55 : v1 < (32 : Int32)
    · simp only [if_pos hc55] at h
      refine OEnds.icmpT hm_22 rfl (q := 11) rfl ((tlt hc55).1) ?_
      refine OEnds.adv hm_22 3 (pc' := 16) (L' := [.val (.ref 0), .val (.int v1), .val (.int v2), .unset, .unset, .unset, .unset, .unset]) (S' := [.int v1, .ref 5]) (H' := (bk0 o_roomsOfType o_roomsAtLeast o_firstRoomOfType o_slotActive o_slotType o_slotArrive o_slotNights o_exactCount o_atLeastCount o_planRoom o_planGrid o_planOrder o_totalRooms o_activeStays o_planOrderLength o_planCurrent o_planUnplaced po)) rfl ?_
      obtain ⟨x58, hx58, h⟩ := bnd h
      refine OEnds.plain hm_22 rfl rfl (x_iaload rfl hx58) ?_
      refine OEnds.adv hm_22 3 (pc' := 20) (L' := [.val (.ref 0), .val (.int v1), .val (.int v2), .val (.int x58), .unset, .unset, .unset, .unset]) (S' := [.int x58, .ref 0]) (H' := (bk0 o_roomsOfType o_roomsAtLeast o_firstRoomOfType o_slotActive o_slotType o_slotArrive o_slotNights o_exactCount o_atLeastCount o_planRoom o_planGrid o_planOrder o_totalRooms o_activeStays o_planOrderLength o_planCurrent o_planUnplaced po)) rfl ?_
      obtain ⟨r59, hq56, h⟩ := bnd h
      refine OEnds.call0 hm_22 rfl rfl (by decide) rfl (as := [.ref 0, .int x58]) (rest := []) rfl rfl (ok_isValidType hq56) ?_
      show OEnds own_P 22 23 [.val (.ref 0), .val (.int v1), .val (.int v2), .val (.int x58), .unset, .unset, .unset, .unset] [.int r59] (bk0 o_roomsOfType o_roomsAtLeast o_firstRoomOfType o_slotActive o_slotType o_slotArrive o_slotNights o_exactCount o_atLeastCount o_planRoom o_planGrid o_planOrder o_totalRooms o_activeStays o_planOrderLength o_planCurrent o_planUnplaced po) _
      by_cases hc57 : r59 = (0 : Int32)
      · simp only [if_pos hc57] at h
        refine OEnds.ifF hm_22 rfl ((teq hc57).2) ?_
        show OEnds own_P 22 26 [.val (.ref 0), .val (.int v1), .val (.int v2), .val (.int x58), .unset, .unset, .unset, .unset] [] (bk0 o_roomsOfType o_roomsAtLeast o_firstRoomOfType o_slotActive o_slotType o_slotArrive o_slotNights o_exactCount o_atLeastCount o_planRoom o_planGrid o_planOrder o_totalRooms o_activeStays o_planOrderLength o_planCurrent o_planUnplaced po) _
        cases h
        exact OEnds.vret hm_22 rfl rfl
      · simp only [if_neg hc57] at h
        refine OEnds.ifT hm_22 rfl (q := 27) rfl ((feq hc57).2) ?_
        refine OEnds.adv hm_22 3 (pc' := 32) (L' := [.val (.ref 0), .val (.int v1), .val (.int v2), .val (.int x58), .unset, .unset, .unset, .unset]) (S' := [.int v1, .ref 6]) (H' := (bk0 o_roomsOfType o_roomsAtLeast o_firstRoomOfType o_slotActive o_slotType o_slotArrive o_slotNights o_exactCount o_atLeastCount o_planRoom o_planGrid o_planOrder o_totalRooms o_activeStays o_planOrderLength o_planCurrent o_planUnplaced po)) rfl ?_
        obtain ⟨x60, hx60, h⟩ := bnd h
        refine OEnds.plain hm_22 rfl rfl (x_iaload rfl hx60) ?_
        refine OEnds.adv hm_22 6 (pc' := 43) (L' := [.val (.ref 0), .val (.int v1), .val (.int v2), .val (.int x58), .val (.int x60), .unset, .unset, .unset]) (S' := [.int v1, .ref 7, .int x60, .ref 0]) (H' := (bk0 o_roomsOfType o_roomsAtLeast o_firstRoomOfType o_slotActive o_slotType o_slotArrive o_slotNights o_exactCount o_atLeastCount o_planRoom o_planGrid o_planOrder o_totalRooms o_activeStays o_planOrderLength o_planCurrent o_planUnplaced po)) rfl ?_
        obtain ⟨x61, hx61, h⟩ := bnd h
        refine OEnds.plain hm_22 rfl rfl (x_iaload rfl hx61) ?_
        show OEnds own_P 22 44 [.val (.ref 0), .val (.int v1), .val (.int v2), .val (.int x58), .val (.int x60), .unset, .unset, .unset] [.int x61, .int x60, .ref 0] (bk0 o_roomsOfType o_roomsAtLeast o_firstRoomOfType o_slotActive o_slotType o_slotArrive o_slotNights o_exactCount o_atLeastCount o_planRoom o_planGrid o_planOrder o_totalRooms o_activeStays o_planOrderLength o_planCurrent o_planUnplaced po) _
        obtain ⟨r62, hq58, h⟩ := bnd h
        refine OEnds.call0 hm_22 rfl rfl (by decide) rfl (as := [.ref 0, .int x60, .int x61]) (rest := []) rfl rfl (ok_endOf hq58) ?_
        refine OEnds.adv hm_22 3 (pc' := 53) (L' := [.val (.ref 0), .val (.int v1), .val (.int v2), .val (.int x58), .val (.int x60), .val (.int r62), .val (.int x60), .unset]) (S' := []) (H' := (bk0 o_roomsOfType o_roomsAtLeast o_firstRoomOfType o_slotActive o_slotType o_slotArrive o_slotNights o_exactCount o_atLeastCount o_planRoom o_planGrid o_planOrder o_totalRooms o_activeStays o_planOrderLength o_planCurrent o_planUnplaced po)) rfl ?_
        exact ok_adjustCoverage_53 100000 h
    · simp only [if_neg hc55] at h
      refine OEnds.icmpF hm_22 rfl ((flt hc55).1) ?_
      show OEnds own_P 22 10 [.val (.ref 0), .val (.int v1), .val (.int v2), .unset, .unset, .unset, .unset, .unset] [] (bk0 o_roomsOfType o_roomsAtLeast o_firstRoomOfType o_slotActive o_slotType o_slotArrive o_slotNights o_exactCount o_atLeastCount o_planRoom o_planGrid o_planOrder o_totalRooms o_activeStays o_planOrderLength o_planCurrent o_planUnplaced po) _
      cases h
      exact OEnds.vret hm_22 rfl rfl
theorem ok_activateStay {o_roomsOfType : List Int32} {o_roomsAtLeast : List Int32} {o_firstRoomOfType : List Int32} {o_planRoom : List Int32} {o_planGrid : List Int32} {o_planOrder : List Int32} {o_totalRooms : Int32} {o_planOrderLength : Int32} {o_planCurrent : Int32} {o_planUnplaced : Int32} {po : List ACell} {o_slotActive : List Int32} {o_slotType : List Int32} {o_slotArrive : List Int32} {o_slotNights : List Int32} {o_exactCount : List Int32} {o_atLeastCount : List Int32} {o_activeStays : Int32} {v1 : Int32} {v2 : Int32} {v3 : Int32} {v4 : Int32} {w_o_slotActive : List Int32} {w_o_slotType : List Int32} {w_o_slotArrive : List Int32} {w_o_slotNights : List Int32} {w_o_exactCount : List Int32} {w_o_atLeastCount : List Int32} {w_o_activeStays : Int32} (h : f_activateStay o_slotActive o_slotType o_slotArrive o_slotNights o_exactCount o_atLeastCount o_activeStays v1 v2 v3 v4 = some (w_o_slotActive, w_o_slotType, w_o_slotArrive, w_o_slotNights, w_o_exactCount, w_o_atLeastCount, w_o_activeStays)) : OEnds own_P 20 0 [.val (.ref 0), .val (.int v1), .val (.int v2), .val (.int v3), .val (.int v4)] [] (bk0 o_roomsOfType o_roomsAtLeast o_firstRoomOfType o_slotActive o_slotType o_slotArrive o_slotNights o_exactCount o_atLeastCount o_planRoom o_planGrid o_planOrder o_totalRooms o_activeStays o_planOrderLength o_planCurrent o_planUnplaced po) (none, (bk0 o_roomsOfType o_roomsAtLeast o_firstRoomOfType w_o_slotActive w_o_slotType w_o_slotArrive w_o_slotNights w_o_exactCount w_o_atLeastCount o_planRoom o_planGrid o_planOrder o_totalRooms w_o_activeStays o_planOrderLength o_planCurrent o_planUnplaced po), 0, 0) := by
  unfold f_activateStay at h
  refine OEnds.adv hm_20 5 (pc' := 6) (L' := [.val (.ref 0), .val (.int v1), .val (.int v2), .val (.int v3), .val (.int v4)]) (S' := [.int v4, .int v3, .int v2, .int v1, .ref 0]) (H' := (bk0 o_roomsOfType o_roomsAtLeast o_firstRoomOfType o_slotActive o_slotType o_slotArrive o_slotNights o_exactCount o_atLeastCount o_planRoom o_planGrid o_planOrder o_totalRooms o_activeStays o_planOrderLength o_planCurrent o_planUnplaced po)) rfl ?_
  obtain ⟨⟨s69, s70, s71⟩, hq59, h⟩ := bnd h
  refine OEnds.call0 hm_20 rfl rfl (by decide) rfl (as := [.ref 0, .int v1, .int v2, .int v3, .int v4]) (rest := []) rfl rfl (ok_storeStay hq59) ?_
  refine OEnds.adv hm_20 4 (pc' := 15) (L' := [.val (.ref 0), .val (.int v1), .val (.int v2), .val (.int v3), .val (.int v4)]) (S' := [.int 1, .int v1, .ref 4]) (H' := (bk0 o_roomsOfType o_roomsAtLeast o_firstRoomOfType o_slotActive s69 s70 s71 o_exactCount o_atLeastCount o_planRoom o_planGrid o_planOrder o_totalRooms o_activeStays o_planOrderLength o_planCurrent o_planUnplaced po)) rfl ?_
  obtain ⟨A72, hA72, h⟩ := bnd h
  refine OEnds.plain hm_20 rfl rfl (x_bastore rfl (Nat.le_of_ble_eq_true rfl) hA72) ?_
  refine OEnds.adv hm_20 9 (pc' := 29) (L' := [.val (.ref 0), .val (.int v1), .val (.int v2), .val (.int v3), .val (.int v4)]) (S' := [.int 1, .int v1, .ref 0]) (H' := (bk0 o_roomsOfType o_roomsAtLeast o_firstRoomOfType A72 s69 s70 s71 o_exactCount o_atLeastCount o_planRoom o_planGrid o_planOrder o_totalRooms (o_activeStays + (1 : Int32)) o_planOrderLength o_planCurrent o_planUnplaced po)) rfl ?_
  obtain ⟨⟨s73, s74⟩, hq60, h⟩ := bnd h
  refine OEnds.call0 hm_20 rfl rfl (by decide) rfl (as := [.ref 0, .int v1, .int 1]) (rest := []) rfl rfl (ok_adjustCoverage hq60) ?_
  show OEnds own_P 20 32 [.val (.ref 0), .val (.int v1), .val (.int v2), .val (.int v3), .val (.int v4)] [] (bk0 o_roomsOfType o_roomsAtLeast o_firstRoomOfType A72 s69 s70 s71 s73 s74 o_planRoom o_planGrid o_planOrder o_totalRooms (o_activeStays + (1 : Int32)) o_planOrderLength o_planCurrent o_planUnplaced po) _
  cases h
  exact OEnds.vret hm_20 rfl rfl
theorem ok_discardPlan {o_roomsOfType : List Int32} {o_roomsAtLeast : List Int32} {o_firstRoomOfType : List Int32} {o_slotActive : List Int32} {o_slotType : List Int32} {o_slotArrive : List Int32} {o_slotNights : List Int32} {o_exactCount : List Int32} {o_atLeastCount : List Int32} {o_planRoom : List Int32} {o_planGrid : List Int32} {o_planOrder : List Int32} {o_totalRooms : Int32} {o_activeStays : Int32} {o_planOrderLength : Int32} {o_planUnplaced : Int32} {po : List ACell} {o_planCurrent : Int32} {w_o_planCurrent : Int32} (h : f_discardPlan o_planCurrent = some w_o_planCurrent) : OEnds own_P 23 0 [.val (.ref 0)] [] (bk0 o_roomsOfType o_roomsAtLeast o_firstRoomOfType o_slotActive o_slotType o_slotArrive o_slotNights o_exactCount o_atLeastCount o_planRoom o_planGrid o_planOrder o_totalRooms o_activeStays o_planOrderLength o_planCurrent o_planUnplaced po) (none, (bk0 o_roomsOfType o_roomsAtLeast o_firstRoomOfType o_slotActive o_slotType o_slotArrive o_slotNights o_exactCount o_atLeastCount o_planRoom o_planGrid o_planOrder o_totalRooms o_activeStays o_planOrderLength w_o_planCurrent o_planUnplaced po), 0, 0) := by
  unfold f_discardPlan at h
  refine OEnds.adv hm_23 3 (pc' := 5) (L' := [.val (.ref 0)]) (S' := []) (H' := (bk0 o_roomsOfType o_roomsAtLeast o_firstRoomOfType o_slotActive o_slotType o_slotArrive o_slotNights o_exactCount o_atLeastCount o_planRoom o_planGrid o_planOrder o_totalRooms o_activeStays o_planOrderLength 0 o_planUnplaced po)) rfl ?_
  cases h
  exact OEnds.vret hm_23 rfl rfl
theorem ok_book {o_roomsOfType : List Int32} {o_roomsAtLeast : List Int32} {o_firstRoomOfType : List Int32} {o_planRoom : List Int32} {o_planGrid : List Int32} {o_planOrder : List Int32} {o_totalRooms : Int32} {o_planOrderLength : Int32} {o_planUnplaced : Int32} {po : List ACell} {o_slotActive : List Int32} {o_slotType : List Int32} {o_slotArrive : List Int32} {o_slotNights : List Int32} {o_exactCount : List Int32} {o_atLeastCount : List Int32} {o_activeStays : Int32} {o_planCurrent : Int32} {v1 : Int32} {v2 : Int32} {v3 : Int32} {res : Int32} {w_o_slotActive : List Int32} {w_o_slotType : List Int32} {w_o_slotArrive : List Int32} {w_o_slotNights : List Int32} {w_o_exactCount : List Int32} {w_o_atLeastCount : List Int32} {w_o_activeStays : Int32} {w_o_planCurrent : Int32} (h : f_book o_roomsAtLeast o_slotActive o_slotType o_slotArrive o_slotNights o_exactCount o_atLeastCount o_activeStays o_planCurrent v1 v2 v3 = some (res, w_o_slotActive, w_o_slotType, w_o_slotArrive, w_o_slotNights, w_o_exactCount, w_o_atLeastCount, w_o_activeStays, w_o_planCurrent)) : OEnds own_P 7 0 [.val (.ref 0), .val (.int v1), .val (.int v2), .val (.int v3), .unset, .unset] [] (bk0 o_roomsOfType o_roomsAtLeast o_firstRoomOfType o_slotActive o_slotType o_slotArrive o_slotNights o_exactCount o_atLeastCount o_planRoom o_planGrid o_planOrder o_totalRooms o_activeStays o_planOrderLength o_planCurrent o_planUnplaced po) (some (.int res), (bk0 o_roomsOfType o_roomsAtLeast o_firstRoomOfType w_o_slotActive w_o_slotType w_o_slotArrive w_o_slotNights w_o_exactCount w_o_atLeastCount o_planRoom o_planGrid o_planOrder o_totalRooms w_o_activeStays o_planOrderLength w_o_planCurrent o_planUnplaced po), 0, 0) := by
  unfold f_book at h
  refine OEnds.adv hm_7 4 (pc' := 4) (L' := [.val (.ref 0), .val (.int v1), .val (.int v2), .val (.int v3), .unset, .unset]) (S' := [.int v3, .int v2, .int v1, .ref 0]) (H' := (bk0 o_roomsOfType o_roomsAtLeast o_firstRoomOfType o_slotActive o_slotType o_slotArrive o_slotNights o_exactCount o_atLeastCount o_planRoom o_planGrid o_planOrder o_totalRooms o_activeStays o_planOrderLength o_planCurrent o_planUnplaced po)) rfl ?_
  obtain ⟨r75, hq61, h⟩ := bnd h
  refine OEnds.call0 hm_7 rfl rfl (by decide) rfl (as := [.ref 0, .int v1, .int v2, .int v3]) (rest := []) rfl rfl (ok_requestError hq61) ?_
  refine OEnds.adv hm_7 2 (pc' := 11) (L' := [.val (.ref 0), .val (.int v1), .val (.int v2), .val (.int v3), .val (.int r75), .unset]) (S' := [.int r75]) (H' := (bk0 o_roomsOfType o_roomsAtLeast o_firstRoomOfType o_slotActive o_slotType o_slotArrive o_slotNights o_exactCount o_atLeastCount o_planRoom o_planGrid o_planOrder o_totalRooms o_activeStays o_planOrderLength o_planCurrent o_planUnplaced po)) rfl ?_
  by_cases hc62 : r75 = (0 : Int32)
  · simp only [if_pos hc62] at h
    refine OEnds.ifT hm_7 rfl (q := 17) rfl ((teq hc62).1) ?_
    refine OEnds.adv hm_7 3 (pc' := 23) (L' := [.val (.ref 0), .val (.int v1), .val (.int v2), .val (.int v3), .val (.int r75), .unset]) (S' := [.int 32, .int o_activeStays]) (H' := (bk0 o_roomsOfType o_roomsAtLeast o_firstRoomOfType o_slotActive o_slotType o_slotArrive o_slotNights o_exactCount o_atLeastCount o_planRoom o_planGrid o_planOrder o_totalRooms o_activeStays o_planOrderLength o_planCurrent o_planUnplaced po)) rfl ?_
    by_cases hc63 : o_activeStays < (32 : Int32)
    · simp only [if_pos hc63] at h
      refine OEnds.icmpT hm_7 rfl (q := 29) rfl ((tlt hc63).1) ?_
      refine OEnds.adv hm_7 5 (pc' := 34) (L' := [.val (.ref 0), .val (.int v1), .val (.int v2), .val (.int v3), .val (.int r75), .unset]) (S' := [.int v3, .int v2, .int v1, .int (-1), .ref 0]) (H' := (bk0 o_roomsOfType o_roomsAtLeast o_firstRoomOfType o_slotActive o_slotType o_slotArrive o_slotNights o_exactCount o_atLeastCount o_planRoom o_planGrid o_planOrder o_totalRooms o_activeStays o_planOrderLength o_planCurrent o_planUnplaced po)) rfl ?_
      obtain ⟨r76, hq64, h⟩ := bnd h
      refine OEnds.call0 hm_7 rfl rfl (by decide) rfl (as := [.ref 0, .int (-1), .int v1, .int v2, .int v3]) (rest := []) rfl rfl (ok_fitsWith hq64) ?_
      show OEnds own_P 7 37 [.val (.ref 0), .val (.int v1), .val (.int v2), .val (.int v3), .val (.int r75), .unset] [.int r76] (bk0 o_roomsOfType o_roomsAtLeast o_firstRoomOfType o_slotActive o_slotType o_slotArrive o_slotNights o_exactCount o_atLeastCount o_planRoom o_planGrid o_planOrder o_totalRooms o_activeStays o_planOrderLength o_planCurrent o_planUnplaced po) _
      by_cases hc65 : r76 = (0 : Int32)
      · simp only [if_pos hc65] at h
        refine OEnds.ifF hm_7 rfl ((teq hc65).2) ?_
        refine OEnds.adv hm_7 1 (pc' := 42) (L' := [.val (.ref 0), .val (.int v1), .val (.int v2), .val (.int v3), .val (.int r75), .unset]) (S' := [.int (-4)]) (H' := (bk0 o_roomsOfType o_roomsAtLeast o_firstRoomOfType o_slotActive o_slotType o_slotArrive o_slotNights o_exactCount o_atLeastCount o_planRoom o_planGrid o_planOrder o_totalRooms o_activeStays o_planOrderLength o_planCurrent o_planUnplaced po)) rfl ?_
        cases h
        exact OEnds.iret hm_7 rfl rfl
      · simp only [if_neg hc65] at h
        refine OEnds.ifT hm_7 rfl (q := 43) rfl ((feq hc65).2) ?_
        refine OEnds.adv hm_7 1 (pc' := 44) (L' := [.val (.ref 0), .val (.int v1), .val (.int v2), .val (.int v3), .val (.int r75), .unset]) (S' := [.ref 0]) (H' := (bk0 o_roomsOfType o_roomsAtLeast o_firstRoomOfType o_slotActive o_slotType o_slotArrive o_slotNights o_exactCount o_atLeastCount o_planRoom o_planGrid o_planOrder o_totalRooms o_activeStays o_planOrderLength o_planCurrent o_planUnplaced po)) rfl ?_
        obtain ⟨r77, hq66, h⟩ := bnd h
        refine OEnds.call0 hm_7 rfl rfl (by decide) rfl (as := [.ref 0]) (rest := []) rfl rfl (ok_lowestInactiveSlot hq66) ?_
        refine OEnds.adv hm_7 2 (pc' := 51) (L' := [.val (.ref 0), .val (.int v1), .val (.int v2), .val (.int v3), .val (.int r75), .val (.int r77)]) (S' := [.int r77]) (H' := (bk0 o_roomsOfType o_roomsAtLeast o_firstRoomOfType o_slotActive o_slotType o_slotArrive o_slotNights o_exactCount o_atLeastCount o_planRoom o_planGrid o_planOrder o_totalRooms o_activeStays o_planOrderLength o_planCurrent o_planUnplaced po)) rfl ?_
        by_cases hc67 : r77 < (0 : Int32)
        · simp only [if_pos hc67] at h
          refine OEnds.ifF hm_7 rfl ((tlt hc67).2.1) ?_
          refine OEnds.adv hm_7 1 (pc' := 56) (L' := [.val (.ref 0), .val (.int v1), .val (.int v2), .val (.int v3), .val (.int r75), .val (.int r77)]) (S' := [.int (-3)]) (H' := (bk0 o_roomsOfType o_roomsAtLeast o_firstRoomOfType o_slotActive o_slotType o_slotArrive o_slotNights o_exactCount o_atLeastCount o_planRoom o_planGrid o_planOrder o_totalRooms o_activeStays o_planOrderLength o_planCurrent o_planUnplaced po)) rfl ?_
          cases h
          exact OEnds.iret hm_7 rfl rfl
        · simp only [if_neg hc67] at h
          refine OEnds.ifT hm_7 rfl (q := 57) rfl ((flt hc67).2.1) ?_
          refine OEnds.adv hm_7 5 (pc' := 63) (L' := [.val (.ref 0), .val (.int v1), .val (.int v2), .val (.int v3), .val (.int r75), .val (.int r77)]) (S' := [.int v3, .int v2, .int v1, .int r77, .ref 0]) (H' := (bk0 o_roomsOfType o_roomsAtLeast o_firstRoomOfType o_slotActive o_slotType o_slotArrive o_slotNights o_exactCount o_atLeastCount o_planRoom o_planGrid o_planOrder o_totalRooms o_activeStays o_planOrderLength o_planCurrent o_planUnplaced po)) rfl ?_
          obtain ⟨⟨s78, s79, s80, s81, s82, s83, s84⟩, hq68, h⟩ := bnd h
          refine OEnds.call0 hm_7 rfl rfl (by decide) rfl (as := [.ref 0, .int r77, .int v1, .int v2, .int v3]) (rest := []) rfl rfl (ok_activateStay hq68) ?_
          refine OEnds.adv hm_7 1 (pc' := 67) (L' := [.val (.ref 0), .val (.int v1), .val (.int v2), .val (.int v3), .val (.int r75), .val (.int r77)]) (S' := [.ref 0]) (H' := (bk0 o_roomsOfType o_roomsAtLeast o_firstRoomOfType s78 s79 s80 s81 s82 s83 o_planRoom o_planGrid o_planOrder o_totalRooms s84 o_planOrderLength o_planCurrent o_planUnplaced po)) rfl ?_
          obtain ⟨s85, hq69, h⟩ := bnd h
          refine OEnds.call0 hm_7 rfl rfl (by decide) rfl (as := [.ref 0]) (rest := []) rfl rfl (ok_discardPlan hq69) ?_
          refine OEnds.adv hm_7 1 (pc' := 72) (L' := [.val (.ref 0), .val (.int v1), .val (.int v2), .val (.int v3), .val (.int r75), .val (.int r77)]) (S' := [.int r77]) (H' := (bk0 o_roomsOfType o_roomsAtLeast o_firstRoomOfType s78 s79 s80 s81 s82 s83 o_planRoom o_planGrid o_planOrder o_totalRooms s84 o_planOrderLength s85 o_planUnplaced po)) rfl ?_
          cases h
          exact OEnds.iret hm_7 rfl rfl
    · simp only [if_neg hc63] at h
      refine OEnds.icmpF hm_7 rfl ((flt hc63).1) ?_
      refine OEnds.adv hm_7 1 (pc' := 28) (L' := [.val (.ref 0), .val (.int v1), .val (.int v2), .val (.int v3), .val (.int r75), .unset]) (S' := [.int (-3)]) (H' := (bk0 o_roomsOfType o_roomsAtLeast o_firstRoomOfType o_slotActive o_slotType o_slotArrive o_slotNights o_exactCount o_atLeastCount o_planRoom o_planGrid o_planOrder o_totalRooms o_activeStays o_planOrderLength o_planCurrent o_planUnplaced po)) rfl ?_
      cases h
      exact OEnds.iret hm_7 rfl rfl
  · simp only [if_neg hc62] at h
    refine OEnds.ifF hm_7 rfl ((feq hc62).1) ?_
    refine OEnds.adv hm_7 1 (pc' := 16) (L' := [.val (.ref 0), .val (.int v1), .val (.int v2), .val (.int v3), .val (.int r75), .unset]) (S' := [.int r75]) (H' := (bk0 o_roomsOfType o_roomsAtLeast o_firstRoomOfType o_slotActive o_slotType o_slotArrive o_slotNights o_exactCount o_atLeastCount o_planRoom o_planGrid o_planOrder o_totalRooms o_activeStays o_planOrderLength o_planCurrent o_planUnplaced po)) rfl ?_
    cases h
    exact OEnds.iret hm_7 rfl rfl
theorem ok_isAssigned {o_roomsOfType : List Int32} {o_roomsAtLeast : List Int32} {o_firstRoomOfType : List Int32} {o_slotActive : List Int32} {o_slotType : List Int32} {o_slotArrive : List Int32} {o_slotNights : List Int32} {o_exactCount : List Int32} {o_atLeastCount : List Int32} {o_planRoom : List Int32} {o_planGrid : List Int32} {o_planOrder : List Int32} {o_totalRooms : Int32} {o_activeStays : Int32} {o_planOrderLength : Int32} {o_planCurrent : Int32} {o_planUnplaced : Int32} {po : List ACell} {res : Int32} (h : f_isAssigned o_planCurrent = some res) : OEnds own_P 24 0 [.val (.ref 0)] [] (bk0 o_roomsOfType o_roomsAtLeast o_firstRoomOfType o_slotActive o_slotType o_slotArrive o_slotNights o_exactCount o_atLeastCount o_planRoom o_planGrid o_planOrder o_totalRooms o_activeStays o_planOrderLength o_planCurrent o_planUnplaced po) (some (.int res), (bk0 o_roomsOfType o_roomsAtLeast o_firstRoomOfType o_slotActive o_slotType o_slotArrive o_slotNights o_exactCount o_atLeastCount o_planRoom o_planGrid o_planOrder o_totalRooms o_activeStays o_planOrderLength o_planCurrent o_planUnplaced po), 0, 0) := by
  unfold f_isAssigned at h
  refine OEnds.adv hm_24 2 (pc' := 4) (L' := [.val (.ref 0)]) (S' := [.int o_planCurrent]) (H' := (bk0 o_roomsOfType o_roomsAtLeast o_firstRoomOfType o_slotActive o_slotType o_slotArrive o_slotNights o_exactCount o_atLeastCount o_planRoom o_planGrid o_planOrder o_totalRooms o_activeStays o_planOrderLength o_planCurrent o_planUnplaced po)) rfl ?_
  cases h
  exact OEnds.iret hm_24 rfl rfl
theorem ok_appendToOrder {o_roomsOfType : List Int32} {o_roomsAtLeast : List Int32} {o_firstRoomOfType : List Int32} {o_slotActive : List Int32} {o_slotType : List Int32} {o_slotArrive : List Int32} {o_slotNights : List Int32} {o_exactCount : List Int32} {o_atLeastCount : List Int32} {o_planRoom : List Int32} {o_planGrid : List Int32} {o_totalRooms : Int32} {o_activeStays : Int32} {o_planCurrent : Int32} {o_planUnplaced : Int32} {po : List ACell} {o_planOrder : List Int32} {o_planOrderLength : Int32} {v1 : Int32} {w_o_planOrder : List Int32} {w_o_planOrderLength : Int32} (h : f_appendToOrder o_planOrder o_planOrderLength v1 = some (w_o_planOrder, w_o_planOrderLength)) : OEnds own_P 27 0 [.val (.ref 0), .val (.int v1)] [] (bk0 o_roomsOfType o_roomsAtLeast o_firstRoomOfType o_slotActive o_slotType o_slotArrive o_slotNights o_exactCount o_atLeastCount o_planRoom o_planGrid o_planOrder o_totalRooms o_activeStays o_planOrderLength o_planCurrent o_planUnplaced po) (none, (bk0 o_roomsOfType o_roomsAtLeast o_firstRoomOfType o_slotActive o_slotType o_slotArrive o_slotNights o_exactCount o_atLeastCount o_planRoom o_planGrid w_o_planOrder o_totalRooms o_activeStays w_o_planOrderLength o_planCurrent o_planUnplaced po), 0, 0) := by
  unfold f_appendToOrder at h
  refine OEnds.adv hm_27 2 (pc' := 4) (L' := [.val (.ref 0), .val (.int v1)]) (S' := [.int o_planOrderLength]) (H' := (bk0 o_roomsOfType o_roomsAtLeast o_firstRoomOfType o_slotActive o_slotType o_slotArrive o_slotNights o_exactCount o_atLeastCount o_planRoom o_planGrid o_planOrder o_totalRooms o_activeStays o_planOrderLength o_planCurrent o_planUnplaced po)) rfl ?_
  by_cases hc70 : o_planOrderLength < (0 : Int32)
  · simp only [if_pos hc70] at h
    refine OEnds.ifT hm_27 rfl (q := 16) rfl ((tlt hc70).1) ?_
    show OEnds own_P 27 16 [.val (.ref 0), .val (.int v1)] [] (bk0 o_roomsOfType o_roomsAtLeast o_firstRoomOfType o_slotActive o_slotType o_slotArrive o_slotNights o_exactCount o_atLeastCount o_planRoom o_planGrid o_planOrder o_totalRooms o_activeStays o_planOrderLength o_planCurrent o_planUnplaced po) _
    cases h
    exact OEnds.vret hm_27 rfl rfl
  · simp only [if_neg hc70] at h
    refine OEnds.ifF hm_27 rfl ((flt hc70).1) ?_
    refine OEnds.adv hm_27 3 (pc' := 13) (L' := [.val (.ref 0), .val (.int v1)]) (S' := [.int 32, .int o_planOrderLength]) (H' := (bk0 o_roomsOfType o_roomsAtLeast o_firstRoomOfType o_slotActive o_slotType o_slotArrive o_slotNights o_exactCount o_atLeastCount o_planRoom o_planGrid o_planOrder o_totalRooms o_activeStays o_planOrderLength o_planCurrent o_planUnplaced po)) rfl ?_
    by_cases hc71 : o_planOrderLength < (32 : Int32)
    · simp only [if_pos hc71] at h
      refine OEnds.icmpT hm_27 rfl (q := 17) rfl ((tlt hc71).1) ?_
      refine OEnds.adv hm_27 5 (pc' := 26) (L' := [.val (.ref 0), .val (.int v1)]) (S' := [.int v1, .int o_planOrderLength, .ref 12]) (H' := (bk0 o_roomsOfType o_roomsAtLeast o_firstRoomOfType o_slotActive o_slotType o_slotArrive o_slotNights o_exactCount o_atLeastCount o_planRoom o_planGrid o_planOrder o_totalRooms o_activeStays o_planOrderLength o_planCurrent o_planUnplaced po)) rfl ?_
      obtain ⟨A86, hA86, h⟩ := bnd h
      refine OEnds.plain hm_27 rfl rfl (x_iastore rfl (Nat.le_of_ble_eq_true rfl) hA86) ?_
      refine OEnds.adv hm_27 6 (pc' := 37) (L' := [.val (.ref 0), .val (.int v1)]) (S' := []) (H' := (bk0 o_roomsOfType o_roomsAtLeast o_firstRoomOfType o_slotActive o_slotType o_slotArrive o_slotNights o_exactCount o_atLeastCount o_planRoom o_planGrid A86 o_totalRooms o_activeStays (o_planOrderLength + (1 : Int32)) o_planCurrent o_planUnplaced po)) rfl ?_
      cases h
      exact OEnds.vret hm_27 rfl rfl
    · simp only [if_neg hc71] at h
      refine OEnds.icmpF hm_27 rfl ((flt hc71).1) ?_
      show OEnds own_P 27 16 [.val (.ref 0), .val (.int v1)] [] (bk0 o_roomsOfType o_roomsAtLeast o_firstRoomOfType o_slotActive o_slotType o_slotArrive o_slotNights o_exactCount o_atLeastCount o_planRoom o_planGrid o_planOrder o_totalRooms o_activeStays o_planOrderLength o_planCurrent o_planUnplaced po) _
      cases h
      exact OEnds.vret hm_27 rfl rfl
theorem ok_buildOrder_15 {o_roomsOfType : List Int32} {o_roomsAtLeast : List Int32} {o_firstRoomOfType : List Int32} {o_slotActive : List Int32} {o_slotType : List Int32} {o_slotArrive : List Int32} {o_slotNights : List Int32} {o_exactCount : List Int32} {o_atLeastCount : List Int32} {o_planRoom : List Int32} {o_planGrid : List Int32} {o_totalRooms : Int32} {o_activeStays : Int32} {o_planCurrent : Int32} {o_planUnplaced : Int32} {po : List ACell} {k7 : List Int32 → Int32 → Int32 → Option (List Int32 × Int32)} (hk7 : ∀ {o_planOrder : List Int32} {o_planOrderLength : Int32} {v1 : Int32} {d2 : Slot} {w_o_planOrder : List Int32} {w_o_planOrderLength : Int32}, k7 o_planOrder o_planOrderLength v1 = some (w_o_planOrder, w_o_planOrderLength) → OEnds own_P 26 7 [.val (.ref 0), .val (.int v1), d2] [] (bk0 o_roomsOfType o_roomsAtLeast o_firstRoomOfType o_slotActive o_slotType o_slotArrive o_slotNights o_exactCount o_atLeastCount o_planRoom o_planGrid o_planOrder o_totalRooms o_activeStays o_planOrderLength o_planCurrent o_planUnplaced po) (none, (bk0 o_roomsOfType o_roomsAtLeast o_firstRoomOfType o_slotActive o_slotType o_slotArrive o_slotNights o_exactCount o_atLeastCount o_planRoom o_planGrid w_o_planOrder o_totalRooms o_activeStays w_o_planOrderLength o_planCurrent o_planUnplaced po), 0, 0)) : ∀ (n : Nat), ∀ {o_planOrder : List Int32} {o_planOrderLength : Int32} {v1 : Int32} {v2 : Int32} {w_o_planOrder : List Int32} {w_o_planOrderLength : Int32}, f_buildOrder_15 k7 o_slotActive o_slotArrive n o_planOrder o_planOrderLength v1 v2 = some (w_o_planOrder, w_o_planOrderLength) → OEnds own_P 26 15 [.val (.ref 0), .val (.int v1), .val (.int v2)] [] (bk0 o_roomsOfType o_roomsAtLeast o_firstRoomOfType o_slotActive o_slotType o_slotArrive o_slotNights o_exactCount o_atLeastCount o_planRoom o_planGrid o_planOrder o_totalRooms o_activeStays o_planOrderLength o_planCurrent o_planUnplaced po) (none, (bk0 o_roomsOfType o_roomsAtLeast o_firstRoomOfType o_slotActive o_slotType o_slotArrive o_slotNights o_exactCount o_atLeastCount o_planRoom o_planGrid w_o_planOrder o_totalRooms o_activeStays w_o_planOrderLength o_planCurrent o_planUnplaced po), 0, 0) := by
  intro n
  induction n with
  | zero => intro o_planOrder o_planOrderLength v1 v2 w_o_planOrder w_o_planOrderLength h; cases h
  | succ n ih =>
    intro o_planOrder o_planOrderLength v1 v2 w_o_planOrder w_o_planOrderLength h
    unfold f_buildOrder_15 at h
    refine OEnds.adv hm_26 2 (pc' := 18) (L' := [.val (.ref 0), .val (.int v1), .val (.int v2)]) (S' := [.int 32, .int v2]) (H' := (bk0 o_roomsOfType o_roomsAtLeast o_firstRoomOfType o_slotActive o_slotType o_slotArrive o_slotNights o_exactCount o_atLeastCount o_planRoom o_planGrid o_planOrder o_totalRooms o_activeStays o_planOrderLength o_planCurrent o_planUnplaced po)) rfl ?_
    by_cases hc72 : v2 < (32 : Int32)
    · simp only [if_pos hc72] at h
      refine OEnds.icmpF hm_26 rfl ((tlt hc72).2.1) ?_
      refine OEnds.adv hm_26 3 (pc' := 26) (L' := [.val (.ref 0), .val (.int v1), .val (.int v2)]) (S' := [.int v2, .ref 4]) (H' := (bk0 o_roomsOfType o_roomsAtLeast o_firstRoomOfType o_slotActive o_slotType o_slotArrive o_slotNights o_exactCount o_atLeastCount o_planRoom o_planGrid o_planOrder o_totalRooms o_activeStays o_planOrderLength o_planCurrent o_planUnplaced po)) rfl ?_
      obtain ⟨x87, hx87, h⟩ := bnd h
      refine OEnds.plain hm_26 rfl rfl (x_baload rfl hx87) ?_
      show OEnds own_P 26 27 [.val (.ref 0), .val (.int v1), .val (.int v2)] [.int x87] (bk0 o_roomsOfType o_roomsAtLeast o_firstRoomOfType o_slotActive o_slotType o_slotArrive o_slotNights o_exactCount o_atLeastCount o_planRoom o_planGrid o_planOrder o_totalRooms o_activeStays o_planOrderLength o_planCurrent o_planUnplaced po) _
      by_cases hc73 : x87 = (0 : Int32)
      · simp only [if_pos hc73] at h
        refine OEnds.ifT hm_26 rfl (q := 45) rfl ((teq hc73).1) ?_
        refine OEnds.adv hm_26 2 (pc' := 15) (L' := [.val (.ref 0), .val (.int v1), .val (.int (v2 + (1 : Int32)))]) (S' := []) (H' := (bk0 o_roomsOfType o_roomsAtLeast o_firstRoomOfType o_slotActive o_slotType o_slotArrive o_slotNights o_exactCount o_atLeastCount o_planRoom o_planGrid o_planOrder o_totalRooms o_activeStays o_planOrderLength o_planCurrent o_planUnplaced po)) rfl ?_
        exact ih h
      · simp only [if_neg hc73] at h
        refine OEnds.ifF hm_26 rfl ((feq hc73).1) ?_
        refine OEnds.adv hm_26 3 (pc' := 35) (L' := [.val (.ref 0), .val (.int v1), .val (.int v2)]) (S' := [.int v2, .ref 6]) (H' := (bk0 o_roomsOfType o_roomsAtLeast o_firstRoomOfType o_slotActive o_slotType o_slotArrive o_slotNights o_exactCount o_atLeastCount o_planRoom o_planGrid o_planOrder o_totalRooms o_activeStays o_planOrderLength o_planCurrent o_planUnplaced po)) rfl ?_
        obtain ⟨x88, hx88, h⟩ := bnd h
        refine OEnds.plain hm_26 rfl rfl (x_iaload rfl hx88) ?_
        refine OEnds.adv hm_26 1 (pc' := 37) (L' := [.val (.ref 0), .val (.int v1), .val (.int v2)]) (S' := [.int v1, .int x88]) (H' := (bk0 o_roomsOfType o_roomsAtLeast o_firstRoomOfType o_slotActive o_slotType o_slotArrive o_slotNights o_exactCount o_atLeastCount o_planRoom o_planGrid o_planOrder o_totalRooms o_activeStays o_planOrderLength o_planCurrent o_planUnplaced po)) rfl ?_
        by_cases hc74 : x88 = v1
        · simp only [if_pos hc74] at h
          refine OEnds.icmpF hm_26 rfl ((teq hc74).2) ?_
          refine OEnds.adv hm_26 2 (pc' := 42) (L' := [.val (.ref 0), .val (.int v1), .val (.int v2)]) (S' := [.int v2, .ref 0]) (H' := (bk0 o_roomsOfType o_roomsAtLeast o_firstRoomOfType o_slotActive o_slotType o_slotArrive o_slotNights o_exactCount o_atLeastCount o_planRoom o_planGrid o_planOrder o_totalRooms o_activeStays o_planOrderLength o_planCurrent o_planUnplaced po)) rfl ?_
          obtain ⟨⟨s89, s90⟩, hq75, h⟩ := bnd h
          refine OEnds.call0 hm_26 rfl rfl (by decide) rfl (as := [.ref 0, .int v2]) (rest := []) rfl rfl (ok_appendToOrder hq75) ?_
          refine OEnds.adv hm_26 2 (pc' := 15) (L' := [.val (.ref 0), .val (.int v1), .val (.int (v2 + (1 : Int32)))]) (S' := []) (H' := (bk0 o_roomsOfType o_roomsAtLeast o_firstRoomOfType o_slotActive o_slotType o_slotArrive o_slotNights o_exactCount o_atLeastCount o_planRoom o_planGrid s89 o_totalRooms o_activeStays s90 o_planCurrent o_planUnplaced po)) rfl ?_
          exact ih h
        · simp only [if_neg hc74] at h
          refine OEnds.icmpT hm_26 rfl (q := 45) rfl ((feq hc74).2) ?_
          refine OEnds.adv hm_26 2 (pc' := 15) (L' := [.val (.ref 0), .val (.int v1), .val (.int (v2 + (1 : Int32)))]) (S' := []) (H' := (bk0 o_roomsOfType o_roomsAtLeast o_firstRoomOfType o_slotActive o_slotType o_slotArrive o_slotNights o_exactCount o_atLeastCount o_planRoom o_planGrid o_planOrder o_totalRooms o_activeStays o_planOrderLength o_planCurrent o_planUnplaced po)) rfl ?_
          exact ih h
    · simp only [if_neg hc72] at h
      refine OEnds.icmpT hm_26 rfl (q := 51) rfl ((flt hc72).2.1) ?_
      refine OEnds.adv hm_26 2 (pc' := 7) (L' := [.val (.ref 0), .val (.int (v1 + (1 : Int32))), .val (.int v2)]) (S' := []) (H' := (bk0 o_roomsOfType o_roomsAtLeast o_firstRoomOfType o_slotActive o_slotType o_slotArrive o_slotNights o_exactCount o_atLeastCount o_planRoom o_planGrid o_planOrder o_totalRooms o_activeStays o_planOrderLength o_planCurrent o_planUnplaced po)) rfl ?_
      exact hk7 h
theorem ok_buildOrder_7 {o_roomsOfType : List Int32} {o_roomsAtLeast : List Int32} {o_firstRoomOfType : List Int32} {o_slotActive : List Int32} {o_slotType : List Int32} {o_slotArrive : List Int32} {o_slotNights : List Int32} {o_exactCount : List Int32} {o_atLeastCount : List Int32} {o_planRoom : List Int32} {o_planGrid : List Int32} {o_totalRooms : Int32} {o_activeStays : Int32} {o_planCurrent : Int32} {o_planUnplaced : Int32} {po : List ACell} : ∀ (n : Nat), ∀ {o_planOrder : List Int32} {o_planOrderLength : Int32} {v1 : Int32} {d2 : Slot} {w_o_planOrder : List Int32} {w_o_planOrderLength : Int32}, f_buildOrder_7 o_slotActive o_slotArrive n o_planOrder o_planOrderLength v1 = some (w_o_planOrder, w_o_planOrderLength) → OEnds own_P 26 7 [.val (.ref 0), .val (.int v1), d2] [] (bk0 o_roomsOfType o_roomsAtLeast o_firstRoomOfType o_slotActive o_slotType o_slotArrive o_slotNights o_exactCount o_atLeastCount o_planRoom o_planGrid o_planOrder o_totalRooms o_activeStays o_planOrderLength o_planCurrent o_planUnplaced po) (none, (bk0 o_roomsOfType o_roomsAtLeast o_firstRoomOfType o_slotActive o_slotType o_slotArrive o_slotNights o_exactCount o_atLeastCount o_planRoom o_planGrid w_o_planOrder o_totalRooms o_activeStays w_o_planOrderLength o_planCurrent o_planUnplaced po), 0, 0) := by
  intro n
  induction n with
  | zero => intro o_planOrder o_planOrderLength v1 d2 w_o_planOrder w_o_planOrderLength h; cases h
  | succ n ih =>
    intro o_planOrder o_planOrderLength v1 d2 w_o_planOrder w_o_planOrderLength h
    unfold f_buildOrder_7 at h
    refine OEnds.adv hm_26 2 (pc' := 10) (L' := [.val (.ref 0), .val (.int v1), .unset]) (S' := [.int 32, .int v1]) (H' := (bk0 o_roomsOfType o_roomsAtLeast o_firstRoomOfType o_slotActive o_slotType o_slotArrive o_slotNights o_exactCount o_atLeastCount o_planRoom o_planGrid o_planOrder o_totalRooms o_activeStays o_planOrderLength o_planCurrent o_planUnplaced po)) rfl ?_
    by_cases hc76 : v1 < (32 : Int32)
    · simp only [if_pos hc76] at h
      refine OEnds.icmpF hm_26 rfl ((tlt hc76).2.1) ?_
      refine OEnds.adv hm_26 2 (pc' := 15) (L' := [.val (.ref 0), .val (.int v1), .val (.int 0)]) (S' := []) (H' := (bk0 o_roomsOfType o_roomsAtLeast o_firstRoomOfType o_slotActive o_slotType o_slotArrive o_slotNights o_exactCount o_atLeastCount o_planRoom o_planGrid o_planOrder o_totalRooms o_activeStays o_planOrderLength o_planCurrent o_planUnplaced po)) rfl ?_
      exact ok_buildOrder_15 (k7 := f_buildOrder_7 o_slotActive o_slotArrive n) ih 100000 h
    · simp only [if_neg hc76] at h
      refine OEnds.icmpT hm_26 rfl (q := 57) rfl ((flt hc76).2.1) ?_
      show OEnds own_P 26 57 [.val (.ref 0), .val (.int v1), .unset] [] (bk0 o_roomsOfType o_roomsAtLeast o_firstRoomOfType o_slotActive o_slotType o_slotArrive o_slotNights o_exactCount o_atLeastCount o_planRoom o_planGrid o_planOrder o_totalRooms o_activeStays o_planOrderLength o_planCurrent o_planUnplaced po) _
      cases h
      exact OEnds.vret hm_26 rfl rfl
theorem ok_buildOrder {o_roomsOfType : List Int32} {o_roomsAtLeast : List Int32} {o_firstRoomOfType : List Int32} {o_slotActive : List Int32} {o_slotType : List Int32} {o_slotArrive : List Int32} {o_slotNights : List Int32} {o_exactCount : List Int32} {o_atLeastCount : List Int32} {o_planRoom : List Int32} {o_planGrid : List Int32} {o_totalRooms : Int32} {o_activeStays : Int32} {o_planCurrent : Int32} {o_planUnplaced : Int32} {po : List ACell} {o_planOrder : List Int32} {o_planOrderLength : Int32} {w_o_planOrder : List Int32} {w_o_planOrderLength : Int32} (h : f_buildOrder o_slotActive o_slotArrive o_planOrder o_planOrderLength = some (w_o_planOrder, w_o_planOrderLength)) : OEnds own_P 26 0 [.val (.ref 0), .unset, .unset] [] (bk0 o_roomsOfType o_roomsAtLeast o_firstRoomOfType o_slotActive o_slotType o_slotArrive o_slotNights o_exactCount o_atLeastCount o_planRoom o_planGrid o_planOrder o_totalRooms o_activeStays o_planOrderLength o_planCurrent o_planUnplaced po) (none, (bk0 o_roomsOfType o_roomsAtLeast o_firstRoomOfType o_slotActive o_slotType o_slotArrive o_slotNights o_exactCount o_atLeastCount o_planRoom o_planGrid w_o_planOrder o_totalRooms o_activeStays w_o_planOrderLength o_planCurrent o_planUnplaced po), 0, 0) := by
  unfold f_buildOrder at h
  refine OEnds.adv hm_26 5 (pc' := 7) (L' := [.val (.ref 0), .val (.int 0), .unset]) (S' := []) (H' := (bk0 o_roomsOfType o_roomsAtLeast o_firstRoomOfType o_slotActive o_slotType o_slotArrive o_slotNights o_exactCount o_atLeastCount o_planRoom o_planGrid o_planOrder o_totalRooms o_activeStays 0 o_planCurrent o_planUnplaced po)) rfl ?_
  exact ok_buildOrder_7 100000 h
theorem ok_gridIndex {o_roomsOfType : List Int32} {o_roomsAtLeast : List Int32} {o_firstRoomOfType : List Int32} {o_slotActive : List Int32} {o_slotType : List Int32} {o_slotArrive : List Int32} {o_slotNights : List Int32} {o_exactCount : List Int32} {o_atLeastCount : List Int32} {o_planRoom : List Int32} {o_planGrid : List Int32} {o_planOrder : List Int32} {o_totalRooms : Int32} {o_activeStays : Int32} {o_planOrderLength : Int32} {o_planCurrent : Int32} {o_planUnplaced : Int32} {po : List ACell} {v1 : Int32} {v2 : Int32} {res : Int32} (h : f_gridIndex v1 v2 = some res) : OEnds own_P 31 0 [.val (.ref 0), .val (.int v1), .val (.int v2)] [] (bk0 o_roomsOfType o_roomsAtLeast o_firstRoomOfType o_slotActive o_slotType o_slotArrive o_slotNights o_exactCount o_atLeastCount o_planRoom o_planGrid o_planOrder o_totalRooms o_activeStays o_planOrderLength o_planCurrent o_planUnplaced po) (some (.int res), (bk0 o_roomsOfType o_roomsAtLeast o_firstRoomOfType o_slotActive o_slotType o_slotArrive o_slotNights o_exactCount o_atLeastCount o_planRoom o_planGrid o_planOrder o_totalRooms o_activeStays o_planOrderLength o_planCurrent o_planUnplaced po), 0, 0) := by
  unfold f_gridIndex at h
  refine OEnds.adv hm_31 5 (pc' := 6) (L' := [.val (.ref 0), .val (.int v1), .val (.int v2)]) (S' := [.int ((v1 * (32 : Int32)) + v2)]) (H' := (bk0 o_roomsOfType o_roomsAtLeast o_firstRoomOfType o_slotActive o_slotType o_slotArrive o_slotNights o_exactCount o_atLeastCount o_planRoom o_planGrid o_planOrder o_totalRooms o_activeStays o_planOrderLength o_planCurrent o_planUnplaced po)) rfl ?_
  cases h
  exact OEnds.iret hm_31 rfl rfl
theorem ok_gridAt {o_roomsOfType : List Int32} {o_roomsAtLeast : List Int32} {o_firstRoomOfType : List Int32} {o_slotActive : List Int32} {o_slotType : List Int32} {o_slotArrive : List Int32} {o_slotNights : List Int32} {o_exactCount : List Int32} {o_atLeastCount : List Int32} {o_planRoom : List Int32} {o_planGrid : List Int32} {o_planOrder : List Int32} {o_totalRooms : Int32} {o_activeStays : Int32} {o_planOrderLength : Int32} {o_planCurrent : Int32} {o_planUnplaced : Int32} {po : List ACell} {v1 : Int32} {v2 : Int32} {res : Int32} (h : f_gridAt o_planGrid v1 v2 = some res) : OEnds own_P 30 0 [.val (.ref 0), .val (.int v1), .val (.int v2)] [] (bk0 o_roomsOfType o_roomsAtLeast o_firstRoomOfType o_slotActive o_slotType o_slotArrive o_slotNights o_exactCount o_atLeastCount o_planRoom o_planGrid o_planOrder o_totalRooms o_activeStays o_planOrderLength o_planCurrent o_planUnplaced po) (some (.int res), (bk0 o_roomsOfType o_roomsAtLeast o_firstRoomOfType o_slotActive o_slotType o_slotArrive o_slotNights o_exactCount o_atLeastCount o_planRoom o_planGrid o_planOrder o_totalRooms o_activeStays o_planOrderLength o_planCurrent o_planUnplaced po), 0, 0) := by
  unfold f_gridAt at h
  refine OEnds.adv hm_30 1 (pc' := 1) (L' := [.val (.ref 0), .val (.int v1), .val (.int v2)]) (S' := [.int v1]) (H' := (bk0 o_roomsOfType o_roomsAtLeast o_firstRoomOfType o_slotActive o_slotType o_slotArrive o_slotNights o_exactCount o_atLeastCount o_planRoom o_planGrid o_planOrder o_totalRooms o_activeStays o_planOrderLength o_planCurrent o_planUnplaced po)) rfl ?_
  by_cases hc77 : v1 < (0 : Int32)
  · simp only [if_pos hc77] at h
    refine OEnds.ifT hm_30 rfl (q := 18) rfl ((tlt hc77).1) ?_
    refine OEnds.adv hm_30 1 (pc' := 19) (L' := [.val (.ref 0), .val (.int v1), .val (.int v2)]) (S' := [.int (-1)]) (H' := (bk0 o_roomsOfType o_roomsAtLeast o_firstRoomOfType o_slotActive o_slotType o_slotArrive o_slotNights o_exactCount o_atLeastCount o_planRoom o_planGrid o_planOrder o_totalRooms o_activeStays o_planOrderLength o_planCurrent o_planUnplaced po)) rfl ?_
    cases h
    exact OEnds.iret hm_30 rfl rfl
  · simp only [if_neg hc77] at h
    refine OEnds.ifF hm_30 rfl ((flt hc77).1) ?_
    refine OEnds.adv hm_30 2 (pc' := 7) (L' := [.val (.ref 0), .val (.int v1), .val (.int v2)]) (S' := [.int 24, .int v1]) (H' := (bk0 o_roomsOfType o_roomsAtLeast o_firstRoomOfType o_slotActive o_slotType o_slotArrive o_slotNights o_exactCount o_atLeastCount o_planRoom o_planGrid o_planOrder o_totalRooms o_activeStays o_planOrderLength o_planCurrent o_planUnplaced po)) rfl ?_
    by_cases hc78 : v1 < (24 : Int32)
    · simp only [if_pos hc78] at h
      refine OEnds.icmpF hm_30 rfl ((tlt hc78).2.1) ?_
      refine OEnds.adv hm_30 2 (pc' := 12) (L' := [.val (.ref 0), .val (.int v1), .val (.int v2)]) (S' := [.int v2, .ref 0]) (H' := (bk0 o_roomsOfType o_roomsAtLeast o_firstRoomOfType o_slotActive o_slotType o_slotArrive o_slotNights o_exactCount o_atLeastCount o_planRoom o_planGrid o_planOrder o_totalRooms o_activeStays o_planOrderLength o_planCurrent o_planUnplaced po)) rfl ?_
      obtain ⟨r91, hq79, h⟩ := bnd h
      refine OEnds.call0 hm_30 rfl rfl (by decide) rfl (as := [.ref 0, .int v2]) (rest := []) rfl rfl (ok_isValidNight hq79) ?_
      show OEnds own_P 30 15 [.val (.ref 0), .val (.int v1), .val (.int v2)] [.int r91] (bk0 o_roomsOfType o_roomsAtLeast o_firstRoomOfType o_slotActive o_slotType o_slotArrive o_slotNights o_exactCount o_atLeastCount o_planRoom o_planGrid o_planOrder o_totalRooms o_activeStays o_planOrderLength o_planCurrent o_planUnplaced po) _
      by_cases hc80 : r91 = (0 : Int32)
      · simp only [if_pos hc80] at h
        refine OEnds.ifF hm_30 rfl ((teq hc80).2) ?_
        refine OEnds.adv hm_30 1 (pc' := 19) (L' := [.val (.ref 0), .val (.int v1), .val (.int v2)]) (S' := [.int (-1)]) (H' := (bk0 o_roomsOfType o_roomsAtLeast o_firstRoomOfType o_slotActive o_slotType o_slotArrive o_slotNights o_exactCount o_atLeastCount o_planRoom o_planGrid o_planOrder o_totalRooms o_activeStays o_planOrderLength o_planCurrent o_planUnplaced po)) rfl ?_
        cases h
        exact OEnds.iret hm_30 rfl rfl
      · simp only [if_neg hc80] at h
        refine OEnds.ifT hm_30 rfl (q := 20) rfl ((feq hc80).2) ?_
        refine OEnds.adv hm_30 5 (pc' := 27) (L' := [.val (.ref 0), .val (.int v1), .val (.int v2)]) (S' := [.int v2, .int v1, .ref 0, .ref 11]) (H' := (bk0 o_roomsOfType o_roomsAtLeast o_firstRoomOfType o_slotActive o_slotType o_slotArrive o_slotNights o_exactCount o_atLeastCount o_planRoom o_planGrid o_planOrder o_totalRooms o_activeStays o_planOrderLength o_planCurrent o_planUnplaced po)) rfl ?_
        obtain ⟨r92, hq81, h⟩ := bnd h
        refine OEnds.call0 hm_30 rfl rfl (by decide) rfl (as := [.ref 0, .int v1, .int v2]) (rest := [.ref 11]) rfl rfl (ok_gridIndex hq81) ?_
        show OEnds own_P 30 30 [.val (.ref 0), .val (.int v1), .val (.int v2)] [.int r92, .ref 11] (bk0 o_roomsOfType o_roomsAtLeast o_firstRoomOfType o_slotActive o_slotType o_slotArrive o_slotNights o_exactCount o_atLeastCount o_planRoom o_planGrid o_planOrder o_totalRooms o_activeStays o_planOrderLength o_planCurrent o_planUnplaced po) _
        obtain ⟨x93, hx93, h⟩ := bnd h
        refine OEnds.plain hm_30 rfl rfl (x_iaload rfl hx93) ?_
        show OEnds own_P 30 31 [.val (.ref 0), .val (.int v1), .val (.int v2)] [.int x93] (bk0 o_roomsOfType o_roomsAtLeast o_firstRoomOfType o_slotActive o_slotType o_slotArrive o_slotNights o_exactCount o_atLeastCount o_planRoom o_planGrid o_planOrder o_totalRooms o_activeStays o_planOrderLength o_planCurrent o_planUnplaced po) _
        cases h
        exact OEnds.iret hm_30 rfl rfl
    · simp only [if_neg hc78] at h
      refine OEnds.icmpT hm_30 rfl (q := 18) rfl ((flt hc78).2.1) ?_
      refine OEnds.adv hm_30 1 (pc' := 19) (L' := [.val (.ref 0), .val (.int v1), .val (.int v2)]) (S' := [.int (-1)]) (H' := (bk0 o_roomsOfType o_roomsAtLeast o_firstRoomOfType o_slotActive o_slotType o_slotArrive o_slotNights o_exactCount o_atLeastCount o_planRoom o_planGrid o_planOrder o_totalRooms o_activeStays o_planOrderLength o_planCurrent o_planUnplaced po)) rfl ?_
      cases h
      exact OEnds.iret hm_30 rfl rfl
theorem ok_roomIsFree_11 {o_roomsOfType : List Int32} {o_roomsAtLeast : List Int32} {o_firstRoomOfType : List Int32} {o_slotActive : List Int32} {o_slotType : List Int32} {o_slotArrive : List Int32} {o_slotNights : List Int32} {o_exactCount : List Int32} {o_atLeastCount : List Int32} {o_planRoom : List Int32} {o_planGrid : List Int32} {o_planOrder : List Int32} {o_totalRooms : Int32} {o_activeStays : Int32} {o_planOrderLength : Int32} {o_planCurrent : Int32} {o_planUnplaced : Int32} {po : List ACell} : ∀ (n : Nat), ∀ {v1 : Int32} {v4 : Int32} {v5 : Int32} {d2 d3 : Slot} {res : Int32}, f_roomIsFree_11 o_planGrid n v1 v4 v5 = some res → OEnds own_P 29 11 [.val (.ref 0), .val (.int v1), d2, d3, .val (.int v4), .val (.int v5)] [] (bk0 o_roomsOfType o_roomsAtLeast o_firstRoomOfType o_slotActive o_slotType o_slotArrive o_slotNights o_exactCount o_atLeastCount o_planRoom o_planGrid o_planOrder o_totalRooms o_activeStays o_planOrderLength o_planCurrent o_planUnplaced po) (some (.int res), (bk0 o_roomsOfType o_roomsAtLeast o_firstRoomOfType o_slotActive o_slotType o_slotArrive o_slotNights o_exactCount o_atLeastCount o_planRoom o_planGrid o_planOrder o_totalRooms o_activeStays o_planOrderLength o_planCurrent o_planUnplaced po), 0, 0) := by
  intro n
  induction n with
  | zero => intro v1 v4 v5 d2 d3 res h; cases h
  | succ n ih =>
    intro v1 v4 v5 d2 d3 res h
    unfold f_roomIsFree_11 at h
    refine OEnds.adv hm_29 1 (pc' := 13) (L' := [.val (.ref 0), .val (.int v1), .unset, .unset, .val (.int v4), .val (.int v5)]) (S' := [.int v5]) (H' := (bk0 o_roomsOfType o_roomsAtLeast o_firstRoomOfType o_slotActive o_slotType o_slotArrive o_slotNights o_exactCount o_atLeastCount o_planRoom o_planGrid o_planOrder o_totalRooms o_activeStays o_planOrderLength o_planCurrent o_planUnplaced po)) rfl ?_
    by_cases hc82 : v5 < (0 : Int32)
    · simp only [if_pos hc82] at h
      refine OEnds.ifT hm_29 rfl (q := 42) rfl ((tlt hc82).1) ?_
      refine OEnds.adv hm_29 1 (pc' := 43) (L' := [.val (.ref 0), .val (.int v1), .unset, .unset, .val (.int v4), .val (.int v5)]) (S' := [.int 1]) (H' := (bk0 o_roomsOfType o_roomsAtLeast o_firstRoomOfType o_slotActive o_slotType o_slotArrive o_slotNights o_exactCount o_atLeastCount o_planRoom o_planGrid o_planOrder o_totalRooms o_activeStays o_planOrderLength o_planCurrent o_planUnplaced po)) rfl ?_
      cases h
      exact OEnds.iret hm_29 rfl rfl
    · simp only [if_neg hc82] at h
      refine OEnds.ifF hm_29 rfl ((flt hc82).1) ?_
      refine OEnds.adv hm_29 2 (pc' := 20) (L' := [.val (.ref 0), .val (.int v1), .unset, .unset, .val (.int v4), .val (.int v5)]) (S' := [.int v4, .int v5]) (H' := (bk0 o_roomsOfType o_roomsAtLeast o_firstRoomOfType o_slotActive o_slotType o_slotArrive o_slotNights o_exactCount o_atLeastCount o_planRoom o_planGrid o_planOrder o_totalRooms o_activeStays o_planOrderLength o_planCurrent o_planUnplaced po)) rfl ?_
      by_cases hc83 : v5 < v4
      · simp only [if_pos hc83] at h
        refine OEnds.icmpF hm_29 rfl ((tlt hc83).2.1) ?_
        refine OEnds.adv hm_29 3 (pc' := 27) (L' := [.val (.ref 0), .val (.int v1), .unset, .unset, .val (.int v4), .val (.int v5)]) (S' := [.int v5, .int v1, .ref 0]) (H' := (bk0 o_roomsOfType o_roomsAtLeast o_firstRoomOfType o_slotActive o_slotType o_slotArrive o_slotNights o_exactCount o_atLeastCount o_planRoom o_planGrid o_planOrder o_totalRooms o_activeStays o_planOrderLength o_planCurrent o_planUnplaced po)) rfl ?_
        obtain ⟨r95, hq84, h⟩ := bnd h
        refine OEnds.call0 hm_29 rfl rfl (by decide) rfl (as := [.ref 0, .int v1, .int v5]) (rest := []) rfl rfl (ok_gridAt hq84) ?_
        refine OEnds.adv hm_29 1 (pc' := 31) (L' := [.val (.ref 0), .val (.int v1), .unset, .unset, .val (.int v4), .val (.int v5)]) (S' := [.int (-1), .int r95]) (H' := (bk0 o_roomsOfType o_roomsAtLeast o_firstRoomOfType o_slotActive o_slotType o_slotArrive o_slotNights o_exactCount o_atLeastCount o_planRoom o_planGrid o_planOrder o_totalRooms o_activeStays o_planOrderLength o_planCurrent o_planUnplaced po)) rfl ?_
        by_cases hc85 : r95 = (-1 : Int32)
        · simp only [if_pos hc85] at h
          refine OEnds.icmpT hm_29 rfl (q := 36) rfl ((teq hc85).1) ?_
          refine OEnds.adv hm_29 2 (pc' := 11) (L' := [.val (.ref 0), .val (.int v1), .unset, .unset, .val (.int v4), .val (.int (v5 + (1 : Int32)))]) (S' := []) (H' := (bk0 o_roomsOfType o_roomsAtLeast o_firstRoomOfType o_slotActive o_slotType o_slotArrive o_slotNights o_exactCount o_atLeastCount o_planRoom o_planGrid o_planOrder o_totalRooms o_activeStays o_planOrderLength o_planCurrent o_planUnplaced po)) rfl ?_
          exact ih h
        · simp only [if_neg hc85] at h
          refine OEnds.icmpF hm_29 rfl ((feq hc85).1) ?_
          refine OEnds.adv hm_29 1 (pc' := 35) (L' := [.val (.ref 0), .val (.int v1), .unset, .unset, .val (.int v4), .val (.int v5)]) (S' := [.int 0]) (H' := (bk0 o_roomsOfType o_roomsAtLeast o_firstRoomOfType o_slotActive o_slotType o_slotArrive o_slotNights o_exactCount o_atLeastCount o_planRoom o_planGrid o_planOrder o_totalRooms o_activeStays o_planOrderLength o_planCurrent o_planUnplaced po)) rfl ?_
          cases h
          exact OEnds.iret hm_29 rfl rfl
      · simp only [if_neg hc83] at h
        refine OEnds.icmpT hm_29 rfl (q := 42) rfl ((flt hc83).2.1) ?_
        refine OEnds.adv hm_29 1 (pc' := 43) (L' := [.val (.ref 0), .val (.int v1), .unset, .unset, .val (.int v4), .val (.int v5)]) (S' := [.int 1]) (H' := (bk0 o_roomsOfType o_roomsAtLeast o_firstRoomOfType o_slotActive o_slotType o_slotArrive o_slotNights o_exactCount o_atLeastCount o_planRoom o_planGrid o_planOrder o_totalRooms o_activeStays o_planOrderLength o_planCurrent o_planUnplaced po)) rfl ?_
        cases h
        exact OEnds.iret hm_29 rfl rfl
theorem ok_roomIsFree {o_roomsOfType : List Int32} {o_roomsAtLeast : List Int32} {o_firstRoomOfType : List Int32} {o_slotActive : List Int32} {o_slotType : List Int32} {o_slotArrive : List Int32} {o_slotNights : List Int32} {o_exactCount : List Int32} {o_atLeastCount : List Int32} {o_planRoom : List Int32} {o_planGrid : List Int32} {o_planOrder : List Int32} {o_totalRooms : Int32} {o_activeStays : Int32} {o_planOrderLength : Int32} {o_planCurrent : Int32} {o_planUnplaced : Int32} {po : List ACell} {v1 : Int32} {v2 : Int32} {v3 : Int32} {res : Int32} (h : f_roomIsFree o_planGrid v1 v2 v3 = some res) : OEnds own_P 29 0 [.val (.ref 0), .val (.int v1), .val (.int v2), .val (.int v3), .unset, .unset] [] (bk0 o_roomsOfType o_roomsAtLeast o_firstRoomOfType o_slotActive o_slotType o_slotArrive o_slotNights o_exactCount o_atLeastCount o_planRoom o_planGrid o_planOrder o_totalRooms o_activeStays o_planOrderLength o_planCurrent o_planUnplaced po) (some (.int res), (bk0 o_roomsOfType o_roomsAtLeast o_firstRoomOfType o_slotActive o_slotType o_slotArrive o_slotNights o_exactCount o_atLeastCount o_planRoom o_planGrid o_planOrder o_totalRooms o_activeStays o_planOrderLength o_planCurrent o_planUnplaced po), 0, 0) := by
  unfold f_roomIsFree at h
  refine OEnds.adv hm_29 3 (pc' := 3) (L' := [.val (.ref 0), .val (.int v1), .val (.int v2), .val (.int v3), .unset, .unset]) (S' := [.int v3, .int v2, .ref 0]) (H' := (bk0 o_roomsOfType o_roomsAtLeast o_firstRoomOfType o_slotActive o_slotType o_slotArrive o_slotNights o_exactCount o_atLeastCount o_planRoom o_planGrid o_planOrder o_totalRooms o_activeStays o_planOrderLength o_planCurrent o_planUnplaced po)) rfl ?_
  obtain ⟨r94, hq86, h⟩ := bnd h
  refine OEnds.call0 hm_29 rfl rfl (by decide) rfl (as := [.ref 0, .int v2, .int v3]) (rest := []) rfl rfl (ok_endOf hq86) ?_
  refine OEnds.adv hm_29 3 (pc' := 11) (L' := [.val (.ref 0), .val (.int v1), .val (.int v2), .val (.int v3), .val (.int r94), .val (.int v2)]) (S' := []) (H' := (bk0 o_roomsOfType o_roomsAtLeast o_firstRoomOfType o_slotActive o_slotType o_slotArrive o_slotNights o_exactCount o_atLeastCount o_planRoom o_planGrid o_planOrder o_totalRooms o_activeStays o_planOrderLength o_planCurrent o_planUnplaced po)) rfl ?_
  exact ok_roomIsFree_11 100000 h
theorem ok_markRoom_23 {o_roomsOfType : List Int32} {o_roomsAtLeast : List Int32} {o_firstRoomOfType : List Int32} {o_slotActive : List Int32} {o_slotType : List Int32} {o_slotArrive : List Int32} {o_slotNights : List Int32} {o_exactCount : List Int32} {o_atLeastCount : List Int32} {o_planRoom : List Int32} {o_planOrder : List Int32} {o_totalRooms : Int32} {o_activeStays : Int32} {o_planOrderLength : Int32} {o_planCurrent : Int32} {o_planUnplaced : Int32} {po : List ACell} : ∀ (n : Nat), ∀ {o_planGrid : List Int32} {v1 : Int32} {v2 : Int32} {v5 : Int32} {v6 : Int32} {d3 d4 : Slot} {w_o_planGrid : List Int32}, f_markRoom_23 n o_planGrid v1 v2 v5 v6 = some w_o_planGrid → OEnds own_P 32 23 [.val (.ref 0), .val (.int v1), .val (.int v2), d3, d4, .val (.int v5), .val (.int v6)] [] (bk0 o_roomsOfType o_roomsAtLeast o_firstRoomOfType o_slotActive o_slotType o_slotArrive o_slotNights o_exactCount o_atLeastCount o_planRoom o_planGrid o_planOrder o_totalRooms o_activeStays o_planOrderLength o_planCurrent o_planUnplaced po) (none, (bk0 o_roomsOfType o_roomsAtLeast o_firstRoomOfType o_slotActive o_slotType o_slotArrive o_slotNights o_exactCount o_atLeastCount o_planRoom w_o_planGrid o_planOrder o_totalRooms o_activeStays o_planOrderLength o_planCurrent o_planUnplaced po), 0, 0) := by
  intro n
  induction n with
  | zero => intro o_planGrid v1 v2 v5 v6 d3 d4 w_o_planGrid h; cases h
  | succ n ih =>
    intro o_planGrid v1 v2 v5 v6 d3 d4 w_o_planGrid h
    unfold f_markRoom_23 at h
    refine OEnds.adv hm_32 1 (pc' := 25) (L' := [.val (.ref 0), .val (.int v1), .val (.int v2), .unset, .unset, .val (.int v5), .val (.int v6)]) (S' := [.int v6]) (H' := (bk0 o_roomsOfType o_roomsAtLeast o_firstRoomOfType o_slotActive o_slotType o_slotArrive o_slotNights o_exactCount o_atLeastCount o_planRoom o_planGrid o_planOrder o_totalRooms o_activeStays o_planOrderLength o_planCurrent o_planUnplaced po)) rfl ?_
    by_cases hc87 : v6 < (0 : Int32)
    · simp only [if_pos hc87] at h
      refine OEnds.ifT hm_32 rfl (q := 54) rfl ((tlt hc87).1) ?_
      show OEnds own_P 32 54 [.val (.ref 0), .val (.int v1), .val (.int v2), .unset, .unset, .val (.int v5), .val (.int v6)] [] (bk0 o_roomsOfType o_roomsAtLeast o_firstRoomOfType o_slotActive o_slotType o_slotArrive o_slotNights o_exactCount o_atLeastCount o_planRoom o_planGrid o_planOrder o_totalRooms o_activeStays o_planOrderLength o_planCurrent o_planUnplaced po) _
      cases h
      exact OEnds.vret hm_32 rfl rfl
    · simp only [if_neg hc87] at h
      refine OEnds.ifF hm_32 rfl ((flt hc87).1) ?_
      refine OEnds.adv hm_32 2 (pc' := 32) (L' := [.val (.ref 0), .val (.int v1), .val (.int v2), .unset, .unset, .val (.int v5), .val (.int v6)]) (S' := [.int v5, .int v6]) (H' := (bk0 o_roomsOfType o_roomsAtLeast o_firstRoomOfType o_slotActive o_slotType o_slotArrive o_slotNights o_exactCount o_atLeastCount o_planRoom o_planGrid o_planOrder o_totalRooms o_activeStays o_planOrderLength o_planCurrent o_planUnplaced po)) rfl ?_
      by_cases hc88 : v6 < v5
      · simp only [if_pos hc88] at h
        refine OEnds.icmpF hm_32 rfl ((tlt hc88).2.1) ?_
        refine OEnds.adv hm_32 5 (pc' := 43) (L' := [.val (.ref 0), .val (.int v1), .val (.int v2), .unset, .unset, .val (.int v5), .val (.int v6)]) (S' := [.int v6, .int v1, .ref 0, .ref 11]) (H' := (bk0 o_roomsOfType o_roomsAtLeast o_firstRoomOfType o_slotActive o_slotType o_slotArrive o_slotNights o_exactCount o_atLeastCount o_planRoom o_planGrid o_planOrder o_totalRooms o_activeStays o_planOrderLength o_planCurrent o_planUnplaced po)) rfl ?_
        obtain ⟨r97, hq89, h⟩ := bnd h
        refine OEnds.call0 hm_32 rfl rfl (by decide) rfl (as := [.ref 0, .int v1, .int v6]) (rest := [.ref 11]) rfl rfl (ok_gridIndex hq89) ?_
        refine OEnds.adv hm_32 1 (pc' := 47) (L' := [.val (.ref 0), .val (.int v1), .val (.int v2), .unset, .unset, .val (.int v5), .val (.int v6)]) (S' := [.int v2, .int r97, .ref 11]) (H' := (bk0 o_roomsOfType o_roomsAtLeast o_firstRoomOfType o_slotActive o_slotType o_slotArrive o_slotNights o_exactCount o_atLeastCount o_planRoom o_planGrid o_planOrder o_totalRooms o_activeStays o_planOrderLength o_planCurrent o_planUnplaced po)) rfl ?_
        obtain ⟨A98, hA98, h⟩ := bnd h
        refine OEnds.plain hm_32 rfl rfl (x_iastore rfl (Nat.le_of_ble_eq_true rfl) hA98) ?_
        refine OEnds.adv hm_32 2 (pc' := 23) (L' := [.val (.ref 0), .val (.int v1), .val (.int v2), .unset, .unset, .val (.int v5), .val (.int (v6 + (1 : Int32)))]) (S' := []) (H' := (bk0 o_roomsOfType o_roomsAtLeast o_firstRoomOfType o_slotActive o_slotType o_slotArrive o_slotNights o_exactCount o_atLeastCount o_planRoom A98 o_planOrder o_totalRooms o_activeStays o_planOrderLength o_planCurrent o_planUnplaced po)) rfl ?_
        exact ih h
      · simp only [if_neg hc88] at h
        refine OEnds.icmpT hm_32 rfl (q := 54) rfl ((flt hc88).2.1) ?_
        show OEnds own_P 32 54 [.val (.ref 0), .val (.int v1), .val (.int v2), .unset, .unset, .val (.int v5), .val (.int v6)] [] (bk0 o_roomsOfType o_roomsAtLeast o_firstRoomOfType o_slotActive o_slotType o_slotArrive o_slotNights o_exactCount o_atLeastCount o_planRoom o_planGrid o_planOrder o_totalRooms o_activeStays o_planOrderLength o_planCurrent o_planUnplaced po) _
        cases h
        exact OEnds.vret hm_32 rfl rfl
theorem ok_markRoom {o_roomsOfType : List Int32} {o_roomsAtLeast : List Int32} {o_firstRoomOfType : List Int32} {o_slotActive : List Int32} {o_slotType : List Int32} {o_slotArrive : List Int32} {o_slotNights : List Int32} {o_exactCount : List Int32} {o_atLeastCount : List Int32} {o_planRoom : List Int32} {o_planOrder : List Int32} {o_totalRooms : Int32} {o_activeStays : Int32} {o_planOrderLength : Int32} {o_planCurrent : Int32} {o_planUnplaced : Int32} {po : List ACell} {o_planGrid : List Int32} {v1 : Int32} {v2 : Int32} {v3 : Int32} {v4 : Int32} {w_o_planGrid : List Int32} (h : f_markRoom o_planGrid v1 v2 v3 v4 = some w_o_planGrid) : OEnds own_P 32 0 [.val (.ref 0), .val (.int v1), .val (.int v2), .val (.int v3), .val (.int v4), .unset, .unset] [] (bk0 o_roomsOfType o_roomsAtLeast o_firstRoomOfType o_slotActive o_slotType o_slotArrive o_slotNights o_exactCount o_atLeastCount o_planRoom o_planGrid o_planOrder o_totalRooms o_activeStays o_planOrderLength o_planCurrent o_planUnplaced po) (none, (bk0 o_roomsOfType o_roomsAtLeast o_firstRoomOfType o_slotActive o_slotType o_slotArrive o_slotNights o_exactCount o_atLeastCount o_planRoom w_o_planGrid o_planOrder o_totalRooms o_activeStays o_planOrderLength o_planCurrent o_planUnplaced po), 0, 0) := by
  unfold f_markRoom at h
  refine OEnds.adv hm_32 1 (pc' := 1) (L' := [.val (.ref 0), .val (.int v1), .val (.int v2), .val (.int v3), .val (.int v4), .unset, .unset]) (S' := [.int v1]) (H' := (bk0 o_roomsOfType o_roomsAtLeast o_firstRoomOfType o_slotActive o_slotType o_slotArrive o_slotNights o_exactCount o_atLeastCount o_planRoom o_planGrid o_planOrder o_totalRooms o_activeStays o_planOrderLength o_planCurrent o_planUnplaced po)) rfl ?_
  by_cases hc90 : v1 < (0 : Int32)
  · simp only [if_pos hc90] at h
    refine OEnds.ifT hm_32 rfl (q := 10) rfl ((tlt hc90).1) ?_
    show OEnds own_P 32 10 [.val (.ref 0), .val (.int v1), .val (.int v2), .val (.int v3), .val (.int v4), .unset, .unset] [] (bk0 o_roomsOfType o_roomsAtLeast o_firstRoomOfType o_slotActive o_slotType o_slotArrive o_slotNights o_exactCount o_atLeastCount o_planRoom o_planGrid o_planOrder o_totalRooms o_activeStays o_planOrderLength o_planCurrent o_planUnplaced po) _
    cases h
    exact OEnds.vret hm_32 rfl rfl
  · simp only [if_neg hc90] at h
    refine OEnds.ifF hm_32 rfl ((flt hc90).1) ?_
    refine OEnds.adv hm_32 2 (pc' := 7) (L' := [.val (.ref 0), .val (.int v1), .val (.int v2), .val (.int v3), .val (.int v4), .unset, .unset]) (S' := [.int 24, .int v1]) (H' := (bk0 o_roomsOfType o_roomsAtLeast o_firstRoomOfType o_slotActive o_slotType o_slotArrive o_slotNights o_exactCount o_atLeastCount o_planRoom o_planGrid o_planOrder o_totalRooms o_activeStays o_planOrderLength o_planCurrent o_planUnplaced po)) rfl ?_
    by_cases hc91 : v1 < (24 : Int32)
    · simp only [if_pos hc91] at h
      refine OEnds.icmpT hm_32 rfl (q := 11) rfl ((tlt hc91).1) ?_
      refine OEnds.adv hm_32 3 (pc' := 15) (L' := [.val (.ref 0), .val (.int v1), .val (.int v2), .val (.int v3), .val (.int v4), .unset, .unset]) (S' := [.int v4, .int v3, .ref 0]) (H' := (bk0 o_roomsOfType o_roomsAtLeast o_firstRoomOfType o_slotActive o_slotType o_slotArrive o_slotNights o_exactCount o_atLeastCount o_planRoom o_planGrid o_planOrder o_totalRooms o_activeStays o_planOrderLength o_planCurrent o_planUnplaced po)) rfl ?_
      obtain ⟨r96, hq92, h⟩ := bnd h
      refine OEnds.call0 hm_32 rfl rfl (by decide) rfl (as := [.ref 0, .int v3, .int v4]) (rest := []) rfl rfl (ok_endOf hq92) ?_
      refine OEnds.adv hm_32 3 (pc' := 23) (L' := [.val (.ref 0), .val (.int v1), .val (.int v2), .val (.int v3), .val (.int v4), .val (.int r96), .val (.int v3)]) (S' := []) (H' := (bk0 o_roomsOfType o_roomsAtLeast o_firstRoomOfType o_slotActive o_slotType o_slotArrive o_slotNights o_exactCount o_atLeastCount o_planRoom o_planGrid o_planOrder o_totalRooms o_activeStays o_planOrderLength o_planCurrent o_planUnplaced po)) rfl ?_
      exact ok_markRoom_23 100000 h
    · simp only [if_neg hc91] at h
      refine OEnds.icmpF hm_32 rfl ((flt hc91).1) ?_
      show OEnds own_P 32 10 [.val (.ref 0), .val (.int v1), .val (.int v2), .val (.int v3), .val (.int v4), .unset, .unset] [] (bk0 o_roomsOfType o_roomsAtLeast o_firstRoomOfType o_slotActive o_slotType o_slotArrive o_slotNights o_exactCount o_atLeastCount o_planRoom o_planGrid o_planOrder o_totalRooms o_activeStays o_planOrderLength o_planCurrent o_planUnplaced po) _
      cases h
      exact OEnds.vret hm_32 rfl rfl
theorem ok_placeStay_78 {o_roomsOfType : List Int32} {o_roomsAtLeast : List Int32} {o_firstRoomOfType : List Int32} {o_slotActive : List Int32} {o_slotType : List Int32} {o_slotArrive : List Int32} {o_slotNights : List Int32} {o_exactCount : List Int32} {o_atLeastCount : List Int32} {o_planOrder : List Int32} {o_totalRooms : Int32} {o_activeStays : Int32} {o_planOrderLength : Int32} {o_planCurrent : Int32} {o_planUnplaced : Int32} {po : List ACell} : ∀ {o_planRoom : List Int32} {o_planGrid : List Int32} {v1 : Int32} {v3 : Int32} {v4 : Int32} {v5 : Int32} {d2 : Slot} {res : Int32} {w_o_planRoom : List Int32} {w_o_planGrid : List Int32}, f_placeStay_78 o_firstRoomOfType o_slotActive o_slotType o_slotArrive o_slotNights o_totalRooms o_planRoom o_planGrid v1 v3 v4 v5 = some (res, w_o_planRoom, w_o_planGrid) → OEnds own_P 28 78 [.val (.ref 0), .val (.int v1), d2, .val (.int v3), .val (.int v4), .val (.int v5)] [] (bk0 o_roomsOfType o_roomsAtLeast o_firstRoomOfType o_slotActive o_slotType o_slotArrive o_slotNights o_exactCount o_atLeastCount o_planRoom o_planGrid o_planOrder o_totalRooms o_activeStays o_planOrderLength o_planCurrent o_planUnplaced po) (some (.int res), (bk0 o_roomsOfType o_roomsAtLeast o_firstRoomOfType o_slotActive o_slotType o_slotArrive o_slotNights o_exactCount o_atLeastCount w_o_planRoom w_o_planGrid o_planOrder o_totalRooms o_activeStays o_planOrderLength o_planCurrent o_planUnplaced po), 0, 0) := by
  intro o_planRoom o_planGrid v1 v3 v4 v5 d2 res w_o_planRoom w_o_planGrid h
  unfold f_placeStay_78 at h
  refine OEnds.adv hm_28 5 (pc' := 85) (L' := [.val (.ref 0), .val (.int v1), .unset, .val (.int v3), .val (.int v4), .val (.int v5)]) (S' := [.int v4, .int v3, .int v1, .int v5, .ref 0]) (H' := (bk0 o_roomsOfType o_roomsAtLeast o_firstRoomOfType o_slotActive o_slotType o_slotArrive o_slotNights o_exactCount o_atLeastCount o_planRoom o_planGrid o_planOrder o_totalRooms o_activeStays o_planOrderLength o_planCurrent o_planUnplaced po)) rfl ?_
  obtain ⟨s106, hq93, h⟩ := bnd h
  refine OEnds.call0 hm_28 rfl rfl (by decide) rfl (as := [.ref 0, .int v5, .int v1, .int v3, .int v4]) (rest := []) rfl rfl (ok_markRoom hq93) ?_
  refine OEnds.adv hm_28 4 (pc' := 95) (L' := [.val (.ref 0), .val (.int v1), .unset, .val (.int v3), .val (.int v4), .val (.int v5)]) (S' := [.int v5, .int v1, .ref 10]) (H' := (bk0 o_roomsOfType o_roomsAtLeast o_firstRoomOfType o_slotActive o_slotType o_slotArrive o_slotNights o_exactCount o_atLeastCount o_planRoom s106 o_planOrder o_totalRooms o_activeStays o_planOrderLength o_planCurrent o_planUnplaced po)) rfl ?_
  obtain ⟨A107, hA107, h⟩ := bnd h
  refine OEnds.plain hm_28 rfl rfl (x_iastore rfl (Nat.le_of_ble_eq_true rfl) hA107) ?_
  refine OEnds.adv hm_28 1 (pc' := 97) (L' := [.val (.ref 0), .val (.int v1), .unset, .val (.int v3), .val (.int v4), .val (.int v5)]) (S' := [.int 1]) (H' := (bk0 o_roomsOfType o_roomsAtLeast o_firstRoomOfType o_slotActive o_slotType o_slotArrive o_slotNights o_exactCount o_atLeastCount A107 s106 o_planOrder o_totalRooms o_activeStays o_planOrderLength o_planCurrent o_planUnplaced po)) rfl ?_
  cases h
  exact OEnds.iret hm_28 rfl rfl
theorem ok_placeStay_50 {o_roomsOfType : List Int32} {o_roomsAtLeast : List Int32} {o_firstRoomOfType : List Int32} {o_slotActive : List Int32} {o_slotType : List Int32} {o_slotArrive : List Int32} {o_slotNights : List Int32} {o_exactCount : List Int32} {o_atLeastCount : List Int32} {o_planOrder : List Int32} {o_totalRooms : Int32} {o_activeStays : Int32} {o_planOrderLength : Int32} {o_planCurrent : Int32} {o_planUnplaced : Int32} {po : List ACell} {k78 : List Int32 → List Int32 → Int32 → Int32 → Int32 → Int32 → Option (Int32 × List Int32 × List Int32)} (hk78 : ∀ {o_planRoom : List Int32} {o_planGrid : List Int32} {v1 : Int32} {v3 : Int32} {v4 : Int32} {v5 : Int32} {d2 : Slot} {res : Int32} {w_o_planRoom : List Int32} {w_o_planGrid : List Int32}, k78 o_planRoom o_planGrid v1 v3 v4 v5 = some (res, w_o_planRoom, w_o_planGrid) → OEnds own_P 28 78 [.val (.ref 0), .val (.int v1), d2, .val (.int v3), .val (.int v4), .val (.int v5)] [] (bk0 o_roomsOfType o_roomsAtLeast o_firstRoomOfType o_slotActive o_slotType o_slotArrive o_slotNights o_exactCount o_atLeastCount o_planRoom o_planGrid o_planOrder o_totalRooms o_activeStays o_planOrderLength o_planCurrent o_planUnplaced po) (some (.int res), (bk0 o_roomsOfType o_roomsAtLeast o_firstRoomOfType o_slotActive o_slotType o_slotArrive o_slotNights o_exactCount o_atLeastCount w_o_planRoom w_o_planGrid o_planOrder o_totalRooms o_activeStays o_planOrderLength o_planCurrent o_planUnplaced po), 0, 0)) : ∀ (n : Nat), ∀ {o_planRoom : List Int32} {o_planGrid : List Int32} {v1 : Int32} {v3 : Int32} {v4 : Int32} {v5 : Int32} {d2 : Slot} {res : Int32} {w_o_planRoom : List Int32} {w_o_planGrid : List Int32}, f_placeStay_50 k78 o_firstRoomOfType o_slotActive o_slotType o_slotArrive o_slotNights o_totalRooms n o_planRoom o_planGrid v1 v3 v4 v5 = some (res, w_o_planRoom, w_o_planGrid) → OEnds own_P 28 50 [.val (.ref 0), .val (.int v1), d2, .val (.int v3), .val (.int v4), .val (.int v5)] [] (bk0 o_roomsOfType o_roomsAtLeast o_firstRoomOfType o_slotActive o_slotType o_slotArrive o_slotNights o_exactCount o_atLeastCount o_planRoom o_planGrid o_planOrder o_totalRooms o_activeStays o_planOrderLength o_planCurrent o_planUnplaced po) (some (.int res), (bk0 o_roomsOfType o_roomsAtLeast o_firstRoomOfType o_slotActive o_slotType o_slotArrive o_slotNights o_exactCount o_atLeastCount w_o_planRoom w_o_planGrid o_planOrder o_totalRooms o_activeStays o_planOrderLength o_planCurrent o_planUnplaced po), 0, 0) := by
  intro n
  induction n with
  | zero => intro o_planRoom o_planGrid v1 v3 v4 v5 d2 res w_o_planRoom w_o_planGrid h; cases h
  | succ n ih =>
    intro o_planRoom o_planGrid v1 v3 v4 v5 d2 res w_o_planRoom w_o_planGrid h
    unfold f_placeStay_50 at h
    refine OEnds.adv hm_28 3 (pc' := 56) (L' := [.val (.ref 0), .val (.int v1), .unset, .val (.int v3), .val (.int v4), .val (.int v5)]) (S' := [.int o_totalRooms, .int v5]) (H' := (bk0 o_roomsOfType o_roomsAtLeast o_firstRoomOfType o_slotActive o_slotType o_slotArrive o_slotNights o_exactCount o_atLeastCount o_planRoom o_planGrid o_planOrder o_totalRooms o_activeStays o_planOrderLength o_planCurrent o_planUnplaced po)) rfl ?_
    by_cases hc94 : v5 < o_totalRooms
    · simp only [if_pos hc94] at h
      refine OEnds.icmpF hm_28 rfl ((tlt hc94).2.1) ?_
      refine OEnds.adv hm_28 2 (pc' := 63) (L' := [.val (.ref 0), .val (.int v1), .unset, .val (.int v3), .val (.int v4), .val (.int v5)]) (S' := [.int 24, .int v5]) (H' := (bk0 o_roomsOfType o_roomsAtLeast o_firstRoomOfType o_slotActive o_slotType o_slotArrive o_slotNights o_exactCount o_atLeastCount o_planRoom o_planGrid o_planOrder o_totalRooms o_activeStays o_planOrderLength o_planCurrent o_planUnplaced po)) rfl ?_
      by_cases hc95 : v5 < (24 : Int32)
      · simp only [if_pos hc95] at h
        refine OEnds.icmpF hm_28 rfl ((tlt hc95).2.1) ?_
        refine OEnds.adv hm_28 4 (pc' := 72) (L' := [.val (.ref 0), .val (.int v1), .unset, .val (.int v3), .val (.int v4), .val (.int v5)]) (S' := [.int v4, .int v3, .int v5, .ref 0]) (H' := (bk0 o_roomsOfType o_roomsAtLeast o_firstRoomOfType o_slotActive o_slotType o_slotArrive o_slotNights o_exactCount o_atLeastCount o_planRoom o_planGrid o_planOrder o_totalRooms o_activeStays o_planOrderLength o_planCurrent o_planUnplaced po)) rfl ?_
        obtain ⟨r105, hq96, h⟩ := bnd h
        refine OEnds.call0 hm_28 rfl rfl (by decide) rfl (as := [.ref 0, .int v5, .int v3, .int v4]) (rest := []) rfl rfl (ok_roomIsFree hq96) ?_
        show OEnds own_P 28 75 [.val (.ref 0), .val (.int v1), .unset, .val (.int v3), .val (.int v4), .val (.int v5)] [.int r105] (bk0 o_roomsOfType o_roomsAtLeast o_firstRoomOfType o_slotActive o_slotType o_slotArrive o_slotNights o_exactCount o_atLeastCount o_planRoom o_planGrid o_planOrder o_totalRooms o_activeStays o_planOrderLength o_planCurrent o_planUnplaced po) _
        by_cases hc97 : r105 = (0 : Int32)
        · simp only [if_pos hc97] at h
          refine OEnds.ifT hm_28 rfl (q := 98) rfl ((teq hc97).1) ?_
          refine OEnds.adv hm_28 2 (pc' := 50) (L' := [.val (.ref 0), .val (.int v1), .unset, .val (.int v3), .val (.int v4), .val (.int (v5 + (1 : Int32)))]) (S' := []) (H' := (bk0 o_roomsOfType o_roomsAtLeast o_firstRoomOfType o_slotActive o_slotType o_slotArrive o_slotNights o_exactCount o_atLeastCount o_planRoom o_planGrid o_planOrder o_totalRooms o_activeStays o_planOrderLength o_planCurrent o_planUnplaced po)) rfl ?_
          exact ih h
        · simp only [if_neg hc97] at h
          refine OEnds.ifF hm_28 rfl ((feq hc97).1) ?_
          show OEnds own_P 28 78 [.val (.ref 0), .val (.int v1), .unset, .val (.int v3), .val (.int v4), .val (.int v5)] [] (bk0 o_roomsOfType o_roomsAtLeast o_firstRoomOfType o_slotActive o_slotType o_slotArrive o_slotNights o_exactCount o_atLeastCount o_planRoom o_planGrid o_planOrder o_totalRooms o_activeStays o_planOrderLength o_planCurrent o_planUnplaced po) _
          exact hk78 h
      · simp only [if_neg hc95] at h
        refine OEnds.icmpT hm_28 rfl (q := 104) rfl ((flt hc95).2.1) ?_
        refine OEnds.adv hm_28 1 (pc' := 105) (L' := [.val (.ref 0), .val (.int v1), .unset, .val (.int v3), .val (.int v4), .val (.int v5)]) (S' := [.int 0]) (H' := (bk0 o_roomsOfType o_roomsAtLeast o_firstRoomOfType o_slotActive o_slotType o_slotArrive o_slotNights o_exactCount o_atLeastCount o_planRoom o_planGrid o_planOrder o_totalRooms o_activeStays o_planOrderLength o_planCurrent o_planUnplaced po)) rfl ?_
        cases h
        exact OEnds.iret hm_28 rfl rfl
    · simp only [if_neg hc94] at h
      refine OEnds.icmpT hm_28 rfl (q := 104) rfl ((flt hc94).2.1) ?_
      refine OEnds.adv hm_28 1 (pc' := 105) (L' := [.val (.ref 0), .val (.int v1), .unset, .val (.int v3), .val (.int v4), .val (.int v5)]) (S' := [.int 0]) (H' := (bk0 o_roomsOfType o_roomsAtLeast o_firstRoomOfType o_slotActive o_slotType o_slotArrive o_slotNights o_exactCount o_atLeastCount o_planRoom o_planGrid o_planOrder o_totalRooms o_activeStays o_planOrderLength o_planCurrent o_planUnplaced po)) rfl ?_
      cases h
      exact OEnds.iret hm_28 rfl rfl
theorem ok_placeStay {o_roomsOfType : List Int32} {o_roomsAtLeast : List Int32} {o_firstRoomOfType : List Int32} {o_slotActive : List Int32} {o_slotType : List Int32} {o_slotArrive : List Int32} {o_slotNights : List Int32} {o_exactCount : List Int32} {o_atLeastCount : List Int32} {o_planOrder : List Int32} {o_totalRooms : Int32} {o_activeStays : Int32} {o_planOrderLength : Int32} {o_planCurrent : Int32} {o_planUnplaced : Int32} {po : List ACell} {o_planRoom : List Int32} {o_planGrid : List Int32} {v1 : Int32} {res : Int32} {w_o_planRoom : List Int32} {w_o_planGrid : List Int32} (h : f_placeStay o_firstRoomOfType o_slotActive o_slotType o_slotArrive o_slotNights o_totalRooms o_planRoom o_planGrid v1 = some (res, w_o_planRoom, w_o_planGrid)) : OEnds own_P 28 0 [.val (.ref 0), .val (.int v1), .unset, .unset, .unset, .unset] [] (bk0 o_roomsOfType o_roomsAtLeast o_firstRoomOfType o_slotActive o_slotType o_slotArrive o_slotNights o_exactCount o_atLeastCount o_planRoom o_planGrid o_planOrder o_totalRooms o_activeStays o_planOrderLength o_planCurrent o_planUnplaced po) (some (.int res), (bk0 o_roomsOfType o_roomsAtLeast o_firstRoomOfType o_slotActive o_slotType o_slotArrive o_slotNights o_exactCount o_atLeastCount w_o_planRoom w_o_planGrid o_planOrder o_totalRooms o_activeStays o_planOrderLength o_planCurrent o_planUnplaced po), 0, 0) := by
  unfold f_placeStay at h
  refine OEnds.adv hm_28 2 (pc' := 2) (L' := [.val (.ref 0), .val (.int v1), .unset, .unset, .unset, .unset]) (S' := [.int v1, .ref 0]) (H' := (bk0 o_roomsOfType o_roomsAtLeast o_firstRoomOfType o_slotActive o_slotType o_slotArrive o_slotNights o_exactCount o_atLeastCount o_planRoom o_planGrid o_planOrder o_totalRooms o_activeStays o_planOrderLength o_planCurrent o_planUnplaced po)) rfl ?_
  obtain ⟨r99, hq98, h⟩ := bnd h
  refine OEnds.call0 hm_28 rfl rfl (by decide) rfl (as := [.ref 0, .int v1]) (rest := []) rfl rfl (ok_isActiveStay hq98) ?_
  show OEnds own_P 28 5 [.val (.ref 0), .val (.int v1), .unset, .unset, .unset, .unset] [.int r99] (bk0 o_roomsOfType o_roomsAtLeast o_firstRoomOfType o_slotActive o_slotType o_slotArrive o_slotNights o_exactCount o_atLeastCount o_planRoom o_planGrid o_planOrder o_totalRooms o_activeStays o_planOrderLength o_planCurrent o_planUnplaced po) _
  by_cases hc99 : r99 = (0 : Int32)
  · simp only [if_pos hc99] at h
    refine OEnds.ifF hm_28 rfl ((teq hc99).2) ?_
    refine OEnds.adv hm_28 1 (pc' := 9) (L' := [.val (.ref 0), .val (.int v1), .unset, .unset, .unset, .unset]) (S' := [.int 0]) (H' := (bk0 o_roomsOfType o_roomsAtLeast o_firstRoomOfType o_slotActive o_slotType o_slotArrive o_slotNights o_exactCount o_atLeastCount o_planRoom o_planGrid o_planOrder o_totalRooms o_activeStays o_planOrderLength o_planCurrent o_planUnplaced po)) rfl ?_
    cases h
    exact OEnds.iret hm_28 rfl rfl
  · simp only [if_neg hc99] at h
    refine OEnds.ifT hm_28 rfl (q := 10) rfl ((feq hc99).2) ?_
    refine OEnds.adv hm_28 3 (pc' := 15) (L' := [.val (.ref 0), .val (.int v1), .unset, .unset, .unset, .unset]) (S' := [.int v1, .ref 5]) (H' := (bk0 o_roomsOfType o_roomsAtLeast o_firstRoomOfType o_slotActive o_slotType o_slotArrive o_slotNights o_exactCount o_atLeastCount o_planRoom o_planGrid o_planOrder o_totalRooms o_activeStays o_planOrderLength o_planCurrent o_planUnplaced po)) rfl ?_
    obtain ⟨x100, hx100, h⟩ := bnd h
    refine OEnds.plain hm_28 rfl rfl (x_iaload rfl hx100) ?_
    refine OEnds.adv hm_28 3 (pc' := 19) (L' := [.val (.ref 0), .val (.int v1), .val (.int x100), .unset, .unset, .unset]) (S' := [.int x100, .ref 0]) (H' := (bk0 o_roomsOfType o_roomsAtLeast o_firstRoomOfType o_slotActive o_slotType o_slotArrive o_slotNights o_exactCount o_atLeastCount o_planRoom o_planGrid o_planOrder o_totalRooms o_activeStays o_planOrderLength o_planCurrent o_planUnplaced po)) rfl ?_
    obtain ⟨r101, hq100, h⟩ := bnd h
    refine OEnds.call0 hm_28 rfl rfl (by decide) rfl (as := [.ref 0, .int x100]) (rest := []) rfl rfl (ok_isValidType hq100) ?_
    show OEnds own_P 28 22 [.val (.ref 0), .val (.int v1), .val (.int x100), .unset, .unset, .unset] [.int r101] (bk0 o_roomsOfType o_roomsAtLeast o_firstRoomOfType o_slotActive o_slotType o_slotArrive o_slotNights o_exactCount o_atLeastCount o_planRoom o_planGrid o_planOrder o_totalRooms o_activeStays o_planOrderLength o_planCurrent o_planUnplaced po) _
    by_cases hc101 : r101 = (0 : Int32)
    · simp only [if_pos hc101] at h
      refine OEnds.ifF hm_28 rfl ((teq hc101).2) ?_
      refine OEnds.adv hm_28 1 (pc' := 26) (L' := [.val (.ref 0), .val (.int v1), .val (.int x100), .unset, .unset, .unset]) (S' := [.int 0]) (H' := (bk0 o_roomsOfType o_roomsAtLeast o_firstRoomOfType o_slotActive o_slotType o_slotArrive o_slotNights o_exactCount o_atLeastCount o_planRoom o_planGrid o_planOrder o_totalRooms o_activeStays o_planOrderLength o_planCurrent o_planUnplaced po)) rfl ?_
      cases h
      exact OEnds.iret hm_28 rfl rfl
    · simp only [if_neg hc101] at h
      refine OEnds.ifT hm_28 rfl (q := 27) rfl ((feq hc101).2) ?_
      refine OEnds.adv hm_28 3 (pc' := 32) (L' := [.val (.ref 0), .val (.int v1), .val (.int x100), .unset, .unset, .unset]) (S' := [.int v1, .ref 6]) (H' := (bk0 o_roomsOfType o_roomsAtLeast o_firstRoomOfType o_slotActive o_slotType o_slotArrive o_slotNights o_exactCount o_atLeastCount o_planRoom o_planGrid o_planOrder o_totalRooms o_activeStays o_planOrderLength o_planCurrent o_planUnplaced po)) rfl ?_
      obtain ⟨x102, hx102, h⟩ := bnd h
      refine OEnds.plain hm_28 rfl rfl (x_iaload rfl hx102) ?_
      refine OEnds.adv hm_28 4 (pc' := 39) (L' := [.val (.ref 0), .val (.int v1), .val (.int x100), .val (.int x102), .unset, .unset]) (S' := [.int v1, .ref 7]) (H' := (bk0 o_roomsOfType o_roomsAtLeast o_firstRoomOfType o_slotActive o_slotType o_slotArrive o_slotNights o_exactCount o_atLeastCount o_planRoom o_planGrid o_planOrder o_totalRooms o_activeStays o_planOrderLength o_planCurrent o_planUnplaced po)) rfl ?_
      obtain ⟨x103, hx103, h⟩ := bnd h
      refine OEnds.plain hm_28 rfl rfl (x_iaload rfl hx103) ?_
      refine OEnds.adv hm_28 4 (pc' := 47) (L' := [.val (.ref 0), .val (.int v1), .val (.int x100), .val (.int x102), .val (.int x103), .unset]) (S' := [.int x100, .ref 3]) (H' := (bk0 o_roomsOfType o_roomsAtLeast o_firstRoomOfType o_slotActive o_slotType o_slotArrive o_slotNights o_exactCount o_atLeastCount o_planRoom o_planGrid o_planOrder o_totalRooms o_activeStays o_planOrderLength o_planCurrent o_planUnplaced po)) rfl ?_
      obtain ⟨x104, hx104, h⟩ := bnd h
      refine OEnds.plain hm_28 rfl rfl (x_iaload rfl hx104) ?_
      refine OEnds.adv hm_28 1 (pc' := 50) (L' := [.val (.ref 0), .val (.int v1), .val (.int x100), .val (.int x102), .val (.int x103), .val (.int x104)]) (S' := []) (H' := (bk0 o_roomsOfType o_roomsAtLeast o_firstRoomOfType o_slotActive o_slotType o_slotArrive o_slotNights o_exactCount o_atLeastCount o_planRoom o_planGrid o_planOrder o_totalRooms o_activeStays o_planOrderLength o_planCurrent o_planUnplaced po)) rfl ?_
      exact ok_placeStay_50 (k78 := f_placeStay_78 o_firstRoomOfType o_slotActive o_slotType o_slotArrive o_slotNights o_totalRooms) ok_placeStay_78 100000 h
theorem ok_assign_58 {o_roomsOfType : List Int32} {o_roomsAtLeast : List Int32} {o_firstRoomOfType : List Int32} {o_slotActive : List Int32} {o_slotType : List Int32} {o_slotArrive : List Int32} {o_slotNights : List Int32} {o_exactCount : List Int32} {o_atLeastCount : List Int32} {o_totalRooms : Int32} {o_activeStays : Int32} {po : List ACell} : ∀ {o_planRoom : List Int32} {o_planGrid : List Int32} {o_planOrder : List Int32} {o_planOrderLength : Int32} {o_planCurrent : Int32} {o_planUnplaced : Int32} {v1 : Int32} {d2 d3 d4 : Slot} {res : Int32} {w_o_planRoom : List Int32} {w_o_planGrid : List Int32} {w_o_planOrder : List Int32} {w_o_planOrderLength : Int32} {w_o_planCurrent : Int32} {w_o_planUnplaced : Int32}, f_assign_58 o_firstRoomOfType o_slotActive o_slotType o_slotArrive o_slotNights o_totalRooms o_planRoom o_planGrid o_planOrder o_planOrderLength o_planCurrent o_planUnplaced v1 = some (res, w_o_planRoom, w_o_planGrid, w_o_planOrder, w_o_planOrderLength, w_o_planCurrent, w_o_planUnplaced) → OEnds own_P 25 58 [.val (.ref 0), .val (.int v1), d2, d3, d4] [] (bk0 o_roomsOfType o_roomsAtLeast o_firstRoomOfType o_slotActive o_slotType o_slotArrive o_slotNights o_exactCount o_atLeastCount o_planRoom o_planGrid o_planOrder o_totalRooms o_activeStays o_planOrderLength o_planCurrent o_planUnplaced po) (some (.int res), (bk0 o_roomsOfType o_roomsAtLeast o_firstRoomOfType o_slotActive o_slotType o_slotArrive o_slotNights o_exactCount o_atLeastCount w_o_planRoom w_o_planGrid w_o_planOrder o_totalRooms o_activeStays w_o_planOrderLength w_o_planCurrent w_o_planUnplaced po), 0, 0) := by
  intro o_planRoom o_planGrid o_planOrder o_planOrderLength o_planCurrent o_planUnplaced v1 d2 d3 d4 res w_o_planRoom w_o_planGrid w_o_planOrder w_o_planOrderLength w_o_planCurrent w_o_planUnplaced h
  unfold f_assign_58 at h
  refine OEnds.adv hm_25 7 (pc' := 69) (L' := [.val (.ref 0), .val (.int v1), .unset, .unset, .unset]) (S' := [.int v1]) (H' := (bk0 o_roomsOfType o_roomsAtLeast o_firstRoomOfType o_slotActive o_slotType o_slotArrive o_slotNights o_exactCount o_atLeastCount o_planRoom o_planGrid o_planOrder o_totalRooms o_activeStays o_planOrderLength 1 v1 po)) rfl ?_
  cases h
  exact OEnds.iret hm_25 rfl rfl
theorem ok_assign_16 {o_roomsOfType : List Int32} {o_roomsAtLeast : List Int32} {o_firstRoomOfType : List Int32} {o_slotActive : List Int32} {o_slotType : List Int32} {o_slotArrive : List Int32} {o_slotNights : List Int32} {o_exactCount : List Int32} {o_atLeastCount : List Int32} {o_totalRooms : Int32} {o_activeStays : Int32} {po : List ACell} {k58 : List Int32 → List Int32 → List Int32 → Int32 → Int32 → Int32 → Int32 → Option (Int32 × List Int32 × List Int32 × List Int32 × Int32 × Int32 × Int32)} (hk58 : ∀ {o_planRoom : List Int32} {o_planGrid : List Int32} {o_planOrder : List Int32} {o_planOrderLength : Int32} {o_planCurrent : Int32} {o_planUnplaced : Int32} {v1 : Int32} {d2 d3 d4 : Slot} {res : Int32} {w_o_planRoom : List Int32} {w_o_planGrid : List Int32} {w_o_planOrder : List Int32} {w_o_planOrderLength : Int32} {w_o_planCurrent : Int32} {w_o_planUnplaced : Int32}, k58 o_planRoom o_planGrid o_planOrder o_planOrderLength o_planCurrent o_planUnplaced v1 = some (res, w_o_planRoom, w_o_planGrid, w_o_planOrder, w_o_planOrderLength, w_o_planCurrent, w_o_planUnplaced) → OEnds own_P 25 58 [.val (.ref 0), .val (.int v1), d2, d3, d4] [] (bk0 o_roomsOfType o_roomsAtLeast o_firstRoomOfType o_slotActive o_slotType o_slotArrive o_slotNights o_exactCount o_atLeastCount o_planRoom o_planGrid o_planOrder o_totalRooms o_activeStays o_planOrderLength o_planCurrent o_planUnplaced po) (some (.int res), (bk0 o_roomsOfType o_roomsAtLeast o_firstRoomOfType o_slotActive o_slotType o_slotArrive o_slotNights o_exactCount o_atLeastCount w_o_planRoom w_o_planGrid w_o_planOrder o_totalRooms o_activeStays w_o_planOrderLength w_o_planCurrent w_o_planUnplaced po), 0, 0)) : ∀ (n : Nat), ∀ {o_planRoom : List Int32} {o_planGrid : List Int32} {o_planOrder : List Int32} {o_planOrderLength : Int32} {o_planCurrent : Int32} {o_planUnplaced : Int32} {v1 : Int32} {v2 : Int32} {d3 d4 : Slot} {res : Int32} {w_o_planRoom : List Int32} {w_o_planGrid : List Int32} {w_o_planOrder : List Int32} {w_o_planOrderLength : Int32} {w_o_planCurrent : Int32} {w_o_planUnplaced : Int32}, f_assign_16 k58 o_firstRoomOfType o_slotActive o_slotType o_slotArrive o_slotNights o_totalRooms n o_planRoom o_planGrid o_planOrder o_planOrderLength o_planCurrent o_planUnplaced v1 v2 = some (res, w_o_planRoom, w_o_planGrid, w_o_planOrder, w_o_planOrderLength, w_o_planCurrent, w_o_planUnplaced) → OEnds own_P 25 16 [.val (.ref 0), .val (.int v1), .val (.int v2), d3, d4] [] (bk0 o_roomsOfType o_roomsAtLeast o_firstRoomOfType o_slotActive o_slotType o_slotArrive o_slotNights o_exactCount o_atLeastCount o_planRoom o_planGrid o_planOrder o_totalRooms o_activeStays o_planOrderLength o_planCurrent o_planUnplaced po) (some (.int res), (bk0 o_roomsOfType o_roomsAtLeast o_firstRoomOfType o_slotActive o_slotType o_slotArrive o_slotNights o_exactCount o_atLeastCount w_o_planRoom w_o_planGrid w_o_planOrder o_totalRooms o_activeStays w_o_planOrderLength w_o_planCurrent w_o_planUnplaced po), 0, 0) := by
  intro n
  induction n with
  | zero => intro o_planRoom o_planGrid o_planOrder o_planOrderLength o_planCurrent o_planUnplaced v1 v2 d3 d4 res w_o_planRoom w_o_planGrid w_o_planOrder w_o_planOrderLength w_o_planCurrent w_o_planUnplaced h; cases h
  | succ n ih =>
    intro o_planRoom o_planGrid o_planOrder o_planOrderLength o_planCurrent o_planUnplaced v1 v2 d3 d4 res w_o_planRoom w_o_planGrid w_o_planOrder w_o_planOrderLength w_o_planCurrent w_o_planUnplaced h
    unfold f_assign_16 at h
    refine OEnds.adv hm_25 3 (pc' := 21) (L' := [.val (.ref 0), .val (.int v1), .val (.int v2), .unset, .unset]) (S' := [.int o_planOrderLength, .int v2]) (H' := (bk0 o_roomsOfType o_roomsAtLeast o_firstRoomOfType o_slotActive o_slotType o_slotArrive o_slotNights o_exactCount o_atLeastCount o_planRoom o_planGrid o_planOrder o_totalRooms o_activeStays o_planOrderLength o_planCurrent o_planUnplaced po)) rfl ?_
    by_cases hc102 : v2 < o_planOrderLength
    · simp only [if_pos hc102] at h
      refine OEnds.icmpF hm_25 rfl ((tlt hc102).2.1) ?_
      refine OEnds.adv hm_25 2 (pc' := 27) (L' := [.val (.ref 0), .val (.int v1), .val (.int v2), .unset, .unset]) (S' := [.int 32, .int v2]) (H' := (bk0 o_roomsOfType o_roomsAtLeast o_firstRoomOfType o_slotActive o_slotType o_slotArrive o_slotNights o_exactCount o_atLeastCount o_planRoom o_planGrid o_planOrder o_totalRooms o_activeStays o_planOrderLength o_planCurrent o_planUnplaced po)) rfl ?_
      by_cases hc103 : v2 < (32 : Int32)
      · simp only [if_pos hc103] at h
        refine OEnds.icmpF hm_25 rfl ((tlt hc103).2.1) ?_
        refine OEnds.adv hm_25 3 (pc' := 35) (L' := [.val (.ref 0), .val (.int v1), .val (.int v2), .unset, .unset]) (S' := [.int v2, .ref 12]) (H' := (bk0 o_roomsOfType o_roomsAtLeast o_firstRoomOfType o_slotActive o_slotType o_slotArrive o_slotNights o_exactCount o_atLeastCount o_planRoom o_planGrid o_planOrder o_totalRooms o_activeStays o_planOrderLength o_planCurrent o_planUnplaced po)) rfl ?_
        obtain ⟨x115, hx115, h⟩ := bnd h
        refine OEnds.plain hm_25 rfl rfl (x_iaload rfl hx115) ?_
        refine OEnds.adv hm_25 3 (pc' := 39) (L' := [.val (.ref 0), .val (.int v1), .val (.int v2), .val (.int x115), .unset]) (S' := [.int x115, .ref 0]) (H' := (bk0 o_roomsOfType o_roomsAtLeast o_firstRoomOfType o_slotActive o_slotType o_slotArrive o_slotNights o_exactCount o_atLeastCount o_planRoom o_planGrid o_planOrder o_totalRooms o_activeStays o_planOrderLength o_planCurrent o_planUnplaced po)) rfl ?_
        obtain ⟨⟨r116, s117, s118⟩, hq104, h⟩ := bnd h
        refine OEnds.call0 hm_25 rfl rfl (by decide) rfl (as := [.ref 0, .int x115]) (rest := []) rfl rfl (ok_placeStay hq104) ?_
        refine OEnds.adv hm_25 2 (pc' := 46) (L' := [.val (.ref 0), .val (.int v1), .val (.int v2), .val (.int x115), .val (.int r116)]) (S' := [.int r116]) (H' := (bk0 o_roomsOfType o_roomsAtLeast o_firstRoomOfType o_slotActive o_slotType o_slotArrive o_slotNights o_exactCount o_atLeastCount s117 s118 o_planOrder o_totalRooms o_activeStays o_planOrderLength o_planCurrent o_planUnplaced po)) rfl ?_
        by_cases hc105 : r116 = (0 : Int32)
        · simp only [if_pos hc105] at h
          refine OEnds.ifF hm_25 rfl ((teq hc105).2) ?_
          refine OEnds.adv hm_25 3 (pc' := 16) (L' := [.val (.ref 0), .val (.int (v1 + (1 : Int32))), .val (.int (v2 + (1 : Int32))), .val (.int x115), .val (.int r116)]) (S' := []) (H' := (bk0 o_roomsOfType o_roomsAtLeast o_firstRoomOfType o_slotActive o_slotType o_slotArrive o_slotNights o_exactCount o_atLeastCount s117 s118 o_planOrder o_totalRooms o_activeStays o_planOrderLength o_planCurrent o_planUnplaced po)) rfl ?_
          exact ih h
        · simp only [if_neg hc105] at h
          refine OEnds.ifT hm_25 rfl (q := 52) rfl ((feq hc105).2) ?_
          refine OEnds.adv hm_25 2 (pc' := 16) (L' := [.val (.ref 0), .val (.int v1), .val (.int (v2 + (1 : Int32))), .val (.int x115), .val (.int r116)]) (S' := []) (H' := (bk0 o_roomsOfType o_roomsAtLeast o_firstRoomOfType o_slotActive o_slotType o_slotArrive o_slotNights o_exactCount o_atLeastCount s117 s118 o_planOrder o_totalRooms o_activeStays o_planOrderLength o_planCurrent o_planUnplaced po)) rfl ?_
          exact ih h
      · simp only [if_neg hc103] at h
        refine OEnds.icmpT hm_25 rfl (q := 58) rfl ((flt hc103).2.1) ?_
        show OEnds own_P 25 58 [.val (.ref 0), .val (.int v1), .val (.int v2), .unset, .unset] [] (bk0 o_roomsOfType o_roomsAtLeast o_firstRoomOfType o_slotActive o_slotType o_slotArrive o_slotNights o_exactCount o_atLeastCount o_planRoom o_planGrid o_planOrder o_totalRooms o_activeStays o_planOrderLength o_planCurrent o_planUnplaced po) _
        exact hk58 h
    · simp only [if_neg hc102] at h
      refine OEnds.icmpT hm_25 rfl (q := 58) rfl ((flt hc102).2.1) ?_
      show OEnds own_P 25 58 [.val (.ref 0), .val (.int v1), .val (.int v2), .unset, .unset] [] (bk0 o_roomsOfType o_roomsAtLeast o_firstRoomOfType o_slotActive o_slotType o_slotArrive o_slotNights o_exactCount o_atLeastCount o_planRoom o_planGrid o_planOrder o_totalRooms o_activeStays o_planOrderLength o_planCurrent o_planUnplaced po) _
      exact hk58 h
theorem ok_assign {o_roomsOfType : List Int32} {o_roomsAtLeast : List Int32} {o_firstRoomOfType : List Int32} {o_slotActive : List Int32} {o_slotType : List Int32} {o_slotArrive : List Int32} {o_slotNights : List Int32} {o_exactCount : List Int32} {o_atLeastCount : List Int32} {o_totalRooms : Int32} {o_activeStays : Int32} {po : List ACell} {o_planRoom : List Int32} {o_planGrid : List Int32} {o_planOrder : List Int32} {o_planOrderLength : Int32} {o_planCurrent : Int32} {o_planUnplaced : Int32} {res : Int32} {w_o_planRoom : List Int32} {w_o_planGrid : List Int32} {w_o_planOrder : List Int32} {w_o_planOrderLength : Int32} {w_o_planCurrent : Int32} {w_o_planUnplaced : Int32} (h : f_assign o_firstRoomOfType o_slotActive o_slotType o_slotArrive o_slotNights o_totalRooms o_planRoom o_planGrid o_planOrder o_planOrderLength o_planCurrent o_planUnplaced = some (res, w_o_planRoom, w_o_planGrid, w_o_planOrder, w_o_planOrderLength, w_o_planCurrent, w_o_planUnplaced)) : OEnds own_P 25 0 [.val (.ref 0), .unset, .unset, .unset, .unset] [] (bk0 o_roomsOfType o_roomsAtLeast o_firstRoomOfType o_slotActive o_slotType o_slotArrive o_slotNights o_exactCount o_atLeastCount o_planRoom o_planGrid o_planOrder o_totalRooms o_activeStays o_planOrderLength o_planCurrent o_planUnplaced po) (some (.int res), (bk0 o_roomsOfType o_roomsAtLeast o_firstRoomOfType o_slotActive o_slotType o_slotArrive o_slotNights o_exactCount o_atLeastCount w_o_planRoom w_o_planGrid w_o_planOrder o_totalRooms o_activeStays w_o_planOrderLength w_o_planCurrent w_o_planUnplaced po), 0, 0) := by
  unfold f_assign at h
  refine OEnds.adv hm_25 1 (pc' := 1) (L' := [.val (.ref 0), .unset, .unset, .unset, .unset]) (S' := [.ref 0]) (H' := (bk0 o_roomsOfType o_roomsAtLeast o_firstRoomOfType o_slotActive o_slotType o_slotArrive o_slotNights o_exactCount o_atLeastCount o_planRoom o_planGrid o_planOrder o_totalRooms o_activeStays o_planOrderLength o_planCurrent o_planUnplaced po)) rfl ?_
  obtain ⟨s108, hq106, h⟩ := bnd h
  refine OEnds.call0 hm_25 rfl rfl (by decide) rfl (as := [.ref 0]) (rest := []) rfl rfl (ok_discardPlan hq106) ?_
  refine OEnds.adv hm_25 1 (pc' := 5) (L' := [.val (.ref 0), .unset, .unset, .unset, .unset]) (S' := [.ref 0]) (H' := (bk0 o_roomsOfType o_roomsAtLeast o_firstRoomOfType o_slotActive o_slotType o_slotArrive o_slotNights o_exactCount o_atLeastCount o_planRoom o_planGrid o_planOrder o_totalRooms o_activeStays o_planOrderLength s108 o_planUnplaced po)) rfl ?_
  obtain ⟨⟨s109, s110, s111, s112⟩, hq107, h⟩ := bnd h
  refine OEnds.call0 hm_25 rfl rfl (by decide) rfl (as := [.ref 0]) (rest := []) rfl rfl (ok_clearPlan hq107) ?_
  refine OEnds.adv hm_25 1 (pc' := 9) (L' := [.val (.ref 0), .unset, .unset, .unset, .unset]) (S' := [.ref 0]) (H' := (bk0 o_roomsOfType o_roomsAtLeast o_firstRoomOfType o_slotActive o_slotType o_slotArrive o_slotNights o_exactCount o_atLeastCount s109 s110 s111 o_totalRooms o_activeStays s112 s108 o_planUnplaced po)) rfl ?_
  obtain ⟨⟨s113, s114⟩, hq108, h⟩ := bnd h
  refine OEnds.call0 hm_25 rfl rfl (by decide) rfl (as := [.ref 0]) (rest := []) rfl rfl (ok_buildOrder hq108) ?_
  refine OEnds.adv hm_25 4 (pc' := 16) (L' := [.val (.ref 0), .val (.int 0), .val (.int 0), .unset, .unset]) (S' := []) (H' := (bk0 o_roomsOfType o_roomsAtLeast o_firstRoomOfType o_slotActive o_slotType o_slotArrive o_slotNights o_exactCount o_atLeastCount s109 s110 s113 o_totalRooms o_activeStays s114 s108 o_planUnplaced po)) rfl ?_
  exact ok_assign_16 (k58 := f_assign_58 o_firstRoomOfType o_slotActive o_slotType o_slotArrive o_slotNights o_totalRooms) ok_assign_58 100000 h
theorem ok_roomOf {o_roomsOfType : List Int32} {o_roomsAtLeast : List Int32} {o_firstRoomOfType : List Int32} {o_slotActive : List Int32} {o_slotType : List Int32} {o_slotArrive : List Int32} {o_slotNights : List Int32} {o_exactCount : List Int32} {o_atLeastCount : List Int32} {o_planRoom : List Int32} {o_planGrid : List Int32} {o_planOrder : List Int32} {o_totalRooms : Int32} {o_activeStays : Int32} {o_planOrderLength : Int32} {o_planCurrent : Int32} {o_planUnplaced : Int32} {po : List ACell} {v1 : Int32} {res : Int32} (h : f_roomOf o_slotActive o_planRoom o_planCurrent v1 = some res) : OEnds own_P 33 0 [.val (.ref 0), .val (.int v1)] [] (bk0 o_roomsOfType o_roomsAtLeast o_firstRoomOfType o_slotActive o_slotType o_slotArrive o_slotNights o_exactCount o_atLeastCount o_planRoom o_planGrid o_planOrder o_totalRooms o_activeStays o_planOrderLength o_planCurrent o_planUnplaced po) (some (.int res), (bk0 o_roomsOfType o_roomsAtLeast o_firstRoomOfType o_slotActive o_slotType o_slotArrive o_slotNights o_exactCount o_atLeastCount o_planRoom o_planGrid o_planOrder o_totalRooms o_activeStays o_planOrderLength o_planCurrent o_planUnplaced po), 0, 0) := by
  unfold f_roomOf at h
  refine OEnds.adv hm_33 2 (pc' := 2) (L' := [.val (.ref 0), .val (.int v1)]) (S' := [.int v1, .ref 0]) (H' := (bk0 o_roomsOfType o_roomsAtLeast o_firstRoomOfType o_slotActive o_slotType o_slotArrive o_slotNights o_exactCount o_atLeastCount o_planRoom o_planGrid o_planOrder o_totalRooms o_activeStays o_planOrderLength o_planCurrent o_planUnplaced po)) rfl ?_
  obtain ⟨r119, hq109, h⟩ := bnd h
  refine OEnds.call0 hm_33 rfl rfl (by decide) rfl (as := [.ref 0, .int v1]) (rest := []) rfl rfl (ok_isActiveStay hq109) ?_
  show OEnds own_P 33 5 [.val (.ref 0), .val (.int v1)] [.int r119] (bk0 o_roomsOfType o_roomsAtLeast o_firstRoomOfType o_slotActive o_slotType o_slotArrive o_slotNights o_exactCount o_atLeastCount o_planRoom o_planGrid o_planOrder o_totalRooms o_activeStays o_planOrderLength o_planCurrent o_planUnplaced po) _
  by_cases hc110 : r119 = (0 : Int32)
  · simp only [if_pos hc110] at h
    refine OEnds.ifF hm_33 rfl ((teq hc110).2) ?_
    refine OEnds.adv hm_33 1 (pc' := 9) (L' := [.val (.ref 0), .val (.int v1)]) (S' := [.int (-1)]) (H' := (bk0 o_roomsOfType o_roomsAtLeast o_firstRoomOfType o_slotActive o_slotType o_slotArrive o_slotNights o_exactCount o_atLeastCount o_planRoom o_planGrid o_planOrder o_totalRooms o_activeStays o_planOrderLength o_planCurrent o_planUnplaced po)) rfl ?_
    cases h
    exact OEnds.iret hm_33 rfl rfl
  · simp only [if_neg hc110] at h
    refine OEnds.ifT hm_33 rfl (q := 10) rfl ((feq hc110).2) ?_
    refine OEnds.adv hm_33 2 (pc' := 14) (L' := [.val (.ref 0), .val (.int v1)]) (S' := [.int o_planCurrent]) (H' := (bk0 o_roomsOfType o_roomsAtLeast o_firstRoomOfType o_slotActive o_slotType o_slotArrive o_slotNights o_exactCount o_atLeastCount o_planRoom o_planGrid o_planOrder o_totalRooms o_activeStays o_planOrderLength o_planCurrent o_planUnplaced po)) rfl ?_
    by_cases hc111 : o_planCurrent = (0 : Int32)
    · simp only [if_pos hc111] at h
      refine OEnds.ifF hm_33 rfl ((teq hc111).2) ?_
      refine OEnds.adv hm_33 1 (pc' := 18) (L' := [.val (.ref 0), .val (.int v1)]) (S' := [.int (-1)]) (H' := (bk0 o_roomsOfType o_roomsAtLeast o_firstRoomOfType o_slotActive o_slotType o_slotArrive o_slotNights o_exactCount o_atLeastCount o_planRoom o_planGrid o_planOrder o_totalRooms o_activeStays o_planOrderLength o_planCurrent o_planUnplaced po)) rfl ?_
      cases h
      exact OEnds.iret hm_33 rfl rfl
    · simp only [if_neg hc111] at h
      refine OEnds.ifT hm_33 rfl (q := 19) rfl ((feq hc111).2) ?_
      refine OEnds.adv hm_33 3 (pc' := 24) (L' := [.val (.ref 0), .val (.int v1)]) (S' := [.int v1, .ref 10]) (H' := (bk0 o_roomsOfType o_roomsAtLeast o_firstRoomOfType o_slotActive o_slotType o_slotArrive o_slotNights o_exactCount o_atLeastCount o_planRoom o_planGrid o_planOrder o_totalRooms o_activeStays o_planOrderLength o_planCurrent o_planUnplaced po)) rfl ?_
      obtain ⟨x120, hx120, h⟩ := bnd h
      refine OEnds.plain hm_33 rfl rfl (x_iaload rfl hx120) ?_
      show OEnds own_P 33 25 [.val (.ref 0), .val (.int v1)] [.int x120] (bk0 o_roomsOfType o_roomsAtLeast o_firstRoomOfType o_slotActive o_slotType o_slotArrive o_slotNights o_exactCount o_atLeastCount o_planRoom o_planGrid o_planOrder o_totalRooms o_activeStays o_planOrderLength o_planCurrent o_planUnplaced po) _
      cases h
      exact OEnds.iret hm_33 rfl rfl
theorem ok_isValidRoom {o_roomsOfType : List Int32} {o_roomsAtLeast : List Int32} {o_firstRoomOfType : List Int32} {o_slotActive : List Int32} {o_slotType : List Int32} {o_slotArrive : List Int32} {o_slotNights : List Int32} {o_exactCount : List Int32} {o_atLeastCount : List Int32} {o_planRoom : List Int32} {o_planGrid : List Int32} {o_planOrder : List Int32} {o_totalRooms : Int32} {o_activeStays : Int32} {o_planOrderLength : Int32} {o_planCurrent : Int32} {o_planUnplaced : Int32} {po : List ACell} {v1 : Int32} {res : Int32} (h : f_isValidRoom o_totalRooms v1 = some res) : OEnds own_P 35 0 [.val (.ref 0), .val (.int v1)] [] (bk0 o_roomsOfType o_roomsAtLeast o_firstRoomOfType o_slotActive o_slotType o_slotArrive o_slotNights o_exactCount o_atLeastCount o_planRoom o_planGrid o_planOrder o_totalRooms o_activeStays o_planOrderLength o_planCurrent o_planUnplaced po) (some (.int res), (bk0 o_roomsOfType o_roomsAtLeast o_firstRoomOfType o_slotActive o_slotType o_slotArrive o_slotNights o_exactCount o_atLeastCount o_planRoom o_planGrid o_planOrder o_totalRooms o_activeStays o_planOrderLength o_planCurrent o_planUnplaced po), 0, 0) := by
  unfold f_isValidRoom at h
  refine OEnds.adv hm_35 1 (pc' := 1) (L' := [.val (.ref 0), .val (.int v1)]) (S' := [.int v1]) (H' := (bk0 o_roomsOfType o_roomsAtLeast o_firstRoomOfType o_slotActive o_slotType o_slotArrive o_slotNights o_exactCount o_atLeastCount o_planRoom o_planGrid o_planOrder o_totalRooms o_activeStays o_planOrderLength o_planCurrent o_planUnplaced po)) rfl ?_
  by_cases hc112 : v1 < (0 : Int32)
  · simp only [if_pos hc112] at h
    refine OEnds.ifT hm_35 rfl (q := 22) rfl ((tlt hc112).1) ?_
    refine OEnds.adv hm_35 1 (pc' := 23) (L' := [.val (.ref 0), .val (.int v1)]) (S' := [.int 0]) (H' := (bk0 o_roomsOfType o_roomsAtLeast o_firstRoomOfType o_slotActive o_slotType o_slotArrive o_slotNights o_exactCount o_atLeastCount o_planRoom o_planGrid o_planOrder o_totalRooms o_activeStays o_planOrderLength o_planCurrent o_planUnplaced po)) rfl ?_
    cases h
    exact OEnds.iret hm_35 rfl rfl
  · simp only [if_neg hc112] at h
    refine OEnds.ifF hm_35 rfl ((flt hc112).1) ?_
    refine OEnds.adv hm_35 3 (pc' := 9) (L' := [.val (.ref 0), .val (.int v1)]) (S' := [.int o_totalRooms, .int v1]) (H' := (bk0 o_roomsOfType o_roomsAtLeast o_firstRoomOfType o_slotActive o_slotType o_slotArrive o_slotNights o_exactCount o_atLeastCount o_planRoom o_planGrid o_planOrder o_totalRooms o_activeStays o_planOrderLength o_planCurrent o_planUnplaced po)) rfl ?_
    by_cases hc113 : v1 < o_totalRooms
    · simp only [if_pos hc113] at h
      refine OEnds.icmpF hm_35 rfl ((tlt hc113).2.1) ?_
      refine OEnds.adv hm_35 2 (pc' := 15) (L' := [.val (.ref 0), .val (.int v1)]) (S' := [.int 24, .int v1]) (H' := (bk0 o_roomsOfType o_roomsAtLeast o_firstRoomOfType o_slotActive o_slotType o_slotArrive o_slotNights o_exactCount o_atLeastCount o_planRoom o_planGrid o_planOrder o_totalRooms o_activeStays o_planOrderLength o_planCurrent o_planUnplaced po)) rfl ?_
      by_cases hc114 : v1 < (24 : Int32)
      · simp only [if_pos hc114] at h
        refine OEnds.icmpF hm_35 rfl ((tlt hc114).2.1) ?_
        refine OEnds.adv hm_35 2 (pc' := 23) (L' := [.val (.ref 0), .val (.int v1)]) (S' := [.int 1]) (H' := (bk0 o_roomsOfType o_roomsAtLeast o_firstRoomOfType o_slotActive o_slotType o_slotArrive o_slotNights o_exactCount o_atLeastCount o_planRoom o_planGrid o_planOrder o_totalRooms o_activeStays o_planOrderLength o_planCurrent o_planUnplaced po)) rfl ?_
        cases h
        exact OEnds.iret hm_35 rfl rfl
      · simp only [if_neg hc114] at h
        refine OEnds.icmpT hm_35 rfl (q := 22) rfl ((flt hc114).2.1) ?_
        refine OEnds.adv hm_35 1 (pc' := 23) (L' := [.val (.ref 0), .val (.int v1)]) (S' := [.int 0]) (H' := (bk0 o_roomsOfType o_roomsAtLeast o_firstRoomOfType o_slotActive o_slotType o_slotArrive o_slotNights o_exactCount o_atLeastCount o_planRoom o_planGrid o_planOrder o_totalRooms o_activeStays o_planOrderLength o_planCurrent o_planUnplaced po)) rfl ?_
        cases h
        exact OEnds.iret hm_35 rfl rfl
    · simp only [if_neg hc113] at h
      refine OEnds.icmpT hm_35 rfl (q := 22) rfl ((flt hc113).2.1) ?_
      refine OEnds.adv hm_35 1 (pc' := 23) (L' := [.val (.ref 0), .val (.int v1)]) (S' := [.int 0]) (H' := (bk0 o_roomsOfType o_roomsAtLeast o_firstRoomOfType o_slotActive o_slotType o_slotArrive o_slotNights o_exactCount o_atLeastCount o_planRoom o_planGrid o_planOrder o_totalRooms o_activeStays o_planOrderLength o_planCurrent o_planUnplaced po)) rfl ?_
      cases h
      exact OEnds.iret hm_35 rfl rfl
theorem ok_occupant {o_roomsOfType : List Int32} {o_roomsAtLeast : List Int32} {o_firstRoomOfType : List Int32} {o_slotActive : List Int32} {o_slotType : List Int32} {o_slotArrive : List Int32} {o_slotNights : List Int32} {o_exactCount : List Int32} {o_atLeastCount : List Int32} {o_planRoom : List Int32} {o_planGrid : List Int32} {o_planOrder : List Int32} {o_totalRooms : Int32} {o_activeStays : Int32} {o_planOrderLength : Int32} {o_planCurrent : Int32} {o_planUnplaced : Int32} {po : List ACell} {v1 : Int32} {v2 : Int32} {res : Int32} (h : f_occupant o_planGrid o_totalRooms o_planCurrent v1 v2 = some res) : OEnds own_P 34 0 [.val (.ref 0), .val (.int v1), .val (.int v2)] [] (bk0 o_roomsOfType o_roomsAtLeast o_firstRoomOfType o_slotActive o_slotType o_slotArrive o_slotNights o_exactCount o_atLeastCount o_planRoom o_planGrid o_planOrder o_totalRooms o_activeStays o_planOrderLength o_planCurrent o_planUnplaced po) (some (.int res), (bk0 o_roomsOfType o_roomsAtLeast o_firstRoomOfType o_slotActive o_slotType o_slotArrive o_slotNights o_exactCount o_atLeastCount o_planRoom o_planGrid o_planOrder o_totalRooms o_activeStays o_planOrderLength o_planCurrent o_planUnplaced po), 0, 0) := by
  unfold f_occupant at h
  refine OEnds.adv hm_34 2 (pc' := 2) (L' := [.val (.ref 0), .val (.int v1), .val (.int v2)]) (S' := [.int v1, .ref 0]) (H' := (bk0 o_roomsOfType o_roomsAtLeast o_firstRoomOfType o_slotActive o_slotType o_slotArrive o_slotNights o_exactCount o_atLeastCount o_planRoom o_planGrid o_planOrder o_totalRooms o_activeStays o_planOrderLength o_planCurrent o_planUnplaced po)) rfl ?_
  obtain ⟨r121, hq115, h⟩ := bnd h
  refine OEnds.call0 hm_34 rfl rfl (by decide) rfl (as := [.ref 0, .int v1]) (rest := []) rfl rfl (ok_isValidRoom hq115) ?_
  show OEnds own_P 34 5 [.val (.ref 0), .val (.int v1), .val (.int v2)] [.int r121] (bk0 o_roomsOfType o_roomsAtLeast o_firstRoomOfType o_slotActive o_slotType o_slotArrive o_slotNights o_exactCount o_atLeastCount o_planRoom o_planGrid o_planOrder o_totalRooms o_activeStays o_planOrderLength o_planCurrent o_planUnplaced po) _
  by_cases hc116 : r121 = (0 : Int32)
  · simp only [if_pos hc116] at h
    refine OEnds.ifF hm_34 rfl ((teq hc116).2) ?_
    refine OEnds.adv hm_34 1 (pc' := 9) (L' := [.val (.ref 0), .val (.int v1), .val (.int v2)]) (S' := [.int (-1)]) (H' := (bk0 o_roomsOfType o_roomsAtLeast o_firstRoomOfType o_slotActive o_slotType o_slotArrive o_slotNights o_exactCount o_atLeastCount o_planRoom o_planGrid o_planOrder o_totalRooms o_activeStays o_planOrderLength o_planCurrent o_planUnplaced po)) rfl ?_
    cases h
    exact OEnds.iret hm_34 rfl rfl
  · simp only [if_neg hc116] at h
    refine OEnds.ifT hm_34 rfl (q := 10) rfl ((feq hc116).2) ?_
    refine OEnds.adv hm_34 2 (pc' := 12) (L' := [.val (.ref 0), .val (.int v1), .val (.int v2)]) (S' := [.int v2, .ref 0]) (H' := (bk0 o_roomsOfType o_roomsAtLeast o_firstRoomOfType o_slotActive o_slotType o_slotArrive o_slotNights o_exactCount o_atLeastCount o_planRoom o_planGrid o_planOrder o_totalRooms o_activeStays o_planOrderLength o_planCurrent o_planUnplaced po)) rfl ?_
    obtain ⟨r122, hq117, h⟩ := bnd h
    refine OEnds.call0 hm_34 rfl rfl (by decide) rfl (as := [.ref 0, .int v2]) (rest := []) rfl rfl (ok_isValidNight hq117) ?_
    show OEnds own_P 34 15 [.val (.ref 0), .val (.int v1), .val (.int v2)] [.int r122] (bk0 o_roomsOfType o_roomsAtLeast o_firstRoomOfType o_slotActive o_slotType o_slotArrive o_slotNights o_exactCount o_atLeastCount o_planRoom o_planGrid o_planOrder o_totalRooms o_activeStays o_planOrderLength o_planCurrent o_planUnplaced po) _
    by_cases hc118 : r122 = (0 : Int32)
    · simp only [if_pos hc118] at h
      refine OEnds.ifF hm_34 rfl ((teq hc118).2) ?_
      refine OEnds.adv hm_34 1 (pc' := 19) (L' := [.val (.ref 0), .val (.int v1), .val (.int v2)]) (S' := [.int (-1)]) (H' := (bk0 o_roomsOfType o_roomsAtLeast o_firstRoomOfType o_slotActive o_slotType o_slotArrive o_slotNights o_exactCount o_atLeastCount o_planRoom o_planGrid o_planOrder o_totalRooms o_activeStays o_planOrderLength o_planCurrent o_planUnplaced po)) rfl ?_
      cases h
      exact OEnds.iret hm_34 rfl rfl
    · simp only [if_neg hc118] at h
      refine OEnds.ifT hm_34 rfl (q := 20) rfl ((feq hc118).2) ?_
      refine OEnds.adv hm_34 2 (pc' := 24) (L' := [.val (.ref 0), .val (.int v1), .val (.int v2)]) (S' := [.int o_planCurrent]) (H' := (bk0 o_roomsOfType o_roomsAtLeast o_firstRoomOfType o_slotActive o_slotType o_slotArrive o_slotNights o_exactCount o_atLeastCount o_planRoom o_planGrid o_planOrder o_totalRooms o_activeStays o_planOrderLength o_planCurrent o_planUnplaced po)) rfl ?_
      by_cases hc119 : o_planCurrent = (0 : Int32)
      · simp only [if_pos hc119] at h
        refine OEnds.ifF hm_34 rfl ((teq hc119).2) ?_
        refine OEnds.adv hm_34 1 (pc' := 28) (L' := [.val (.ref 0), .val (.int v1), .val (.int v2)]) (S' := [.int (-1)]) (H' := (bk0 o_roomsOfType o_roomsAtLeast o_firstRoomOfType o_slotActive o_slotType o_slotArrive o_slotNights o_exactCount o_atLeastCount o_planRoom o_planGrid o_planOrder o_totalRooms o_activeStays o_planOrderLength o_planCurrent o_planUnplaced po)) rfl ?_
        cases h
        exact OEnds.iret hm_34 rfl rfl
      · simp only [if_neg hc119] at h
        refine OEnds.ifT hm_34 rfl (q := 29) rfl ((feq hc119).2) ?_
        refine OEnds.adv hm_34 3 (pc' := 32) (L' := [.val (.ref 0), .val (.int v1), .val (.int v2)]) (S' := [.int v2, .int v1, .ref 0]) (H' := (bk0 o_roomsOfType o_roomsAtLeast o_firstRoomOfType o_slotActive o_slotType o_slotArrive o_slotNights o_exactCount o_atLeastCount o_planRoom o_planGrid o_planOrder o_totalRooms o_activeStays o_planOrderLength o_planCurrent o_planUnplaced po)) rfl ?_
        obtain ⟨r123, hq120, h⟩ := bnd h
        refine OEnds.call0 hm_34 rfl rfl (by decide) rfl (as := [.ref 0, .int v1, .int v2]) (rest := []) rfl rfl (ok_gridAt hq120) ?_
        show OEnds own_P 34 35 [.val (.ref 0), .val (.int v1), .val (.int v2)] [.int r123] (bk0 o_roomsOfType o_roomsAtLeast o_firstRoomOfType o_slotActive o_slotType o_slotArrive o_slotNights o_exactCount o_atLeastCount o_planRoom o_planGrid o_planOrder o_totalRooms o_activeStays o_planOrderLength o_planCurrent o_planUnplaced po) _
        cases h
        exact OEnds.iret hm_34 rfl rfl
theorem ok_L_law_375 {kb : List Int32 → Int32 → Int32 → Int32 → Int32 → Int32 → Int32 → Int32 → Option (Int32)} (hkb : ∀ {n0_planGrid : List Int32} {n0_totalRooms : Int32} {n0_planCurrent : Int32} {v7 : Int32} {v16 : Int32} {v17 : Int32} {v18 : Int32} {v19 : Int32} {n0_activeStays : Int32} {n0_planOrderLength : Int32} {n0_planUnplaced : Int32} {n0_roomsOfType : List Int32} {n0_roomsAtLeast : List Int32} {n0_firstRoomOfType : List Int32} {n0_slotActive : List Int32} {n0_slotType : List Int32} {n0_slotArrive : List Int32} {n0_slotNights : List Int32} {n0_exactCount : List Int32} {n0_atLeastCount : List Int32} {n0_planRoom : List Int32} {n0_planOrder : List Int32} {d0 d1 d2 d3 d4 d5 d6 d8 d9 d10 d11 d13 d14 d15 d20 : Slot} {res : Int32}, kb n0_planGrid n0_totalRooms n0_planCurrent v7 v16 v17 v18 v19 = some res → OEndsQ own_P 0 335 [d0, d1, d2, d3, d4, d5, d6, .val (.int v7), d8, d9, d10, d11, .val (.ref 0), d13, d14, d15, .val (.int v16), .val (.int v17), .val (.int v18), .val (.int v19), d20] [] (bk0 n0_roomsOfType n0_roomsAtLeast n0_firstRoomOfType n0_slotActive n0_slotType n0_slotArrive n0_slotNights n0_exactCount n0_atLeastCount n0_planRoom n0_planGrid n0_planOrder n0_totalRooms n0_activeStays n0_planOrderLength n0_planCurrent n0_planUnplaced []) (LawQ res 0 0)) : ∀ {n0_planGrid : List Int32} {n0_totalRooms : Int32} {n0_planCurrent : Int32} {v7 : Int32} {v16 : Int32} {v17 : Int32} {v18 : Int32} {v19 : Int32} {v20 : Int32} {n0_activeStays : Int32} {n0_planOrderLength : Int32} {n0_planUnplaced : Int32} {n0_roomsOfType : List Int32} {n0_roomsAtLeast : List Int32} {n0_firstRoomOfType : List Int32} {n0_slotActive : List Int32} {n0_slotType : List Int32} {n0_slotArrive : List Int32} {n0_slotNights : List Int32} {n0_exactCount : List Int32} {n0_atLeastCount : List Int32} {n0_planRoom : List Int32} {n0_planOrder : List Int32} {d0 d1 d2 d3 d4 d5 d6 d8 d9 d10 d11 d13 d14 d15 : Slot} {res : Int32}, f_L_law_375 kb n0_planGrid n0_totalRooms n0_planCurrent v7 v16 v17 v18 v19 v20 = some res → OEndsQ own_P 0 375 [d0, d1, d2, d3, d4, d5, d6, .val (.int v7), d8, d9, d10, d11, .val (.ref 0), d13, d14, d15, .val (.int v16), .val (.int v17), .val (.int v18), .val (.int v19), .val (.int v20)] [] (bk0 n0_roomsOfType n0_roomsAtLeast n0_firstRoomOfType n0_slotActive n0_slotType n0_slotArrive n0_slotNights n0_exactCount n0_atLeastCount n0_planRoom n0_planGrid n0_planOrder n0_totalRooms n0_activeStays n0_planOrderLength n0_planCurrent n0_planUnplaced []) (LawQ res 0 0) := by
  intro n0_planGrid n0_totalRooms n0_planCurrent v7 v16 v17 v18 v19 v20 n0_activeStays n0_planOrderLength n0_planUnplaced n0_roomsOfType n0_roomsAtLeast n0_firstRoomOfType n0_slotActive n0_slotType n0_slotArrive n0_slotNights n0_exactCount n0_atLeastCount n0_planRoom n0_planOrder d0 d1 d2 d3 d4 d5 d6 d8 d9 d10 d11 d13 d14 d15 res h
  unfold f_L_law_375 at h
  refine OEndsQ.adv hm_0 3 (pc' := 381) (L' := [.unset, .unset, .unset, .unset, .unset, .unset, .unset, .val (.int v7), .unset, .unset, .unset, .unset, .val (.ref 0), .unset, .unset, .unset, .val (.int v16), .val (.int v17), .val (.int v18), .val (.int v19), .val (.int v20)]) (S' := [.int v7, .int v19, .ref 0]) (H' := (bk0 n0_roomsOfType n0_roomsAtLeast n0_firstRoomOfType n0_slotActive n0_slotType n0_slotArrive n0_slotNights n0_exactCount n0_atLeastCount n0_planRoom n0_planGrid n0_planOrder n0_totalRooms n0_activeStays n0_planOrderLength n0_planCurrent n0_planUnplaced [])) rfl ?_
  obtain ⟨r170, hq121, h⟩ := bnd h
  refine OEndsQ.call0 hm_0 rfl rfl (by decide) rfl (as := [.ref 0, .int v19, .int v7]) (rest := []) rfl rfl (ok_occupant hq121) ?_
  refine OEndsQ.adv hm_0 1 (pc' := 386) (L' := [.unset, .unset, .unset, .unset, .unset, .unset, .unset, .val (.int v7), .unset, .unset, .unset, .unset, .val (.ref 0), .unset, .unset, .unset, .val (.int v16), .val (.int v17), .val (.int v18), .val (.int v19), .val (.int v20)]) (S' := [.int v20, .int r170]) (H' := (bk0 n0_roomsOfType n0_roomsAtLeast n0_firstRoomOfType n0_slotActive n0_slotType n0_slotArrive n0_slotNights n0_exactCount n0_atLeastCount n0_planRoom n0_planGrid n0_planOrder n0_totalRooms n0_activeStays n0_planOrderLength n0_planCurrent n0_planUnplaced [])) rfl ?_
  by_cases hc122 : r170 = v20
  · simp only [if_pos hc122] at h
    refine OEndsQ.icmpT hm_0 rfl (q := 391) rfl ((teq hc122).1) ?_
    refine OEndsQ.adv hm_0 2 (pc' := 335) (L' := [.unset, .unset, .unset, .unset, .unset, .unset, .unset, .val (.int v7), .unset, .unset, .unset, .unset, .val (.ref 0), .unset, .unset, .unset, .val (.int v16), .val (.int v17), .val (.int v18), .val (.int (v19 + (1 : Int32))), .val (.int v20)]) (S' := []) (H' := (bk0 n0_roomsOfType n0_roomsAtLeast n0_firstRoomOfType n0_slotActive n0_slotType n0_slotArrive n0_slotNights n0_exactCount n0_atLeastCount n0_planRoom n0_planGrid n0_planOrder n0_totalRooms n0_activeStays n0_planOrderLength n0_planCurrent n0_planUnplaced [])) rfl ?_
    exact hkb h
  · simp only [if_neg hc122] at h
    refine OEndsQ.icmpF hm_0 rfl ((feq hc122).1) ?_
    refine OEndsQ.adv hm_0 1 (pc' := 390) (L' := [.unset, .unset, .unset, .unset, .unset, .unset, .unset, .val (.int v7), .unset, .unset, .unset, .unset, .val (.ref 0), .unset, .unset, .unset, .val (.int v16), .val (.int v17), .val (.int v18), .val (.int v19), .val (.int v20)]) (S' := [.int 0]) (H' := (bk0 n0_roomsOfType n0_roomsAtLeast n0_firstRoomOfType n0_slotActive n0_slotType n0_slotArrive n0_slotNights n0_exactCount n0_atLeastCount n0_planRoom n0_planGrid n0_planOrder n0_totalRooms n0_activeStays n0_planOrderLength n0_planCurrent n0_planUnplaced [])) rfl ?_
    cases h
    exact OEndsQ.iret hm_0 rfl rfl
theorem ok_L_law_335 : ∀ (n : Nat), ∀ {n0_planGrid : List Int32} {n0_totalRooms : Int32} {n0_planCurrent : Int32} {v7 : Int32} {v16 : Int32} {v17 : Int32} {v18 : Int32} {v19 : Int32} {n0_activeStays : Int32} {n0_planOrderLength : Int32} {n0_planUnplaced : Int32} {n0_roomsOfType : List Int32} {n0_roomsAtLeast : List Int32} {n0_firstRoomOfType : List Int32} {n0_slotActive : List Int32} {n0_slotType : List Int32} {n0_slotArrive : List Int32} {n0_slotNights : List Int32} {n0_exactCount : List Int32} {n0_atLeastCount : List Int32} {n0_planRoom : List Int32} {n0_planOrder : List Int32} {d0 d1 d2 d3 d4 d5 d6 d8 d9 d10 d11 d13 d14 d15 d20 : Slot} {res : Int32}, f_L_law_335 n n0_planGrid n0_totalRooms n0_planCurrent v7 v16 v17 v18 v19 = some res → OEndsQ own_P 0 335 [d0, d1, d2, d3, d4, d5, d6, .val (.int v7), d8, d9, d10, d11, .val (.ref 0), d13, d14, d15, .val (.int v16), .val (.int v17), .val (.int v18), .val (.int v19), d20] [] (bk0 n0_roomsOfType n0_roomsAtLeast n0_firstRoomOfType n0_slotActive n0_slotType n0_slotArrive n0_slotNights n0_exactCount n0_atLeastCount n0_planRoom n0_planGrid n0_planOrder n0_totalRooms n0_activeStays n0_planOrderLength n0_planCurrent n0_planUnplaced []) (LawQ res 0 0) := by
  intro n
  induction n with
  | zero => intro n0_planGrid n0_totalRooms n0_planCurrent v7 v16 v17 v18 v19 n0_activeStays n0_planOrderLength n0_planUnplaced n0_roomsOfType n0_roomsAtLeast n0_firstRoomOfType n0_slotActive n0_slotType n0_slotArrive n0_slotNights n0_exactCount n0_atLeastCount n0_planRoom n0_planOrder d0 d1 d2 d3 d4 d5 d6 d8 d9 d10 d11 d13 d14 d15 d20 res h; cases h
  | succ n ih =>
    intro n0_planGrid n0_totalRooms n0_planCurrent v7 v16 v17 v18 v19 n0_activeStays n0_planOrderLength n0_planUnplaced n0_roomsOfType n0_roomsAtLeast n0_firstRoomOfType n0_slotActive n0_slotType n0_slotArrive n0_slotNights n0_exactCount n0_atLeastCount n0_planRoom n0_planOrder d0 d1 d2 d3 d4 d5 d6 d8 d9 d10 d11 d13 d14 d15 d20 res h
    unfold f_L_law_335 at h
    refine OEndsQ.adv hm_0 2 (pc' := 338) (L' := [.unset, .unset, .unset, .unset, .unset, .unset, .unset, .val (.int v7), .unset, .unset, .unset, .unset, .val (.ref 0), .unset, .unset, .unset, .val (.int v16), .val (.int v17), .val (.int v18), .val (.int v19), .unset]) (S' := [.int 2, .int v19]) (H' := (bk0 n0_roomsOfType n0_roomsAtLeast n0_firstRoomOfType n0_slotActive n0_slotType n0_slotArrive n0_slotNights n0_exactCount n0_atLeastCount n0_planRoom n0_planGrid n0_planOrder n0_totalRooms n0_activeStays n0_planOrderLength n0_planCurrent n0_planUnplaced [])) rfl ?_
    by_cases hc123 : v19 < (2 : Int32)
    · simp only [if_pos hc123] at h
      refine OEndsQ.icmpF hm_0 rfl ((tlt hc123).2.1) ?_
      refine OEndsQ.adv hm_0 2 (pc' := 345) (L' := [.unset, .unset, .unset, .unset, .unset, .unset, .unset, .val (.int v7), .unset, .unset, .unset, .unset, .val (.ref 0), .unset, .unset, .unset, .val (.int v16), .val (.int v17), .val (.int v18), .val (.int v19), .unset]) (S' := [.int v19, .int v16]) (H' := (bk0 n0_roomsOfType n0_roomsAtLeast n0_firstRoomOfType n0_slotActive n0_slotType n0_slotArrive n0_slotNights n0_exactCount n0_atLeastCount n0_planRoom n0_planGrid n0_planOrder n0_totalRooms n0_activeStays n0_planOrderLength n0_planCurrent n0_planUnplaced [])) rfl ?_
      by_cases hc124 : v16 = v19
      · simp only [if_pos hc124] at h
        refine OEndsQ.icmpF hm_0 rfl ((teq hc124).2) ?_
        refine OEndsQ.adv hm_0 3 (pc' := 375) (L' := [.unset, .unset, .unset, .unset, .unset, .unset, .unset, .val (.int v7), .unset, .unset, .unset, .unset, .val (.ref 0), .unset, .unset, .unset, .val (.int v16), .val (.int v17), .val (.int v18), .val (.int v19), .val (.int 0)]) (S' := []) (H' := (bk0 n0_roomsOfType n0_roomsAtLeast n0_firstRoomOfType n0_slotActive n0_slotType n0_slotArrive n0_slotNights n0_exactCount n0_atLeastCount n0_planRoom n0_planGrid n0_planOrder n0_totalRooms n0_activeStays n0_planOrderLength n0_planCurrent n0_planUnplaced [])) rfl ?_
        exact ok_L_law_375 ih h
      · simp only [if_neg hc124] at h
        refine OEndsQ.icmpT hm_0 rfl (q := 354) rfl ((feq hc124).2) ?_
        refine OEndsQ.adv hm_0 1 (pc' := 356) (L' := [.unset, .unset, .unset, .unset, .unset, .unset, .unset, .val (.int v7), .unset, .unset, .unset, .unset, .val (.ref 0), .unset, .unset, .unset, .val (.int v16), .val (.int v17), .val (.int v18), .val (.int v19), .unset]) (S' := [.int v18]) (H' := (bk0 n0_roomsOfType n0_roomsAtLeast n0_firstRoomOfType n0_slotActive n0_slotType n0_slotArrive n0_slotNights n0_exactCount n0_atLeastCount n0_planRoom n0_planGrid n0_planOrder n0_totalRooms n0_activeStays n0_planOrderLength n0_planCurrent n0_planUnplaced [])) rfl ?_
        by_cases hc125 : v18 = (0 : Int32)
        · simp only [if_pos hc125] at h
          refine OEndsQ.ifT hm_0 rfl (q := 372) rfl ((teq hc125).1) ?_
          refine OEndsQ.adv hm_0 2 (pc' := 375) (L' := [.unset, .unset, .unset, .unset, .unset, .unset, .unset, .val (.int v7), .unset, .unset, .unset, .unset, .val (.ref 0), .unset, .unset, .unset, .val (.int v16), .val (.int v17), .val (.int v18), .val (.int v19), .val (.int (-1))]) (S' := []) (H' := (bk0 n0_roomsOfType n0_roomsAtLeast n0_firstRoomOfType n0_slotActive n0_slotType n0_slotArrive n0_slotNights n0_exactCount n0_atLeastCount n0_planRoom n0_planGrid n0_planOrder n0_totalRooms n0_activeStays n0_planOrderLength n0_planCurrent n0_planUnplaced [])) rfl ?_
          exact ok_L_law_375 ih h
        · simp only [if_neg hc125] at h
          refine OEndsQ.ifF hm_0 rfl ((feq hc125).1) ?_
          refine OEndsQ.adv hm_0 2 (pc' := 363) (L' := [.unset, .unset, .unset, .unset, .unset, .unset, .unset, .val (.int v7), .unset, .unset, .unset, .unset, .val (.ref 0), .unset, .unset, .unset, .val (.int v16), .val (.int v17), .val (.int v18), .val (.int v19), .unset]) (S' := [.int v19, .int v17]) (H' := (bk0 n0_roomsOfType n0_roomsAtLeast n0_firstRoomOfType n0_slotActive n0_slotType n0_slotArrive n0_slotNights n0_exactCount n0_atLeastCount n0_planRoom n0_planGrid n0_planOrder n0_totalRooms n0_activeStays n0_planOrderLength n0_planCurrent n0_planUnplaced [])) rfl ?_
          by_cases hc126 : v17 = v19
          · simp only [if_pos hc126] at h
            refine OEndsQ.icmpF hm_0 rfl ((teq hc126).2) ?_
            refine OEndsQ.adv hm_0 3 (pc' := 375) (L' := [.unset, .unset, .unset, .unset, .unset, .unset, .unset, .val (.int v7), .unset, .unset, .unset, .unset, .val (.ref 0), .unset, .unset, .unset, .val (.int v16), .val (.int v17), .val (.int v18), .val (.int v19), .val (.int 1)]) (S' := []) (H' := (bk0 n0_roomsOfType n0_roomsAtLeast n0_firstRoomOfType n0_slotActive n0_slotType n0_slotArrive n0_slotNights n0_exactCount n0_atLeastCount n0_planRoom n0_planGrid n0_planOrder n0_totalRooms n0_activeStays n0_planOrderLength n0_planCurrent n0_planUnplaced [])) rfl ?_
            exact ok_L_law_375 ih h
          · simp only [if_neg hc126] at h
            refine OEndsQ.icmpT hm_0 rfl (q := 372) rfl ((feq hc126).2) ?_
            refine OEndsQ.adv hm_0 2 (pc' := 375) (L' := [.unset, .unset, .unset, .unset, .unset, .unset, .unset, .val (.int v7), .unset, .unset, .unset, .unset, .val (.ref 0), .unset, .unset, .unset, .val (.int v16), .val (.int v17), .val (.int v18), .val (.int v19), .val (.int (-1))]) (S' := []) (H' := (bk0 n0_roomsOfType n0_roomsAtLeast n0_firstRoomOfType n0_slotActive n0_slotType n0_slotArrive n0_slotNights n0_exactCount n0_atLeastCount n0_planRoom n0_planGrid n0_planOrder n0_totalRooms n0_activeStays n0_planOrderLength n0_planCurrent n0_planUnplaced [])) rfl ?_
            exact ok_L_law_375 ih h
    · simp only [if_neg hc123] at h
      refine OEndsQ.icmpT hm_0 rfl (q := 397) rfl ((flt hc123).2.1) ?_
      refine OEndsQ.adv hm_0 1 (pc' := 398) (L' := [.unset, .unset, .unset, .unset, .unset, .unset, .unset, .val (.int v7), .unset, .unset, .unset, .unset, .val (.ref 0), .unset, .unset, .unset, .val (.int v16), .val (.int v17), .val (.int v18), .val (.int v19), .unset]) (S' := [.int 1]) (H' := (bk0 n0_roomsOfType n0_roomsAtLeast n0_firstRoomOfType n0_slotActive n0_slotType n0_slotArrive n0_slotNights n0_exactCount n0_atLeastCount n0_planRoom n0_planGrid n0_planOrder n0_totalRooms n0_activeStays n0_planOrderLength n0_planCurrent n0_planUnplaced [])) rfl ?_
      cases h
      exact OEndsQ.iret hm_0 rfl rfl
theorem ok_L_law_257 : ∀ {n0_firstRoomOfType : List Int32} {n0_slotActive : List Int32} {n0_slotType : List Int32} {n0_slotArrive : List Int32} {n0_slotNights : List Int32} {n0_planRoom : List Int32} {n0_planGrid : List Int32} {n0_planOrder : List Int32} {n0_totalRooms : Int32} {n0_planOrderLength : Int32} {n0_planCurrent : Int32} {n0_planUnplaced : Int32} {v7 : Int32} {v10 : Int32} {v11 : Int32} {v14 : Int32} {v16 : Int32} {v17 : Int32} {n0_activeStays : Int32} {n0_roomsOfType : List Int32} {n0_roomsAtLeast : List Int32} {n0_exactCount : List Int32} {n0_atLeastCount : List Int32} {d0 d1 d2 d3 d4 d5 d6 d8 d9 d13 d15 d18 d19 d20 : Slot} {res : Int32}, f_L_law_257 n0_firstRoomOfType n0_slotActive n0_slotType n0_slotArrive n0_slotNights n0_planRoom n0_planGrid n0_planOrder n0_totalRooms n0_planOrderLength n0_planCurrent n0_planUnplaced v7 v10 v11 v14 v16 v17 = some res → OEndsQ own_P 0 257 [d0, d1, d2, d3, d4, d5, d6, .val (.int v7), d8, d9, .val (.int v10), .val (.int v11), .val (.ref 0), d13, .val (.int v14), d15, .val (.int v16), .val (.int v17), d18, d19, d20] [] (bk0 n0_roomsOfType n0_roomsAtLeast n0_firstRoomOfType n0_slotActive n0_slotType n0_slotArrive n0_slotNights n0_exactCount n0_atLeastCount n0_planRoom n0_planGrid n0_planOrder n0_totalRooms n0_activeStays n0_planOrderLength n0_planCurrent n0_planUnplaced []) (LawQ res 0 0) := by
  intro n0_firstRoomOfType n0_slotActive n0_slotType n0_slotArrive n0_slotNights n0_planRoom n0_planGrid n0_planOrder n0_totalRooms n0_planOrderLength n0_planCurrent n0_planUnplaced v7 v10 v11 v14 v16 v17 n0_activeStays n0_roomsOfType n0_roomsAtLeast n0_exactCount n0_atLeastCount d0 d1 d2 d3 d4 d5 d6 d8 d9 d13 d15 d18 d19 d20 res h
  unfold f_L_law_257 at h
  refine OEndsQ.adv hm_0 1 (pc' := 259) (L' := [.unset, .unset, .unset, .unset, .unset, .unset, .unset, .val (.int v7), .unset, .unset, .val (.int v10), .val (.int v11), .val (.ref 0), .unset, .val (.int v14), .unset, .val (.int v16), .val (.int v17), .unset, .unset, .unset]) (S' := [.ref 0]) (H' := (bk0 n0_roomsOfType n0_roomsAtLeast n0_firstRoomOfType n0_slotActive n0_slotType n0_slotArrive n0_slotNights n0_exactCount n0_atLeastCount n0_planRoom n0_planGrid n0_planOrder n0_totalRooms n0_activeStays n0_planOrderLength n0_planCurrent n0_planUnplaced [])) rfl ?_
  obtain ⟨⟨r160, s161, s162, s163, s164, s165, s166⟩, hq127, h⟩ := bnd h
  refine OEndsQ.call0 hm_0 rfl rfl (by decide) rfl (as := [.ref 0]) (rest := []) rfl rfl (ok_assign hq127) ?_
  show OEndsQ own_P 0 262 [.unset, .unset, .unset, .unset, .unset, .unset, .unset, .val (.int v7), .unset, .unset, .val (.int v10), .val (.int v11), .val (.ref 0), .unset, .val (.int v14), .unset, .val (.int v16), .val (.int v17), .unset, .unset, .unset] [.int r160] (bk0 n0_roomsOfType n0_roomsAtLeast n0_firstRoomOfType n0_slotActive n0_slotType n0_slotArrive n0_slotNights n0_exactCount n0_atLeastCount s161 s162 s163 n0_totalRooms n0_activeStays s164 s165 s166 []) _
  by_cases hc128 : r160 = (0 : Int32)
  · simp only [if_pos hc128] at h
    refine OEndsQ.ifT hm_0 rfl (q := 267) rfl ((teq hc128).1) ?_
    refine OEndsQ.adv hm_0 1 (pc' := 269) (L' := [.unset, .unset, .unset, .unset, .unset, .unset, .unset, .val (.int v7), .unset, .unset, .val (.int v10), .val (.int v11), .val (.ref 0), .unset, .val (.int v14), .unset, .val (.int v16), .val (.int v17), .unset, .unset, .unset]) (S' := [.ref 0]) (H' := (bk0 n0_roomsOfType n0_roomsAtLeast n0_firstRoomOfType n0_slotActive n0_slotType n0_slotArrive n0_slotNights n0_exactCount n0_atLeastCount s161 s162 s163 n0_totalRooms n0_activeStays s164 s165 s166 [])) rfl ?_
    obtain ⟨r167, hq129, h⟩ := bnd h
    refine OEndsQ.call0 hm_0 rfl rfl (by decide) rfl (as := [.ref 0]) (rest := []) rfl rfl (ok_isAssigned hq129) ?_
    show OEndsQ own_P 0 272 [.unset, .unset, .unset, .unset, .unset, .unset, .unset, .val (.int v7), .unset, .unset, .val (.int v10), .val (.int v11), .val (.ref 0), .unset, .val (.int v14), .unset, .val (.int v16), .val (.int v17), .unset, .unset, .unset] [.int r167] (bk0 n0_roomsOfType n0_roomsAtLeast n0_firstRoomOfType n0_slotActive n0_slotType n0_slotArrive n0_slotNights n0_exactCount n0_atLeastCount s161 s162 s163 n0_totalRooms n0_activeStays s164 s165 s166 []) _
    by_cases hc130 : r167 = (0 : Int32)
    · simp only [if_pos hc130] at h
      refine OEndsQ.ifF hm_0 rfl ((teq hc130).2) ?_
      refine OEndsQ.adv hm_0 1 (pc' := 276) (L' := [.unset, .unset, .unset, .unset, .unset, .unset, .unset, .val (.int v7), .unset, .unset, .val (.int v10), .val (.int v11), .val (.ref 0), .unset, .val (.int v14), .unset, .val (.int v16), .val (.int v17), .unset, .unset, .unset]) (S' := [.int 0]) (H' := (bk0 n0_roomsOfType n0_roomsAtLeast n0_firstRoomOfType n0_slotActive n0_slotType n0_slotArrive n0_slotNights n0_exactCount n0_atLeastCount s161 s162 s163 n0_totalRooms n0_activeStays s164 s165 s166 [])) rfl ?_
      cases h
      exact OEndsQ.iret hm_0 rfl rfl
    · simp only [if_neg hc130] at h
      refine OEndsQ.ifT hm_0 rfl (q := 277) rfl ((feq hc130).2) ?_
      refine OEndsQ.adv hm_0 2 (pc' := 280) (L' := [.unset, .unset, .unset, .unset, .unset, .unset, .unset, .val (.int v7), .unset, .unset, .val (.int v10), .val (.int v11), .val (.ref 0), .unset, .val (.int v14), .unset, .val (.int v16), .val (.int v17), .unset, .unset, .unset]) (S' := [.int 0, .ref 0]) (H' := (bk0 n0_roomsOfType n0_roomsAtLeast n0_firstRoomOfType n0_slotActive n0_slotType n0_slotArrive n0_slotNights n0_exactCount n0_atLeastCount s161 s162 s163 n0_totalRooms n0_activeStays s164 s165 s166 [])) rfl ?_
      obtain ⟨r168, hq131, h⟩ := bnd h
      refine OEndsQ.call0 hm_0 rfl rfl (by decide) rfl (as := [.ref 0, .int 0]) (rest := []) rfl rfl (ok_roomOf hq131) ?_
      refine OEndsQ.adv hm_0 1 (pc' := 285) (L' := [.unset, .unset, .unset, .unset, .unset, .unset, .unset, .val (.int v7), .unset, .unset, .val (.int v10), .val (.int v11), .val (.ref 0), .unset, .val (.int v14), .unset, .val (.int v16), .val (.int v17), .unset, .unset, .unset]) (S' := [.int v16, .int r168]) (H' := (bk0 n0_roomsOfType n0_roomsAtLeast n0_firstRoomOfType n0_slotActive n0_slotType n0_slotArrive n0_slotNights n0_exactCount n0_atLeastCount s161 s162 s163 n0_totalRooms n0_activeStays s164 s165 s166 [])) rfl ?_
      by_cases hc132 : r168 = v16
      · simp only [if_pos hc132] at h
        refine OEndsQ.icmpT hm_0 rfl (q := 290) rfl ((teq hc132).1) ?_
        refine OEndsQ.adv hm_0 2 (pc' := 293) (L' := [.unset, .unset, .unset, .unset, .unset, .unset, .unset, .val (.int v7), .unset, .unset, .val (.int v10), .val (.int v11), .val (.ref 0), .unset, .val (.int v14), .unset, .val (.int v16), .val (.int v17), .unset, .unset, .unset]) (S' := [.int 1, .ref 0]) (H' := (bk0 n0_roomsOfType n0_roomsAtLeast n0_firstRoomOfType n0_slotActive n0_slotType n0_slotArrive n0_slotNights n0_exactCount n0_atLeastCount s161 s162 s163 n0_totalRooms n0_activeStays s164 s165 s166 [])) rfl ?_
        obtain ⟨r169, hq133, h⟩ := bnd h
        refine OEndsQ.call0 hm_0 rfl rfl (by decide) rfl (as := [.ref 0, .int 1]) (rest := []) rfl rfl (ok_roomOf hq133) ?_
        refine OEndsQ.adv hm_0 1 (pc' := 298) (L' := [.unset, .unset, .unset, .unset, .unset, .unset, .unset, .val (.int v7), .unset, .unset, .val (.int v10), .val (.int v11), .val (.ref 0), .unset, .val (.int v14), .unset, .val (.int v16), .val (.int v17), .unset, .unset, .unset]) (S' := [.int v17, .int r169]) (H' := (bk0 n0_roomsOfType n0_roomsAtLeast n0_firstRoomOfType n0_slotActive n0_slotType n0_slotArrive n0_slotNights n0_exactCount n0_atLeastCount s161 s162 s163 n0_totalRooms n0_activeStays s164 s165 s166 [])) rfl ?_
        by_cases hc134 : r169 = v17
        · simp only [if_pos hc134] at h
          refine OEndsQ.icmpT hm_0 rfl (q := 303) rfl ((teq hc134).1) ?_
          refine OEndsQ.adv hm_0 1 (pc' := 305) (L' := [.unset, .unset, .unset, .unset, .unset, .unset, .unset, .val (.int v7), .unset, .unset, .val (.int v10), .val (.int v11), .val (.ref 0), .unset, .val (.int v14), .unset, .val (.int v16), .val (.int v17), .unset, .unset, .unset]) (S' := [.int v14]) (H' := (bk0 n0_roomsOfType n0_roomsAtLeast n0_firstRoomOfType n0_slotActive n0_slotType n0_slotArrive n0_slotNights n0_exactCount n0_atLeastCount s161 s162 s163 n0_totalRooms n0_activeStays s164 s165 s166 [])) rfl ?_
          by_cases hc135 : v14 = (0 : Int32)
          · simp only [if_pos hc135] at h
            refine OEndsQ.ifT hm_0 rfl (q := 329) rfl ((teq hc135).1) ?_
            refine OEndsQ.adv hm_0 4 (pc' := 335) (L' := [.unset, .unset, .unset, .unset, .unset, .unset, .unset, .val (.int v7), .unset, .unset, .val (.int v10), .val (.int v11), .val (.ref 0), .unset, .val (.int v14), .unset, .val (.int v16), .val (.int v17), .val (.int 0), .val (.int 0), .unset]) (S' := []) (H' := (bk0 n0_roomsOfType n0_roomsAtLeast n0_firstRoomOfType n0_slotActive n0_slotType n0_slotArrive n0_slotNights n0_exactCount n0_atLeastCount s161 s162 s163 n0_totalRooms n0_activeStays s164 s165 s166 [])) rfl ?_
            exact ok_L_law_335 100000 h
          · simp only [if_neg hc135] at h
            refine OEndsQ.ifF hm_0 rfl ((feq hc135).1) ?_
            refine OEndsQ.adv hm_0 2 (pc' := 312) (L' := [.unset, .unset, .unset, .unset, .unset, .unset, .unset, .val (.int v7), .unset, .unset, .val (.int v10), .val (.int v11), .val (.ref 0), .unset, .val (.int v14), .unset, .val (.int v16), .val (.int v17), .unset, .unset, .unset]) (S' := [.int v7, .int v10]) (H' := (bk0 n0_roomsOfType n0_roomsAtLeast n0_firstRoomOfType n0_slotActive n0_slotType n0_slotArrive n0_slotNights n0_exactCount n0_atLeastCount s161 s162 s163 n0_totalRooms n0_activeStays s164 s165 s166 [])) rfl ?_
            by_cases hc136 : v7 < v10
            · simp only [if_pos hc136] at h
              refine OEndsQ.icmpT hm_0 rfl (q := 329) rfl ((tlt hc136).2.2.1) ?_
              refine OEndsQ.adv hm_0 4 (pc' := 335) (L' := [.unset, .unset, .unset, .unset, .unset, .unset, .unset, .val (.int v7), .unset, .unset, .val (.int v10), .val (.int v11), .val (.ref 0), .unset, .val (.int v14), .unset, .val (.int v16), .val (.int v17), .val (.int 0), .val (.int 0), .unset]) (S' := []) (H' := (bk0 n0_roomsOfType n0_roomsAtLeast n0_firstRoomOfType n0_slotActive n0_slotType n0_slotArrive n0_slotNights n0_exactCount n0_atLeastCount s161 s162 s163 n0_totalRooms n0_activeStays s164 s165 s166 [])) rfl ?_
              exact ok_L_law_335 100000 h
            · simp only [if_neg hc136] at h
              refine OEndsQ.icmpF hm_0 rfl ((flt hc136).2.2.1) ?_
              refine OEndsQ.adv hm_0 4 (pc' := 322) (L' := [.unset, .unset, .unset, .unset, .unset, .unset, .unset, .val (.int v7), .unset, .unset, .val (.int v10), .val (.int v11), .val (.ref 0), .unset, .val (.int v14), .unset, .val (.int v16), .val (.int v17), .unset, .unset, .unset]) (S' := [.int (v10 + v11), .int v7]) (H' := (bk0 n0_roomsOfType n0_roomsAtLeast n0_firstRoomOfType n0_slotActive n0_slotType n0_slotArrive n0_slotNights n0_exactCount n0_atLeastCount s161 s162 s163 n0_totalRooms n0_activeStays s164 s165 s166 [])) rfl ?_
              by_cases hc137 : v7 < (v10 + v11)
              · simp only [if_pos hc137] at h
                refine OEndsQ.icmpF hm_0 rfl ((tlt hc137).2.1) ?_
                refine OEndsQ.adv hm_0 5 (pc' := 335) (L' := [.unset, .unset, .unset, .unset, .unset, .unset, .unset, .val (.int v7), .unset, .unset, .val (.int v10), .val (.int v11), .val (.ref 0), .unset, .val (.int v14), .unset, .val (.int v16), .val (.int v17), .val (.int 1), .val (.int 0), .unset]) (S' := []) (H' := (bk0 n0_roomsOfType n0_roomsAtLeast n0_firstRoomOfType n0_slotActive n0_slotType n0_slotArrive n0_slotNights n0_exactCount n0_atLeastCount s161 s162 s163 n0_totalRooms n0_activeStays s164 s165 s166 [])) rfl ?_
                exact ok_L_law_335 100000 h
              · simp only [if_neg hc137] at h
                refine OEndsQ.icmpT hm_0 rfl (q := 329) rfl ((flt hc137).2.1) ?_
                refine OEndsQ.adv hm_0 4 (pc' := 335) (L' := [.unset, .unset, .unset, .unset, .unset, .unset, .unset, .val (.int v7), .unset, .unset, .val (.int v10), .val (.int v11), .val (.ref 0), .unset, .val (.int v14), .unset, .val (.int v16), .val (.int v17), .val (.int 0), .val (.int 0), .unset]) (S' := []) (H' := (bk0 n0_roomsOfType n0_roomsAtLeast n0_firstRoomOfType n0_slotActive n0_slotType n0_slotArrive n0_slotNights n0_exactCount n0_atLeastCount s161 s162 s163 n0_totalRooms n0_activeStays s164 s165 s166 [])) rfl ?_
                exact ok_L_law_335 100000 h
        · simp only [if_neg hc134] at h
          refine OEndsQ.icmpF hm_0 rfl ((feq hc134).1) ?_
          refine OEndsQ.adv hm_0 1 (pc' := 302) (L' := [.unset, .unset, .unset, .unset, .unset, .unset, .unset, .val (.int v7), .unset, .unset, .val (.int v10), .val (.int v11), .val (.ref 0), .unset, .val (.int v14), .unset, .val (.int v16), .val (.int v17), .unset, .unset, .unset]) (S' := [.int 0]) (H' := (bk0 n0_roomsOfType n0_roomsAtLeast n0_firstRoomOfType n0_slotActive n0_slotType n0_slotArrive n0_slotNights n0_exactCount n0_atLeastCount s161 s162 s163 n0_totalRooms n0_activeStays s164 s165 s166 [])) rfl ?_
          cases h
          exact OEndsQ.iret hm_0 rfl rfl
      · simp only [if_neg hc132] at h
        refine OEndsQ.icmpF hm_0 rfl ((feq hc132).1) ?_
        refine OEndsQ.adv hm_0 1 (pc' := 289) (L' := [.unset, .unset, .unset, .unset, .unset, .unset, .unset, .val (.int v7), .unset, .unset, .val (.int v10), .val (.int v11), .val (.ref 0), .unset, .val (.int v14), .unset, .val (.int v16), .val (.int v17), .unset, .unset, .unset]) (S' := [.int 0]) (H' := (bk0 n0_roomsOfType n0_roomsAtLeast n0_firstRoomOfType n0_slotActive n0_slotType n0_slotArrive n0_slotNights n0_exactCount n0_atLeastCount s161 s162 s163 n0_totalRooms n0_activeStays s164 s165 s166 [])) rfl ?_
        cases h
        exact OEndsQ.iret hm_0 rfl rfl
  · simp only [if_neg hc128] at h
    refine OEndsQ.ifF hm_0 rfl ((feq hc128).1) ?_
    refine OEndsQ.adv hm_0 1 (pc' := 266) (L' := [.unset, .unset, .unset, .unset, .unset, .unset, .unset, .val (.int v7), .unset, .unset, .val (.int v10), .val (.int v11), .val (.ref 0), .unset, .val (.int v14), .unset, .val (.int v16), .val (.int v17), .unset, .unset, .unset]) (S' := [.int 0]) (H' := (bk0 n0_roomsOfType n0_roomsAtLeast n0_firstRoomOfType n0_slotActive n0_slotType n0_slotArrive n0_slotNights n0_exactCount n0_atLeastCount s161 s162 s163 n0_totalRooms n0_activeStays s164 s165 s166 [])) rfl ?_
    cases h
    exact OEndsQ.iret hm_0 rfl rfl
theorem ok_L_law_157 : ∀ {n0_firstRoomOfType : List Int32} {n0_slotActive : List Int32} {n0_slotType : List Int32} {n0_slotArrive : List Int32} {n0_slotNights : List Int32} {n0_planRoom : List Int32} {n0_planGrid : List Int32} {n0_planOrder : List Int32} {n0_totalRooms : Int32} {n0_planOrderLength : Int32} {n0_planCurrent : Int32} {n0_planUnplaced : Int32} {v6 : Int32} {v7 : Int32} {v9 : Int32} {v10 : Int32} {v11 : Int32} {v13 : Int32} {v14 : Int32} {t0 : Int32} {t1 : Int32} {n0_activeStays : Int32} {n0_roomsOfType : List Int32} {n0_roomsAtLeast : List Int32} {n0_exactCount : List Int32} {n0_atLeastCount : List Int32} {d0 d1 d2 d3 d4 d5 d8 d15 d16 d17 d18 d19 d20 : Slot} {res : Int32}, f_L_law_157 n0_firstRoomOfType n0_slotActive n0_slotType n0_slotArrive n0_slotNights n0_planRoom n0_planGrid n0_planOrder n0_totalRooms n0_planOrderLength n0_planCurrent n0_planUnplaced v6 v7 v9 v10 v11 v13 v14 t0 t1 = some res → OEndsQ own_P 0 157 [d0, d1, d2, d3, d4, d5, .val (.int v6), .val (.int v7), d8, .val (.int v9), .val (.int v10), .val (.int v11), .val (.ref 0), .val (.int v13), .val (.int v14), d15, d16, d17, d18, d19, d20] [.int t0, .int t1] (bk0 n0_roomsOfType n0_roomsAtLeast n0_firstRoomOfType n0_slotActive n0_slotType n0_slotArrive n0_slotNights n0_exactCount n0_atLeastCount n0_planRoom n0_planGrid n0_planOrder n0_totalRooms n0_activeStays n0_planOrderLength n0_planCurrent n0_planUnplaced []) (LawQ res 0 0) := by
  intro n0_firstRoomOfType n0_slotActive n0_slotType n0_slotArrive n0_slotNights n0_planRoom n0_planGrid n0_planOrder n0_totalRooms n0_planOrderLength n0_planCurrent n0_planUnplaced v6 v7 v9 v10 v11 v13 v14 t0 t1 n0_activeStays n0_roomsOfType n0_roomsAtLeast n0_exactCount n0_atLeastCount d0 d1 d2 d3 d4 d5 d8 d15 d16 d17 d18 d19 d20 res h
  unfold f_L_law_157 at h
  by_cases hc138 : t1 = t0
  · simp only [if_pos hc138] at h
    refine OEndsQ.icmpT hm_0 rfl (q := 162) rfl ((teq hc138).1) ?_
    refine OEndsQ.adv hm_0 1 (pc' := 164) (L' := [.unset, .unset, .unset, .unset, .unset, .unset, .val (.int v6), .val (.int v7), .unset, .val (.int v9), .val (.int v10), .val (.int v11), .val (.ref 0), .val (.int v13), .val (.int v14), .unset, .unset, .unset, .unset, .unset, .unset]) (S' := [.ref 0]) (H' := (bk0 n0_roomsOfType n0_roomsAtLeast n0_firstRoomOfType n0_slotActive n0_slotType n0_slotArrive n0_slotNights n0_exactCount n0_atLeastCount n0_planRoom n0_planGrid n0_planOrder n0_totalRooms n0_activeStays n0_planOrderLength n0_planCurrent n0_planUnplaced [])) rfl ?_
    obtain ⟨r159, hq139, h⟩ := bnd h
    refine OEndsQ.call0 hm_0 rfl rfl (by decide) rfl (as := [.ref 0]) (rest := []) rfl rfl (ok_isAssigned hq139) ?_
    show OEndsQ own_P 0 167 [.unset, .unset, .unset, .unset, .unset, .unset, .val (.int v6), .val (.int v7), .unset, .val (.int v9), .val (.int v10), .val (.int v11), .val (.ref 0), .val (.int v13), .val (.int v14), .unset, .unset, .unset, .unset, .unset, .unset] [.int r159] (bk0 n0_roomsOfType n0_roomsAtLeast n0_firstRoomOfType n0_slotActive n0_slotType n0_slotArrive n0_slotNights n0_exactCount n0_atLeastCount n0_planRoom n0_planGrid n0_planOrder n0_totalRooms n0_activeStays n0_planOrderLength n0_planCurrent n0_planUnplaced []) _
    by_cases hc140 : r159 = (0 : Int32)
    · simp only [if_pos hc140] at h
      refine OEndsQ.ifT hm_0 rfl (q := 172) rfl ((teq hc140).1) ?_
      refine OEndsQ.adv hm_0 1 (pc' := 174) (L' := [.unset, .unset, .unset, .unset, .unset, .unset, .val (.int v6), .val (.int v7), .unset, .val (.int v9), .val (.int v10), .val (.int v11), .val (.ref 0), .val (.int v13), .val (.int v14), .unset, .unset, .unset, .unset, .unset, .unset]) (S' := [.int v14]) (H' := (bk0 n0_roomsOfType n0_roomsAtLeast n0_firstRoomOfType n0_slotActive n0_slotType n0_slotArrive n0_slotNights n0_exactCount n0_atLeastCount n0_planRoom n0_planGrid n0_planOrder n0_totalRooms n0_activeStays n0_planOrderLength n0_planCurrent n0_planUnplaced [])) rfl ?_
      by_cases hc141 : v14 = (0 : Int32)
      · simp only [if_pos hc141] at h
        refine OEndsQ.ifF hm_0 rfl ((teq hc141).2) ?_
        refine OEndsQ.adv hm_0 5 (pc' := 257) (L' := [.unset, .unset, .unset, .unset, .unset, .unset, .val (.int v6), .val (.int v7), .unset, .val (.int v9), .val (.int v10), .val (.int v11), .val (.ref 0), .val (.int v13), .val (.int v14), .unset, .val (.int v6), .val (.int (-1)), .unset, .unset, .unset]) (S' := []) (H' := (bk0 n0_roomsOfType n0_roomsAtLeast n0_firstRoomOfType n0_slotActive n0_slotType n0_slotArrive n0_slotNights n0_exactCount n0_atLeastCount n0_planRoom n0_planGrid n0_planOrder n0_totalRooms n0_activeStays n0_planOrderLength n0_planCurrent n0_planUnplaced [])) rfl ?_
        exact ok_L_law_257 h
      · simp only [if_neg hc141] at h
        refine OEndsQ.ifT hm_0 rfl (q := 187) rfl ((feq hc141).2) ?_
        refine OEndsQ.adv hm_0 1 (pc' := 189) (L' := [.unset, .unset, .unset, .unset, .unset, .unset, .val (.int v6), .val (.int v7), .unset, .val (.int v9), .val (.int v10), .val (.int v11), .val (.ref 0), .val (.int v13), .val (.int v14), .unset, .unset, .unset, .unset, .unset, .unset]) (S' := [.int v13]) (H' := (bk0 n0_roomsOfType n0_roomsAtLeast n0_firstRoomOfType n0_slotActive n0_slotType n0_slotArrive n0_slotNights n0_exactCount n0_atLeastCount n0_planRoom n0_planGrid n0_planOrder n0_totalRooms n0_activeStays n0_planOrderLength n0_planCurrent n0_planUnplaced [])) rfl ?_
        by_cases hc142 : v13 = (0 : Int32)
        · simp only [if_pos hc142] at h
          refine OEndsQ.ifF hm_0 rfl ((teq hc142).2) ?_
          refine OEndsQ.adv hm_0 5 (pc' := 257) (L' := [.unset, .unset, .unset, .unset, .unset, .unset, .val (.int v6), .val (.int v7), .unset, .val (.int v9), .val (.int v10), .val (.int v11), .val (.ref 0), .val (.int v13), .val (.int v14), .unset, .val (.int v6), .val (.int v9), .unset, .unset, .unset]) (S' := []) (H' := (bk0 n0_roomsOfType n0_roomsAtLeast n0_firstRoomOfType n0_slotActive n0_slotType n0_slotArrive n0_slotNights n0_exactCount n0_atLeastCount n0_planRoom n0_planGrid n0_planOrder n0_totalRooms n0_activeStays n0_planOrderLength n0_planCurrent n0_planUnplaced [])) rfl ?_
          exact ok_L_law_257 h
        · simp only [if_neg hc142] at h
          refine OEndsQ.ifT hm_0 rfl (q := 203) rfl ((feq hc142).2) ?_
          refine OEndsQ.adv hm_0 2 (pc' := 207) (L' := [.unset, .unset, .unset, .unset, .unset, .unset, .val (.int v6), .val (.int v7), .unset, .val (.int v9), .val (.int v10), .val (.int v11), .val (.ref 0), .val (.int v13), .val (.int v14), .unset, .unset, .unset, .unset, .unset, .unset]) (S' := [.int v10, .int v7]) (H' := (bk0 n0_roomsOfType n0_roomsAtLeast n0_firstRoomOfType n0_slotActive n0_slotType n0_slotArrive n0_slotNights n0_exactCount n0_atLeastCount n0_planRoom n0_planGrid n0_planOrder n0_totalRooms n0_activeStays n0_planOrderLength n0_planCurrent n0_planUnplaced [])) rfl ?_
          by_cases hc143 : v10 < v7
          · simp only [if_pos hc143] at h
            refine OEndsQ.icmpT hm_0 rfl (q := 235) rfl ((tlt hc143).2.2.1) ?_
            refine OEndsQ.adv hm_0 4 (pc' := 242) (L' := [.unset, .unset, .unset, .unset, .unset, .unset, .val (.int v6), .val (.int v7), .unset, .val (.int v9), .val (.int v10), .val (.int v11), .val (.ref 0), .val (.int v13), .val (.int v14), .unset, .unset, .val (.int v9), .unset, .unset, .unset]) (S' := [.int 1, .int v6]) (H' := (bk0 n0_roomsOfType n0_roomsAtLeast n0_firstRoomOfType n0_slotActive n0_slotType n0_slotArrive n0_slotNights n0_exactCount n0_atLeastCount n0_planRoom n0_planGrid n0_planOrder n0_totalRooms n0_activeStays n0_planOrderLength n0_planCurrent n0_planUnplaced [])) rfl ?_
            by_cases hc144 : v6 = (1 : Int32)
            · simp only [if_pos hc144] at h
              refine OEndsQ.icmpT hm_0 rfl (q := 250) rfl ((teq hc144).1) ?_
              refine OEndsQ.adv hm_0 3 (pc' := 257) (L' := [.unset, .unset, .unset, .unset, .unset, .unset, .val (.int v6), .val (.int v7), .unset, .val (.int v9), .val (.int v10), .val (.int v11), .val (.ref 0), .val (.int v13), .val (.int v14), .unset, .val (.int 1), .val (.int v9), .unset, .unset, .unset]) (S' := []) (H' := (bk0 n0_roomsOfType n0_roomsAtLeast n0_firstRoomOfType n0_slotActive n0_slotType n0_slotArrive n0_slotNights n0_exactCount n0_atLeastCount n0_planRoom n0_planGrid n0_planOrder n0_totalRooms n0_activeStays n0_planOrderLength n0_planCurrent n0_planUnplaced [])) rfl ?_
              exact ok_L_law_257 h
            · simp only [if_neg hc144] at h
              refine OEndsQ.icmpF hm_0 rfl ((feq hc144).1) ?_
              refine OEndsQ.adv hm_0 1 (pc' := 247) (L' := [.unset, .unset, .unset, .unset, .unset, .unset, .val (.int v6), .val (.int v7), .unset, .val (.int v9), .val (.int v10), .val (.int v11), .val (.ref 0), .val (.int v13), .val (.int v14), .unset, .unset, .val (.int v9), .unset, .unset, .unset]) (S' := [.int v9]) (H' := (bk0 n0_roomsOfType n0_roomsAtLeast n0_firstRoomOfType n0_slotActive n0_slotType n0_slotArrive n0_slotNights n0_exactCount n0_atLeastCount n0_planRoom n0_planGrid n0_planOrder n0_totalRooms n0_activeStays n0_planOrderLength n0_planCurrent n0_planUnplaced [])) rfl ?_
              by_cases hc145 : v9 = (0 : Int32)
              · simp only [if_pos hc145] at h
                refine OEndsQ.ifF hm_0 rfl ((teq hc145).2) ?_
                refine OEndsQ.adv hm_0 3 (pc' := 257) (L' := [.unset, .unset, .unset, .unset, .unset, .unset, .val (.int v6), .val (.int v7), .unset, .val (.int v9), .val (.int v10), .val (.int v11), .val (.ref 0), .val (.int v13), .val (.int v14), .unset, .val (.int 1), .val (.int v9), .unset, .unset, .unset]) (S' := []) (H' := (bk0 n0_roomsOfType n0_roomsAtLeast n0_firstRoomOfType n0_slotActive n0_slotType n0_slotArrive n0_slotNights n0_exactCount n0_atLeastCount n0_planRoom n0_planGrid n0_planOrder n0_totalRooms n0_activeStays n0_planOrderLength n0_planCurrent n0_planUnplaced [])) rfl ?_
                exact ok_L_law_257 h
              · simp only [if_neg hc145] at h
                refine OEndsQ.ifT hm_0 rfl (q := 254) rfl ((feq hc145).2) ?_
                refine OEndsQ.adv hm_0 2 (pc' := 257) (L' := [.unset, .unset, .unset, .unset, .unset, .unset, .val (.int v6), .val (.int v7), .unset, .val (.int v9), .val (.int v10), .val (.int v11), .val (.ref 0), .val (.int v13), .val (.int v14), .unset, .val (.int 0), .val (.int v9), .unset, .unset, .unset]) (S' := []) (H' := (bk0 n0_roomsOfType n0_roomsAtLeast n0_firstRoomOfType n0_slotActive n0_slotType n0_slotArrive n0_slotNights n0_exactCount n0_atLeastCount n0_planRoom n0_planGrid n0_planOrder n0_totalRooms n0_activeStays n0_planOrderLength n0_planCurrent n0_planUnplaced [])) rfl ?_
                exact ok_L_law_257 h
          · simp only [if_neg hc143] at h
            refine OEndsQ.icmpF hm_0 rfl ((flt hc143).2.2.1) ?_
            refine OEndsQ.adv hm_0 4 (pc' := 217) (L' := [.unset, .unset, .unset, .unset, .unset, .unset, .val (.int v6), .val (.int v7), .unset, .val (.int v9), .val (.int v10), .val (.int v11), .val (.ref 0), .val (.int v13), .val (.int v14), .unset, .val (.int v6), .unset, .unset, .unset, .unset]) (S' := [.int 1, .int v9]) (H' := (bk0 n0_roomsOfType n0_roomsAtLeast n0_firstRoomOfType n0_slotActive n0_slotType n0_slotArrive n0_slotNights n0_exactCount n0_atLeastCount n0_planRoom n0_planGrid n0_planOrder n0_totalRooms n0_activeStays n0_planOrderLength n0_planCurrent n0_planUnplaced [])) rfl ?_
            by_cases hc146 : v9 = (1 : Int32)
            · simp only [if_pos hc146] at h
              refine OEndsQ.icmpT hm_0 rfl (q := 225) rfl ((teq hc146).1) ?_
              refine OEndsQ.adv hm_0 4 (pc' := 257) (L' := [.unset, .unset, .unset, .unset, .unset, .unset, .val (.int v6), .val (.int v7), .unset, .val (.int v9), .val (.int v10), .val (.int v11), .val (.ref 0), .val (.int v13), .val (.int v14), .unset, .val (.int v6), .val (.int 1), .unset, .unset, .unset]) (S' := []) (H' := (bk0 n0_roomsOfType n0_roomsAtLeast n0_firstRoomOfType n0_slotActive n0_slotType n0_slotArrive n0_slotNights n0_exactCount n0_atLeastCount n0_planRoom n0_planGrid n0_planOrder n0_totalRooms n0_activeStays n0_planOrderLength n0_planCurrent n0_planUnplaced [])) rfl ?_
              exact ok_L_law_257 h
            · simp only [if_neg hc146] at h
              refine OEndsQ.icmpF hm_0 rfl ((feq hc146).1) ?_
              refine OEndsQ.adv hm_0 1 (pc' := 222) (L' := [.unset, .unset, .unset, .unset, .unset, .unset, .val (.int v6), .val (.int v7), .unset, .val (.int v9), .val (.int v10), .val (.int v11), .val (.ref 0), .val (.int v13), .val (.int v14), .unset, .val (.int v6), .unset, .unset, .unset, .unset]) (S' := [.int v6]) (H' := (bk0 n0_roomsOfType n0_roomsAtLeast n0_firstRoomOfType n0_slotActive n0_slotType n0_slotArrive n0_slotNights n0_exactCount n0_atLeastCount n0_planRoom n0_planGrid n0_planOrder n0_totalRooms n0_activeStays n0_planOrderLength n0_planCurrent n0_planUnplaced [])) rfl ?_
              by_cases hc147 : v6 = (0 : Int32)
              · simp only [if_pos hc147] at h
                refine OEndsQ.ifF hm_0 rfl ((teq hc147).2) ?_
                refine OEndsQ.adv hm_0 4 (pc' := 257) (L' := [.unset, .unset, .unset, .unset, .unset, .unset, .val (.int v6), .val (.int v7), .unset, .val (.int v9), .val (.int v10), .val (.int v11), .val (.ref 0), .val (.int v13), .val (.int v14), .unset, .val (.int v6), .val (.int 1), .unset, .unset, .unset]) (S' := []) (H' := (bk0 n0_roomsOfType n0_roomsAtLeast n0_firstRoomOfType n0_slotActive n0_slotType n0_slotArrive n0_slotNights n0_exactCount n0_atLeastCount n0_planRoom n0_planGrid n0_planOrder n0_totalRooms n0_activeStays n0_planOrderLength n0_planCurrent n0_planUnplaced [])) rfl ?_
                exact ok_L_law_257 h
              · simp only [if_neg hc147] at h
                refine OEndsQ.ifT hm_0 rfl (q := 229) rfl ((feq hc147).2) ?_
                refine OEndsQ.adv hm_0 3 (pc' := 257) (L' := [.unset, .unset, .unset, .unset, .unset, .unset, .val (.int v6), .val (.int v7), .unset, .val (.int v9), .val (.int v10), .val (.int v11), .val (.ref 0), .val (.int v13), .val (.int v14), .unset, .val (.int v6), .val (.int 0), .unset, .unset, .unset]) (S' := []) (H' := (bk0 n0_roomsOfType n0_roomsAtLeast n0_firstRoomOfType n0_slotActive n0_slotType n0_slotArrive n0_slotNights n0_exactCount n0_atLeastCount n0_planRoom n0_planGrid n0_planOrder n0_totalRooms n0_activeStays n0_planOrderLength n0_planCurrent n0_planUnplaced [])) rfl ?_
                exact ok_L_law_257 h
    · simp only [if_neg hc140] at h
      refine OEndsQ.ifF hm_0 rfl ((feq hc140).1) ?_
      refine OEndsQ.adv hm_0 1 (pc' := 171) (L' := [.unset, .unset, .unset, .unset, .unset, .unset, .val (.int v6), .val (.int v7), .unset, .val (.int v9), .val (.int v10), .val (.int v11), .val (.ref 0), .val (.int v13), .val (.int v14), .unset, .unset, .unset, .unset, .unset, .unset]) (S' := [.int 0]) (H' := (bk0 n0_roomsOfType n0_roomsAtLeast n0_firstRoomOfType n0_slotActive n0_slotType n0_slotArrive n0_slotNights n0_exactCount n0_atLeastCount n0_planRoom n0_planGrid n0_planOrder n0_totalRooms n0_activeStays n0_planOrderLength n0_planCurrent n0_planUnplaced [])) rfl ?_
      cases h
      exact OEndsQ.iret hm_0 rfl rfl
  · simp only [if_neg hc138] at h
    refine OEndsQ.icmpF hm_0 rfl ((feq hc138).1) ?_
    refine OEndsQ.adv hm_0 1 (pc' := 161) (L' := [.unset, .unset, .unset, .unset, .unset, .unset, .val (.int v6), .val (.int v7), .unset, .val (.int v9), .val (.int v10), .val (.int v11), .val (.ref 0), .val (.int v13), .val (.int v14), .unset, .unset, .unset, .unset, .unset, .unset]) (S' := [.int 0]) (H' := (bk0 n0_roomsOfType n0_roomsAtLeast n0_firstRoomOfType n0_slotActive n0_slotType n0_slotArrive n0_slotNights n0_exactCount n0_atLeastCount n0_planRoom n0_planGrid n0_planOrder n0_totalRooms n0_activeStays n0_planOrderLength n0_planCurrent n0_planUnplaced [])) rfl ?_
    cases h
    exact OEndsQ.iret hm_0 rfl rfl
theorem ok_L_law_129 : ∀ {n0_roomsAtLeast : List Int32} {n0_firstRoomOfType : List Int32} {n0_slotActive : List Int32} {n0_slotType : List Int32} {n0_slotArrive : List Int32} {n0_slotNights : List Int32} {n0_exactCount : List Int32} {n0_atLeastCount : List Int32} {n0_planRoom : List Int32} {n0_planGrid : List Int32} {n0_planOrder : List Int32} {n0_totalRooms : Int32} {n0_activeStays : Int32} {n0_planOrderLength : Int32} {n0_planCurrent : Int32} {n0_planUnplaced : Int32} {v6 : Int32} {v7 : Int32} {v9 : Int32} {v10 : Int32} {v11 : Int32} {v13 : Int32} {t0 : Int32} {n0_roomsOfType : List Int32} {d0 d1 d2 d3 d4 d5 d8 d14 d15 d16 d17 d18 d19 d20 : Slot} {res : Int32}, f_L_law_129 n0_roomsAtLeast n0_firstRoomOfType n0_slotActive n0_slotType n0_slotArrive n0_slotNights n0_exactCount n0_atLeastCount n0_planRoom n0_planGrid n0_planOrder n0_totalRooms n0_activeStays n0_planOrderLength n0_planCurrent n0_planUnplaced v6 v7 v9 v10 v11 v13 t0 = some res → OEndsQ own_P 0 129 [d0, d1, d2, d3, d4, d5, .val (.int v6), .val (.int v7), d8, .val (.int v9), .val (.int v10), .val (.int v11), .val (.ref 0), .val (.int v13), d14, d15, d16, d17, d18, d19, d20] [.int t0] (bk0 n0_roomsOfType n0_roomsAtLeast n0_firstRoomOfType n0_slotActive n0_slotType n0_slotArrive n0_slotNights n0_exactCount n0_atLeastCount n0_planRoom n0_planGrid n0_planOrder n0_totalRooms n0_activeStays n0_planOrderLength n0_planCurrent n0_planUnplaced []) (LawQ res 0 0) := by
  intro n0_roomsAtLeast n0_firstRoomOfType n0_slotActive n0_slotType n0_slotArrive n0_slotNights n0_exactCount n0_atLeastCount n0_planRoom n0_planGrid n0_planOrder n0_totalRooms n0_activeStays n0_planOrderLength n0_planCurrent n0_planUnplaced v6 v7 v9 v10 v11 v13 t0 n0_roomsOfType d0 d1 d2 d3 d4 d5 d8 d14 d15 d16 d17 d18 d19 d20 res h
  unfold f_L_law_129 at h
  refine OEndsQ.adv hm_0 5 (pc' := 139) (L' := [.unset, .unset, .unset, .unset, .unset, .unset, .val (.int v6), .val (.int v7), .unset, .val (.int v9), .val (.int v10), .val (.int v11), .val (.ref 0), .val (.int v13), .val (.int t0), .unset, .unset, .unset, .unset, .unset, .unset]) (S' := [.int v11, .int v10, .int v9, .ref 0]) (H' := (bk0 n0_roomsOfType n0_roomsAtLeast n0_firstRoomOfType n0_slotActive n0_slotType n0_slotArrive n0_slotNights n0_exactCount n0_atLeastCount n0_planRoom n0_planGrid n0_planOrder n0_totalRooms n0_activeStays n0_planOrderLength n0_planCurrent n0_planUnplaced [])) rfl ?_
  obtain ⟨⟨r150, s151, s152, s153, s154, s155, s156, s157, s158⟩, hq148, h⟩ := bnd h
  refine OEndsQ.call0 hm_0 rfl rfl (by decide) rfl (as := [.ref 0, .int v9, .int v10, .int v11]) (rest := []) rfl rfl (ok_book hq148) ?_
  refine OEndsQ.adv hm_0 3 (pc' := 148) (L' := [.unset, .unset, .unset, .unset, .unset, .unset, .val (.int v6), .val (.int v7), .unset, .val (.int v9), .val (.int v10), .val (.int v11), .val (.ref 0), .val (.int v13), .val (.int t0), .val (.int r150), .unset, .unset, .unset, .unset, .unset]) (S' := [.int t0, .int r150]) (H' := (bk0 n0_roomsOfType n0_roomsAtLeast n0_firstRoomOfType s151 s152 s153 s154 s155 s156 n0_planRoom n0_planGrid n0_planOrder n0_totalRooms s157 n0_planOrderLength s158 n0_planUnplaced [])) rfl ?_
  by_cases hc149 : t0 = (0 : Int32)
  · simp only [if_pos hc149] at h
    refine OEndsQ.ifT hm_0 rfl (q := 155) rfl ((teq hc149).1) ?_
    refine OEndsQ.adv hm_0 1 (pc' := 157) (L' := [.unset, .unset, .unset, .unset, .unset, .unset, .val (.int v6), .val (.int v7), .unset, .val (.int v9), .val (.int v10), .val (.int v11), .val (.ref 0), .val (.int v13), .val (.int t0), .val (.int r150), .unset, .unset, .unset, .unset, .unset]) (S' := [.int (-4), .int r150]) (H' := (bk0 n0_roomsOfType n0_roomsAtLeast n0_firstRoomOfType s151 s152 s153 s154 s155 s156 n0_planRoom n0_planGrid n0_planOrder n0_totalRooms s157 n0_planOrderLength s158 n0_planUnplaced [])) rfl ?_
    exact ok_L_law_157 h
  · simp only [if_neg hc149] at h
    refine OEndsQ.ifF hm_0 rfl ((feq hc149).1) ?_
    refine OEndsQ.adv hm_0 2 (pc' := 157) (L' := [.unset, .unset, .unset, .unset, .unset, .unset, .val (.int v6), .val (.int v7), .unset, .val (.int v9), .val (.int v10), .val (.int v11), .val (.ref 0), .val (.int v13), .val (.int t0), .val (.int r150), .unset, .unset, .unset, .unset, .unset]) (S' := [.int 1, .int r150]) (H' := (bk0 n0_roomsOfType n0_roomsAtLeast n0_firstRoomOfType s151 s152 s153 s154 s155 s156 n0_planRoom n0_planGrid n0_planOrder n0_totalRooms s157 n0_planOrderLength s158 n0_planUnplaced [])) rfl ?_
    exact ok_L_law_157 h
theorem ok_L_law_105 : ∀ {n0_roomsAtLeast : List Int32} {n0_firstRoomOfType : List Int32} {n0_slotActive : List Int32} {n0_slotType : List Int32} {n0_slotArrive : List Int32} {n0_slotNights : List Int32} {n0_exactCount : List Int32} {n0_atLeastCount : List Int32} {n0_planRoom : List Int32} {n0_planGrid : List Int32} {n0_planOrder : List Int32} {n0_totalRooms : Int32} {n0_activeStays : Int32} {n0_planOrderLength : Int32} {n0_planCurrent : Int32} {n0_planUnplaced : Int32} {v6 : Int32} {v7 : Int32} {v9 : Int32} {v10 : Int32} {v11 : Int32} {t0 : Int32} {n0_roomsOfType : List Int32} {d0 d1 d2 d3 d4 d5 d8 d13 d14 d15 d16 d17 d18 d19 d20 : Slot} {res : Int32}, f_L_law_105 n0_roomsAtLeast n0_firstRoomOfType n0_slotActive n0_slotType n0_slotArrive n0_slotNights n0_exactCount n0_atLeastCount n0_planRoom n0_planGrid n0_planOrder n0_totalRooms n0_activeStays n0_planOrderLength n0_planCurrent n0_planUnplaced v6 v7 v9 v10 v11 t0 = some res → OEndsQ own_P 0 105 [d0, d1, d2, d3, d4, d5, .val (.int v6), .val (.int v7), d8, .val (.int v9), .val (.int v10), .val (.int v11), .val (.ref 0), d13, d14, d15, d16, d17, d18, d19, d20] [.int t0] (bk0 n0_roomsOfType n0_roomsAtLeast n0_firstRoomOfType n0_slotActive n0_slotType n0_slotArrive n0_slotNights n0_exactCount n0_atLeastCount n0_planRoom n0_planGrid n0_planOrder n0_totalRooms n0_activeStays n0_planOrderLength n0_planCurrent n0_planUnplaced []) (LawQ res 0 0) := by
  intro n0_roomsAtLeast n0_firstRoomOfType n0_slotActive n0_slotType n0_slotArrive n0_slotNights n0_exactCount n0_atLeastCount n0_planRoom n0_planGrid n0_planOrder n0_totalRooms n0_activeStays n0_planOrderLength n0_planCurrent n0_planUnplaced v6 v7 v9 v10 v11 t0 n0_roomsOfType d0 d1 d2 d3 d4 d5 d8 d13 d14 d15 d16 d17 d18 d19 d20 res h
  unfold f_L_law_105 at h
  refine OEndsQ.adv hm_0 2 (pc' := 109) (L' := [.unset, .unset, .unset, .unset, .unset, .unset, .val (.int v6), .val (.int v7), .unset, .val (.int v9), .val (.int v10), .val (.int v11), .val (.ref 0), .val (.int t0), .unset, .unset, .unset, .unset, .unset, .unset, .unset]) (S' := [.int t0]) (H' := (bk0 n0_roomsOfType n0_roomsAtLeast n0_firstRoomOfType n0_slotActive n0_slotType n0_slotArrive n0_slotNights n0_exactCount n0_atLeastCount n0_planRoom n0_planGrid n0_planOrder n0_totalRooms n0_activeStays n0_planOrderLength n0_planCurrent n0_planUnplaced [])) rfl ?_
  by_cases hc150 : t0 = (0 : Int32)
  · simp only [if_pos hc150] at h
    refine OEndsQ.ifT hm_0 rfl (q := 124) rfl ((teq hc150).1) ?_
    refine OEndsQ.adv hm_0 2 (pc' := 129) (L' := [.unset, .unset, .unset, .unset, .unset, .unset, .val (.int v6), .val (.int v7), .unset, .val (.int v9), .val (.int v10), .val (.int v11), .val (.ref 0), .val (.int t0), .unset, .unset, .unset, .unset, .unset, .unset, .unset]) (S' := [.int 1]) (H' := (bk0 n0_roomsOfType n0_roomsAtLeast n0_firstRoomOfType n0_slotActive n0_slotType n0_slotArrive n0_slotNights n0_exactCount n0_atLeastCount n0_planRoom n0_planGrid n0_planOrder n0_totalRooms n0_activeStays n0_planOrderLength n0_planCurrent n0_planUnplaced [])) rfl ?_
    exact ok_L_law_129 h
  · simp only [if_neg hc150] at h
    refine OEndsQ.ifF hm_0 rfl ((feq hc150).1) ?_
    refine OEndsQ.adv hm_0 2 (pc' := 115) (L' := [.unset, .unset, .unset, .unset, .unset, .unset, .val (.int v6), .val (.int v7), .unset, .val (.int v9), .val (.int v10), .val (.int v11), .val (.ref 0), .val (.int t0), .unset, .unset, .unset, .unset, .unset, .unset, .unset]) (S' := [.int 1, .int v6]) (H' := (bk0 n0_roomsOfType n0_roomsAtLeast n0_firstRoomOfType n0_slotActive n0_slotType n0_slotArrive n0_slotNights n0_exactCount n0_atLeastCount n0_planRoom n0_planGrid n0_planOrder n0_totalRooms n0_activeStays n0_planOrderLength n0_planCurrent n0_planUnplaced [])) rfl ?_
    by_cases hc151 : v6 = (1 : Int32)
    · simp only [if_pos hc151] at h
      refine OEndsQ.icmpF hm_0 rfl ((teq hc151).2) ?_
      refine OEndsQ.adv hm_0 2 (pc' := 121) (L' := [.unset, .unset, .unset, .unset, .unset, .unset, .val (.int v6), .val (.int v7), .unset, .val (.int v9), .val (.int v10), .val (.int v11), .val (.ref 0), .val (.int t0), .unset, .unset, .unset, .unset, .unset, .unset, .unset]) (S' := [.int 1, .int v9]) (H' := (bk0 n0_roomsOfType n0_roomsAtLeast n0_firstRoomOfType n0_slotActive n0_slotType n0_slotArrive n0_slotNights n0_exactCount n0_atLeastCount n0_planRoom n0_planGrid n0_planOrder n0_totalRooms n0_activeStays n0_planOrderLength n0_planCurrent n0_planUnplaced [])) rfl ?_
      by_cases hc152 : v9 = (1 : Int32)
      · simp only [if_pos hc152] at h
        refine OEndsQ.icmpT hm_0 rfl (q := 128) rfl ((teq hc152).1) ?_
        refine OEndsQ.adv hm_0 1 (pc' := 129) (L' := [.unset, .unset, .unset, .unset, .unset, .unset, .val (.int v6), .val (.int v7), .unset, .val (.int v9), .val (.int v10), .val (.int v11), .val (.ref 0), .val (.int t0), .unset, .unset, .unset, .unset, .unset, .unset, .unset]) (S' := [.int 0]) (H' := (bk0 n0_roomsOfType n0_roomsAtLeast n0_firstRoomOfType n0_slotActive n0_slotType n0_slotArrive n0_slotNights n0_exactCount n0_atLeastCount n0_planRoom n0_planGrid n0_planOrder n0_totalRooms n0_activeStays n0_planOrderLength n0_planCurrent n0_planUnplaced [])) rfl ?_
        exact ok_L_law_129 h
      · simp only [if_neg hc152] at h
        refine OEndsQ.icmpF hm_0 rfl ((feq hc152).1) ?_
        refine OEndsQ.adv hm_0 2 (pc' := 129) (L' := [.unset, .unset, .unset, .unset, .unset, .unset, .val (.int v6), .val (.int v7), .unset, .val (.int v9), .val (.int v10), .val (.int v11), .val (.ref 0), .val (.int t0), .unset, .unset, .unset, .unset, .unset, .unset, .unset]) (S' := [.int 1]) (H' := (bk0 n0_roomsOfType n0_roomsAtLeast n0_firstRoomOfType n0_slotActive n0_slotType n0_slotArrive n0_slotNights n0_exactCount n0_atLeastCount n0_planRoom n0_planGrid n0_planOrder n0_totalRooms n0_activeStays n0_planOrderLength n0_planCurrent n0_planUnplaced [])) rfl ?_
        exact ok_L_law_129 h
    · simp only [if_neg hc151] at h
      refine OEndsQ.icmpT hm_0 rfl (q := 124) rfl ((feq hc151).2) ?_
      refine OEndsQ.adv hm_0 2 (pc' := 129) (L' := [.unset, .unset, .unset, .unset, .unset, .unset, .val (.int v6), .val (.int v7), .unset, .val (.int v9), .val (.int v10), .val (.int v11), .val (.ref 0), .val (.int t0), .unset, .unset, .unset, .unset, .unset, .unset, .unset]) (S' := [.int 1]) (H' := (bk0 n0_roomsOfType n0_roomsAtLeast n0_firstRoomOfType n0_slotActive n0_slotType n0_slotArrive n0_slotNights n0_exactCount n0_atLeastCount n0_planRoom n0_planGrid n0_planOrder n0_totalRooms n0_activeStays n0_planOrderLength n0_planCurrent n0_planUnplaced [])) rfl ?_
      exact ok_L_law_129 h
theorem ok_L_law {v0 : Int32} {v1 : Int32} {v2 : Int32} {v3 : Int32} {v4 : Int32} {v5 : Int32} {res : Int32} (h : f_L_law v0 v1 v2 v3 v4 v5 = some res) : OEndsQ own_P 0 0 [.val (.int v0), .val (.int v1), .val (.int v2), .val (.int v3), .val (.int v4), .val (.int v5), .unset, .unset, .unset, .unset, .unset, .unset, .unset, .unset, .unset, .unset, .unset, .unset, .unset, .unset, .unset] [] [] (LawQ res 13 1178) := by
  unfold f_L_law at h
  refine OEndsQ.adv hm_0 15 (pc' := 21) (L' := [.val (.int v0), .val (.int v1), .val (.int v2), .val (.int v3), .val (.int v4), .val (.int v5), .val (.int (v0 &&& (1 : Int32))), .val (.int (v1 &&& (31 : Int32))), .unset, .unset, .unset, .unset, .unset, .unset, .unset, .unset, .unset, .unset, .unset, .unset, .unset]) (S' := [.int ((32 : Int32) - (v1 &&& (31 : Int32))), .int (v2 &&& (2147483647 : Int32)), .int 1]) (H' := []) rfl ?_
  by_cases hz153 : ((32 : Int32) - (v1 &&& (31 : Int32))) = 0
  · simp only [if_pos hz153] at h
    cases h
  simp only [if_neg hz153] at h
  refine OEndsQ.plain hm_0 rfl rfl (x_irem hz153) ?_
  refine OEndsQ.adv hm_0 17 (pc' := 48) (L' := [.val (.int v0), .val (.int v1), .val (.int v2), .val (.int v3), .val (.int v4), .val (.int v5), .val (.int (v0 &&& (1 : Int32))), .val (.int (v1 &&& (31 : Int32))), .val (.int ((1 : Int32) + ((v2 &&& (2147483647 : Int32)) % ((32 : Int32) - (v1 &&& (31 : Int32)))))), .val (.int (v3 &&& (1 : Int32))), .val (.int (v4 &&& (31 : Int32))), .unset, .unset, .unset, .unset, .unset, .unset, .unset, .unset, .unset, .unset]) (S' := [.int ((32 : Int32) - (v4 &&& (31 : Int32))), .int (v5 &&& (2147483647 : Int32)), .int 1]) (H' := []) rfl ?_
  by_cases hz154 : ((32 : Int32) - (v4 &&& (31 : Int32))) = 0
  · simp only [if_pos hz154] at h
    cases h
  simp only [if_neg hz154] at h
  refine OEndsQ.plain hm_0 rfl rfl (x_irem hz154) ?_
  refine OEndsQ.adv hm_0 2 (pc' := 52) (L' := [.val (.int v0), .val (.int v1), .val (.int v2), .val (.int v3), .val (.int v4), .val (.int v5), .val (.int (v0 &&& (1 : Int32))), .val (.int (v1 &&& (31 : Int32))), .val (.int ((1 : Int32) + ((v2 &&& (2147483647 : Int32)) % ((32 : Int32) - (v1 &&& (31 : Int32)))))), .val (.int (v3 &&& (1 : Int32))), .val (.int (v4 &&& (31 : Int32))), .val (.int ((1 : Int32) + ((v5 &&& (2147483647 : Int32)) % ((32 : Int32) - (v4 &&& (31 : Int32)))))), .unset, .unset, .unset, .unset, .unset, .unset, .unset, .unset, .unset]) (S' := []) (H' := []) rfl ?_
  refine OEndsQ.made hm_0 rfl rfl (ks := 17) (c0 := 12) (s0 := 1161) rfl (Nat.le_of_ble_eq_true rfl) (Nat.le_of_ble_eq_true rfl) ?_
  refine OEndsQ.adv hm_0 4 (pc' := 59) (L' := [.val (.int v0), .val (.int v1), .val (.int v2), .val (.int v3), .val (.int v4), .val (.int v5), .val (.int (v0 &&& (1 : Int32))), .val (.int (v1 &&& (31 : Int32))), .val (.int ((1 : Int32) + ((v2 &&& (2147483647 : Int32)) % ((32 : Int32) - (v1 &&& (31 : Int32)))))), .val (.int (v3 &&& (1 : Int32))), .val (.int (v4 &&& (31 : Int32))), .val (.int ((1 : Int32) + ((v5 &&& (2147483647 : Int32)) % ((32 : Int32) - (v4 &&& (31 : Int32)))))), .unset, .unset, .unset, .unset, .unset, .unset, .unset, .unset, .unset]) (S' := [.int 0, .int 1, .int 1, .ref 0, .ref 0]) (H' := ((.inl (0, [.null, .null, .null, .null, .null, .null, .null, .null, .null, .null, .null, .null, .int 0, .int 0, .int 0, .int 0, .int 0]) : ACell) :: [])) rfl ?_
  obtain ⟨⟨s124, s125, s126, s127, s128, s129, s130, s131, s132, s133, s134, s135, s136, s137, s138, s139, s140⟩, hq155, h⟩ := bnd h
  refine OEndsQ.callN hm_0 rfl rfl (by decide) rfl (as := [.ref 0, .int 1, .int 1, .int 0]) (rest := [.ref 0]) rfl rfl (c0 := 0) (s0 := 0) (ok_init hq155) (Nat.le_of_ble_eq_true rfl) (Nat.le_of_ble_eq_true rfl) ?_
  refine OEndsQ.adv hm_0 5 (pc' := 72) (L' := [.val (.int v0), .val (.int v1), .val (.int v2), .val (.int v3), .val (.int v4), .val (.int v5), .val (.int (v0 &&& (1 : Int32))), .val (.int (v1 &&& (31 : Int32))), .val (.int ((1 : Int32) + ((v2 &&& (2147483647 : Int32)) % ((32 : Int32) - (v1 &&& (31 : Int32)))))), .val (.int (v3 &&& (1 : Int32))), .val (.int (v4 &&& (31 : Int32))), .val (.int ((1 : Int32) + ((v5 &&& (2147483647 : Int32)) % ((32 : Int32) - (v4 &&& (31 : Int32)))))), .val (.ref 0), .unset, .unset, .unset, .unset, .unset, .unset, .unset, .unset]) (S' := [.int ((1 : Int32) + ((v2 &&& (2147483647 : Int32)) % ((32 : Int32) - (v1 &&& (31 : Int32))))), .int (v1 &&& (31 : Int32)), .int (v0 &&& (1 : Int32)), .ref 0]) (H' := (bk0 s124 s125 s126 s127 s128 s129 s130 s131 s132 s133 s134 s135 s136 s137 s138 s139 s140 [])) rfl ?_
  obtain ⟨⟨r141, s142, s143, s144, s145, s146, s147, s148, s149⟩, hq156, h⟩ := bnd h
  refine OEndsQ.call0 hm_0 rfl rfl (by decide) rfl (as := [.ref 0, .int (v0 &&& (1 : Int32)), .int (v1 &&& (31 : Int32)), .int ((1 : Int32) + ((v2 &&& (2147483647 : Int32)) % ((32 : Int32) - (v1 &&& (31 : Int32)))))]) (rest := []) rfl rfl (ok_book hq156) ?_
  show OEndsQ own_P 0 75 [.val (.int v0), .val (.int v1), .val (.int v2), .val (.int v3), .val (.int v4), .val (.int v5), .val (.int (v0 &&& (1 : Int32))), .val (.int (v1 &&& (31 : Int32))), .val (.int ((1 : Int32) + ((v2 &&& (2147483647 : Int32)) % ((32 : Int32) - (v1 &&& (31 : Int32)))))), .val (.int (v3 &&& (1 : Int32))), .val (.int (v4 &&& (31 : Int32))), .val (.int ((1 : Int32) + ((v5 &&& (2147483647 : Int32)) % ((32 : Int32) - (v4 &&& (31 : Int32)))))), .val (.ref 0), .unset, .unset, .unset, .unset, .unset, .unset, .unset, .unset] [.int r141] (bk0 s124 s125 s126 s142 s143 s144 s145 s146 s147 s133 s134 s135 s136 s148 s138 s149 s140 []) _
  by_cases hc157 : r141 = (0 : Int32)
  · simp only [if_pos hc157] at h
    refine OEndsQ.ifT hm_0 rfl (q := 80) rfl ((teq hc157).1) ?_
    refine OEndsQ.adv hm_0 4 (pc' := 87) (L' := [.val (.int v0), .val (.int v1), .val (.int v2), .val (.int v3), .val (.int v4), .val (.int v5), .val (.int (v0 &&& (1 : Int32))), .val (.int (v1 &&& (31 : Int32))), .val (.int ((1 : Int32) + ((v2 &&& (2147483647 : Int32)) % ((32 : Int32) - (v1 &&& (31 : Int32)))))), .val (.int (v3 &&& (1 : Int32))), .val (.int (v4 &&& (31 : Int32))), .val (.int ((1 : Int32) + ((v5 &&& (2147483647 : Int32)) % ((32 : Int32) - (v4 &&& (31 : Int32)))))), .val (.ref 0), .unset, .unset, .unset, .unset, .unset, .unset, .unset, .unset]) (S' := [.int ((v4 &&& (31 : Int32)) + ((1 : Int32) + ((v5 &&& (2147483647 : Int32)) % ((32 : Int32) - (v4 &&& (31 : Int32)))))), .int (v1 &&& (31 : Int32))]) (H' := (bk0 s124 s125 s126 s142 s143 s144 s145 s146 s147 s133 s134 s135 s136 s148 s138 s149 s140 [])) rfl ?_
    by_cases hc158 : (v1 &&& (31 : Int32)) < ((v4 &&& (31 : Int32)) + ((1 : Int32) + ((v5 &&& (2147483647 : Int32)) % ((32 : Int32) - (v4 &&& (31 : Int32))))))
    · simp only [if_pos hc158] at h
      refine OEndsQ.icmpF hm_0 rfl ((tlt hc158).2.1) ?_
      refine OEndsQ.adv hm_0 4 (pc' := 97) (L' := [.val (.int v0), .val (.int v1), .val (.int v2), .val (.int v3), .val (.int v4), .val (.int v5), .val (.int (v0 &&& (1 : Int32))), .val (.int (v1 &&& (31 : Int32))), .val (.int ((1 : Int32) + ((v2 &&& (2147483647 : Int32)) % ((32 : Int32) - (v1 &&& (31 : Int32)))))), .val (.int (v3 &&& (1 : Int32))), .val (.int (v4 &&& (31 : Int32))), .val (.int ((1 : Int32) + ((v5 &&& (2147483647 : Int32)) % ((32 : Int32) - (v4 &&& (31 : Int32)))))), .val (.ref 0), .unset, .unset, .unset, .unset, .unset, .unset, .unset, .unset]) (S' := [.int ((v1 &&& (31 : Int32)) + ((1 : Int32) + ((v2 &&& (2147483647 : Int32)) % ((32 : Int32) - (v1 &&& (31 : Int32)))))), .int (v4 &&& (31 : Int32))]) (H' := (bk0 s124 s125 s126 s142 s143 s144 s145 s146 s147 s133 s134 s135 s136 s148 s138 s149 s140 [])) rfl ?_
      by_cases hc159 : (v4 &&& (31 : Int32)) < ((v1 &&& (31 : Int32)) + ((1 : Int32) + ((v2 &&& (2147483647 : Int32)) % ((32 : Int32) - (v1 &&& (31 : Int32))))))
      · simp only [if_pos hc159] at h
        refine OEndsQ.icmpF hm_0 rfl ((tlt hc159).2.1) ?_
        refine OEndsQ.adv hm_0 2 (pc' := 105) (L' := [.val (.int v0), .val (.int v1), .val (.int v2), .val (.int v3), .val (.int v4), .val (.int v5), .val (.int (v0 &&& (1 : Int32))), .val (.int (v1 &&& (31 : Int32))), .val (.int ((1 : Int32) + ((v2 &&& (2147483647 : Int32)) % ((32 : Int32) - (v1 &&& (31 : Int32)))))), .val (.int (v3 &&& (1 : Int32))), .val (.int (v4 &&& (31 : Int32))), .val (.int ((1 : Int32) + ((v5 &&& (2147483647 : Int32)) % ((32 : Int32) - (v4 &&& (31 : Int32)))))), .val (.ref 0), .unset, .unset, .unset, .unset, .unset, .unset, .unset, .unset]) (S' := [.int 1]) (H' := (bk0 s124 s125 s126 s142 s143 s144 s145 s146 s147 s133 s134 s135 s136 s148 s138 s149 s140 [])) rfl ?_
        exact ok_L_law_105 h
      · simp only [if_neg hc159] at h
        refine OEndsQ.icmpT hm_0 rfl (q := 104) rfl ((flt hc159).2.1) ?_
        refine OEndsQ.adv hm_0 1 (pc' := 105) (L' := [.val (.int v0), .val (.int v1), .val (.int v2), .val (.int v3), .val (.int v4), .val (.int v5), .val (.int (v0 &&& (1 : Int32))), .val (.int (v1 &&& (31 : Int32))), .val (.int ((1 : Int32) + ((v2 &&& (2147483647 : Int32)) % ((32 : Int32) - (v1 &&& (31 : Int32)))))), .val (.int (v3 &&& (1 : Int32))), .val (.int (v4 &&& (31 : Int32))), .val (.int ((1 : Int32) + ((v5 &&& (2147483647 : Int32)) % ((32 : Int32) - (v4 &&& (31 : Int32)))))), .val (.ref 0), .unset, .unset, .unset, .unset, .unset, .unset, .unset, .unset]) (S' := [.int 0]) (H' := (bk0 s124 s125 s126 s142 s143 s144 s145 s146 s147 s133 s134 s135 s136 s148 s138 s149 s140 [])) rfl ?_
        exact ok_L_law_105 h
    · simp only [if_neg hc158] at h
      refine OEndsQ.icmpT hm_0 rfl (q := 104) rfl ((flt hc158).2.1) ?_
      refine OEndsQ.adv hm_0 1 (pc' := 105) (L' := [.val (.int v0), .val (.int v1), .val (.int v2), .val (.int v3), .val (.int v4), .val (.int v5), .val (.int (v0 &&& (1 : Int32))), .val (.int (v1 &&& (31 : Int32))), .val (.int ((1 : Int32) + ((v2 &&& (2147483647 : Int32)) % ((32 : Int32) - (v1 &&& (31 : Int32)))))), .val (.int (v3 &&& (1 : Int32))), .val (.int (v4 &&& (31 : Int32))), .val (.int ((1 : Int32) + ((v5 &&& (2147483647 : Int32)) % ((32 : Int32) - (v4 &&& (31 : Int32)))))), .val (.ref 0), .unset, .unset, .unset, .unset, .unset, .unset, .unset, .unset]) (S' := [.int 0]) (H' := (bk0 s124 s125 s126 s142 s143 s144 s145 s146 s147 s133 s134 s135 s136 s148 s138 s149 s140 [])) rfl ?_
      exact ok_L_law_105 h
  · simp only [if_neg hc157] at h
    refine OEndsQ.ifF hm_0 rfl ((feq hc157).1) ?_
    refine OEndsQ.adv hm_0 1 (pc' := 79) (L' := [.val (.int v0), .val (.int v1), .val (.int v2), .val (.int v3), .val (.int v4), .val (.int v5), .val (.int (v0 &&& (1 : Int32))), .val (.int (v1 &&& (31 : Int32))), .val (.int ((1 : Int32) + ((v2 &&& (2147483647 : Int32)) % ((32 : Int32) - (v1 &&& (31 : Int32)))))), .val (.int (v3 &&& (1 : Int32))), .val (.int (v4 &&& (31 : Int32))), .val (.int ((1 : Int32) + ((v5 &&& (2147483647 : Int32)) % ((32 : Int32) - (v4 &&& (31 : Int32)))))), .val (.ref 0), .unset, .unset, .unset, .unset, .unset, .unset, .unset, .unset]) (S' := [.int 0]) (H' := (bk0 s124 s125 s126 s142 s143 s144 s145 s146 s147 s133 s134 s135 s136 s148 s138 s149 s140 [])) rfl ?_
    cases h
    exact OEndsQ.iret hm_0 rfl rfl
/-! The planner -/
theorem own_w0 {α : Type} (a x : α) (t : List α) : wrA (a :: t) 0 x = some (x :: t) := by
  have h : ¬ (0 : Int32) < 0 := by decide
  have e : (0 : Int32).toNatClampNeg = 0 := rfl
  simp [wrA, h, e]
theorem own_w1 {α : Type} (a b x : α) (t : List α) : wrA (a :: b :: t) 1 x = some (a :: x :: t) := by
  have h : ¬ (1 : Int32) < 0 := by decide
  have e : (1 : Int32).toNatClampNeg = 1 := rfl
  simp [wrA, h, e]
theorem own_w2 {α : Type} (a b c x : α) (t : List α) : wrA (a :: b :: c :: t) 2 x = some (a :: b :: x :: t) := by
  have h : ¬ (2 : Int32) < 0 := by decide
  have e : (2 : Int32).toNatClampNeg = 2 := rfl
  simp [wrA, h, e]
theorem own_r0 {α : Type} (a : α) (t : List α) : rdA (a :: t) 0 = some a := by
  have h : ¬ (0 : Int32) < 0 := by decide
  have e : (0 : Int32).toNatClampNeg = 0 := rfl
  simp [rdA, h, e]
theorem own_r1 {α : Type} (a b : α) (t : List α) : rdA (a :: b :: t) 1 = some b := by
  have h : ¬ (1 : Int32) < 0 := by decide
  have e : (1 : Int32).toNatClampNeg = 1 := rfl
  simp [rdA, h, e]
theorem own_r2 {α : Type} (a b c : α) (t : List α) : rdA (a :: b :: c :: t) 2 = some c := by
  have h : ¬ (2 : Int32) < 0 := by decide
  have e : (2 : Int32).toNatClampNeg = 2 := rfl
  simp [rdA, h, e]
/-- a loop that fills from the front -/
theorem own_fill {α : Type} (a b : α) (i m : Nat) {j : Int32} (hj : j.toInt = i) : wrA (List.replicate i a ++ List.replicate (m + 1) b) j a = some (List.replicate (i + 1) a ++ List.replicate m b) := by
  rw [wrA_in (by omega) (by rw [List.length_append, List.length_replicate, List.length_replicate]; omega)]
  have e : j.toInt.toNat = i := by omega
  rw [e, List.set_append_right _ _ (by simp), List.length_replicate, Nat.sub_self, List.replicate_succ, List.set_cons_zero, List.replicate_succ' (n := i), List.append_assoc]
  (first | done | rfl | simp)
theorem own_rs2 : ∀ (m n i : Nat) (s j : Int32), m < n → j.toInt = i → i + m = 32 →
    f_resetStays_2 n (List.replicate i 0 ++ List.replicate m 0) (List.replicate i 0 ++ List.replicate m 0) (List.replicate i 0 ++ List.replicate m 0) (List.replicate i 0 ++ List.replicate m 0) s j = some (List.replicate 32 0, List.replicate 32 0, List.replicate 32 0, List.replicate 32 0, 0) := by
  intro m
  induction m with
  | zero =>
    intro n i s j h1 h2 h3
    obtain ⟨n, rfl⟩ : ∃ n', n = n' + 1 := ⟨n - 1, by omega⟩
    unfold f_resetStays_2
    have e : i = 32 := by omega
    rw [if_neg (by ((try simp only [ilt, ile, ieq, iadd_e, isub_e, imul_e, Int32.reduceToInt] at *) <;> omega)), e]
    (first | done | rfl | simp)
  | succ m ih =>
    intro n i s j h1 h2 h3
    obtain ⟨n, rfl⟩ : ∃ n', n = n' + 1 := ⟨n - 1, by omega⟩
    unfold f_resetStays_2
    rw [if_pos (by clear ih; ((try simp only [ilt, ile, ieq, iadd_e, isub_e, imul_e, Int32.reduceToInt] at *) <;> omega)), own_fill 0 0 i m h2]
    simp only [Option.bind_some]
    exact ih n (i + 1) s (j + 1) (by omega) (by clear ih; ((try simp only [ilt, ile, ieq, iadd_e, isub_e, imul_e, Int32.reduceToInt] at *) <;> omega)) (by omega)
theorem own_rs : f_resetStays (List.replicate 32 0) (List.replicate 32 0) (List.replicate 32 0) (List.replicate 32 0) 0 = some (List.replicate 32 0, List.replicate 32 0, List.replicate 32 0, List.replicate 32 0, 0) := by
  unfold f_resetStays
  exact own_rs2 32 100000 0 0 0 (by decide) rfl rfl
theorem own_rc2 : ∀ (m n i : Nat) (j : Int32), m < n → j.toInt = i → i + m = 96 →
    f_resetCounts_2 n (List.replicate i 0 ++ List.replicate m 0) (List.replicate i 0 ++ List.replicate m 0) j = some (List.replicate 96 0, List.replicate 96 0) := by
  intro m
  induction m with
  | zero =>
    intro n i j h1 h2 h3
    obtain ⟨n, rfl⟩ : ∃ n', n = n' + 1 := ⟨n - 1, by omega⟩
    unfold f_resetCounts_2
    have e : i = 96 := by omega
    rw [if_neg (by ((try simp only [ilt, ile, ieq, iadd_e, isub_e, imul_e, Int32.reduceToInt] at *) <;> omega)), e]
    (first | done | rfl | simp)
  | succ m ih =>
    intro n i j h1 h2 h3
    obtain ⟨n, rfl⟩ : ∃ n', n = n' + 1 := ⟨n - 1, by omega⟩
    unfold f_resetCounts_2
    rw [if_pos (by clear ih; ((try simp only [ilt, ile, ieq, iadd_e, isub_e, imul_e, Int32.reduceToInt] at *) <;> omega)), own_fill 0 0 i m h2]
    simp only [Option.bind_some]
    exact ih n (i + 1) (j + 1) (by omega) (by clear ih; ((try simp only [ilt, ile, ieq, iadd_e, isub_e, imul_e, Int32.reduceToInt] at *) <;> omega)) (by omega)
theorem own_rc : f_resetCounts (List.replicate 96 0) (List.replicate 96 0) = some (List.replicate 96 0, List.replicate 96 0) := by
  unfold f_resetCounts
  exact own_rc2 96 100000 0 0 (by decide) rfl rfl
theorem own_cp30 (R O : List Int32) (l : Int32) : ∀ (m n i : Nat) (j : Int32), m < n → j.toInt = i → i + m = 768 →
    f_clearPlan_30 n R (List.replicate i (-1) ++ List.replicate m 0) O l j = some (R, List.replicate 768 (-1), O, 0) := by
  intro m
  induction m with
  | zero =>
    intro n i j h1 h2 h3
    obtain ⟨n, rfl⟩ : ∃ n', n = n' + 1 := ⟨n - 1, by omega⟩
    unfold f_clearPlan_30
    have e : i = 768 := by omega
    rw [if_neg (by ((try simp only [ilt, ile, ieq, iadd_e, isub_e, imul_e, Int32.reduceToInt] at *) <;> omega)), e, List.replicate_zero, List.append_nil]
  | succ m ih =>
    intro n i j h1 h2 h3
    obtain ⟨n, rfl⟩ : ∃ n', n = n' + 1 := ⟨n - 1, by omega⟩
    unfold f_clearPlan_30
    rw [if_pos (by clear ih; ((try simp only [ilt, ile, ieq, iadd_e, isub_e, imul_e, Int32.reduceToInt] at *) <;> omega)), own_fill (-1) 0 i m h2, Option.bind_some]
    exact ih n (i + 1) (j + 1) (by omega) (by clear ih; ((try simp only [ilt, ile, ieq, iadd_e, isub_e, imul_e, Int32.reduceToInt] at *) <;> omega)) (by omega)
theorem own_cp2 (G : List Int32) (l : Int32) (k30 : List Int32 → List Int32 → List Int32 → Int32 → Int32 → Option (List Int32 × List Int32 × List Int32 × Int32)) : ∀ (m n i : Nat) (j : Int32), m < n → j.toInt = i → i + m = 32 →
    f_clearPlan_2 k30 n (List.replicate i (-1) ++ List.replicate m 0) G (List.replicate i 0 ++ List.replicate m 0) l j = k30 (List.replicate 32 (-1)) G (List.replicate 32 0) l 0 := by
  intro m
  induction m with
  | zero =>
    intro n i j h1 h2 h3
    obtain ⟨n, rfl⟩ : ∃ n', n = n' + 1 := ⟨n - 1, by omega⟩
    unfold f_clearPlan_2
    have e : i = 32 := by omega
    rw [if_neg (by ((try simp only [ilt, ile, ieq, iadd_e, isub_e, imul_e, Int32.reduceToInt] at *) <;> omega)), e, List.replicate_zero, List.append_nil, List.append_nil]
  | succ m ih =>
    intro n i j h1 h2 h3
    obtain ⟨n, rfl⟩ : ∃ n', n = n' + 1 := ⟨n - 1, by omega⟩
    unfold f_clearPlan_2
    rw [if_pos (by clear ih; ((try simp only [ilt, ile, ieq, iadd_e, isub_e, imul_e, Int32.reduceToInt] at *) <;> omega)), own_fill (-1) 0 i m h2, Option.bind_some, own_fill 0 0 i m h2, Option.bind_some]
    exact ih n (i + 1) (j + 1) (by omega) (by clear ih; ((try simp only [ilt, ile, ieq, iadd_e, isub_e, imul_e, Int32.reduceToInt] at *) <;> omega)) (by omega)
theorem own_cp : f_clearPlan (List.replicate 32 0) (List.replicate 768 0) (List.replicate 32 0) 0 = some (List.replicate 32 (-1), List.replicate 768 (-1), List.replicate 32 0, 0) := by
  unfold f_clearPlan
  have a := own_cp2 (List.replicate 768 0) 0 (f_clearPlan_30 100000) 32 100000 0 0 (by decide) rfl rfl
  have b := own_cp30 (List.replicate 32 (-1)) (List.replicate 32 0) 0 768 100000 0 0 (by decide) rfl rfl
  rw [List.replicate_zero, List.nil_append, List.replicate_zero, List.nil_append] at a
  rw [List.replicate_zero, List.nil_append] at b
  rw [a, b]
def own_cl (v : Int32) : Int32 := if v < (0 : Int32) then (0 : Int32) else (if (8 : Int32) < v then (8 : Int32) else v)
theorem own_cl_rng (v : Int32) : 0 ≤ (own_cl v).toInt ∧ (own_cl v).toInt ≤ 8 := by
  unfold own_cl
  have e0 : (0 : Int32).toInt = 0 := rfl
  have e8 : (8 : Int32).toInt = 8 := rfl
  split
  · decide
  · rename_i g
    split
    · decide
    · rename_i g2
      rw [ilt] at g g2
      omega
theorem own_init (v1 v2 v3 : Int32) : f_init v1 v2 v3 = some ([own_cl v1, own_cl v2, own_cl v3], [own_cl v1 + own_cl v2 + own_cl v3, own_cl v2 + own_cl v3, own_cl v3], [0, own_cl v1, own_cl v1 + own_cl v2], List.replicate 32 0, List.replicate 32 0, List.replicate 32 0, List.replicate 32 0, List.replicate 96 0, List.replicate 96 0, List.replicate 32 (-1), List.replicate 768 (-1), List.replicate 32 0, own_cl v1 + own_cl v2 + own_cl v3, 0, 0, 0, 0) := by
  have e3 : (List.replicate 3 0 : List Int32) = [0, 0, 0] := rfl
  have a1 : ∀ v, f_clampRooms v = some (own_cl v) := fun v => rfl
  simp only [f_init, a1, Option.bind_some, e3, own_w0, own_w1, own_w2, f_computeRoomTables, own_r0, own_r1, own_r2, own_rs, own_rc, own_cp]
theorem own_type (v : Int32) : v < 0 ∨ (2 : Int32) < v ∨ v = 0 ∨ v = 1 ∨ v = 2 := by
  simp only [ilt, ieq, Int32.reduceToInt]
  omega
theorem own_night (v : Int32) : v < 0 ∨ (31 : Int32) < v ∨ (0 ≤ v.toInt ∧ v.toInt ≤ 31) := by
  simp only [ilt, Int32.reduceToInt]
  omega
/-! What a stay adds to the counts -/
def own_wn (w m : Int32) : Prop := 0 ≤ w.toInt ∧ w.toInt < 3 ∧ 0 ≤ m.toInt ∧ m.toInt < 32
theorem own_wx {w m : Int32} (h : own_wn w m) : (w * 32 + m).toInt = w.toInt * 32 + m.toInt := by
  obtain ⟨a, b, c, d⟩ := h
  ((try simp only [ilt, ile, ieq, iadd_e, isub_e, imul_e, Int32.reduceToInt] at *) <;> omega)
theorem own_ix_ne {w m u n : Int32} (h : own_wn w m) (g : own_wn u n) : (u * 32 + n = w * 32 + m) ↔ (w.toInt = u.toInt ∧ m.toInt = n.toInt) := by
  rw [ieq, own_wx h, own_wx g]
  obtain ⟨a, b, c, d⟩ := h
  obtain ⟨a', b', c', d'⟩ := g
  omega
theorem own_set2 {A : List Int32} (hA : A.length = 96) {u n w m x : Int32} (g : own_wn u n) (h : own_wn w m) : gI (A.set (u * 32 + n).toInt.toNat x) (w * 32 + m) = if w.toInt = u.toInt ∧ m.toInt = n.toInt then x else gI A (w * 32 + m) := by
  have e1 := own_wx h
  have e2 := own_wx g
  have q := own_ix_ne h g
  obtain ⟨a, b, c, d⟩ := h
  obtain ⟨a', b', c', d'⟩ := g
  rw [gset (by omega) (by omega) (by omega)]
  by_cases k : w.toInt = u.toInt ∧ m.toInt = n.toInt
  · rw [if_pos k, if_pos (q.mpr k)]
  · rw [if_neg k, if_neg (fun z => k (q.mp z))]
theorem own_adj84 {Q : List Int32 × List Int32 → Prop} (k53 : List Int32 → List Int32 → Int32 → Int32 → Int32 → Int32 → Option (List Int32 × List Int32)) (ST SA SN EX AL0 : List Int32) (δ ty e n : Int32) (ht0 : 0 ≤ ty.toInt) (ht2 : ty.toInt ≤ 2) (hn0 : 0 ≤ n.toInt) (hn : n.toInt < 32)
    (hk : ∀ AL' : List Int32, AL'.length = 96 → (∀ w m : Int32, own_wn w m → gI AL' (w * 32 + m) = gI AL0 (w * 32 + m) + (if m.toInt = n.toInt ∧ w.toInt ≤ ty.toInt then δ else 0)) → Tot (k53 EX AL' δ ty e (n + 1)) Q) :
    ∀ (fuel : Nat) (AL : List Int32) (u : Int32), AL.length = 96 → 0 ≤ u.toInt → u.toInt ≤ ty.toInt + 1 → 3 - u.toInt < fuel → (∀ w m : Int32, own_wn w m → gI AL (w * 32 + m) = gI AL0 (w * 32 + m) + (if m.toInt = n.toInt ∧ w.toInt < u.toInt then δ else 0)) → Tot (f_adjustCoverage_84 k53 ST SA SN fuel EX AL δ ty e n u) Q := by
  intro fuel
  induction fuel with
  | zero => intro AL u h1 h2 h3 h4; exfalso; omega
  | succ fuel ih =>
    intro AL u h1 h2 h3 h4 h5
    unfold f_adjustCoverage_84
    refine Tot.ite (fun g => ?_) (fun g => ?_)
    · have g' := ilt.mp g
      refine hk AL h1 (fun w m hw => ?_)
      rw [h5 w m hw]
      have hi := hw
      obtain ⟨a, b, c, d⟩ := hi
      by_cases k : m.toInt = n.toInt ∧ w.toInt ≤ ty.toInt
      · rw [if_pos k, if_pos ⟨k.1, by omega⟩]
      · rw [if_neg k, if_neg (fun z => k ⟨z.1, by omega⟩)]
    · have g' : ¬ ty.toInt < u.toInt := fun z => g (ilt.mpr z)
      have gu : own_wn u n := ⟨h2, by omega, hn0, hn⟩
      have ei := own_wx gu
      have eu : (u + 1).toInt = u.toInt + 1 := by clear ih h5 hk ei; ((try simp only [ilt, ile, ieq, iadd_e, isub_e, imul_e, Int32.reduceToInt] at *) <;> omega)
      unfold f_countIndex
      rw [Option.bind_some]
      refine Tot.rdI (by omega) (by omega) (Tot.wr (by omega) (by omega) (fun A' q1 q2 => ?_))
      refine ih A' (u + 1) (by omega) (by omega) (by omega) (by omega) (fun w m hw => ?_)
      rw [q1, own_set2 h1 gu hw]
      have p := h5 w m hw
      have p0 := h5 u n gu
      rw [if_neg (by omega), Int32.add_zero] at p0
      have hi := hw
      obtain ⟨a, b, c, d⟩ := hi
      by_cases k : w.toInt = u.toInt ∧ m.toInt = n.toInt
      · rw [if_pos k, p0, if_pos ⟨k.2, by omega⟩]
        have ew : w = u := ieq.mpr k.1
        have em : m = n := ieq.mpr k.2
        rw [ew, em]
      · rw [if_neg k, p]
        by_cases k2 : m.toInt = n.toInt ∧ w.toInt < u.toInt
        · rw [if_pos k2, if_pos ⟨k2.1, by omega⟩]
        · rw [if_neg k2, if_neg (fun z => by
            apply k2
            refine ⟨z.1, ?_⟩
            have z2 := z.2
            have nz : ¬ w.toInt = u.toInt := fun y => k ⟨y, z.1⟩
            omega)]
/-- exact and at-least counts after a stay's nights a .. e - 1 -/
def own_cov (EX0 AL0 : List Int32) (δ ty a e : Int32) (EX AL : List Int32) : Prop :=
  EX.length = 96 ∧ AL.length = 96 ∧ ∀ w m : Int32, own_wn w m →
    gI EX (w * 32 + m) = gI EX0 (w * 32 + m) + (if w.toInt = ty.toInt ∧ a.toInt ≤ m.toInt ∧ m.toInt < e.toInt then δ else 0) ∧
    gI AL (w * 32 + m) = gI AL0 (w * 32 + m) + (if w.toInt ≤ ty.toInt ∧ a.toInt ≤ m.toInt ∧ m.toInt < e.toInt then δ else 0)
theorem own_adj53 (ST SA SN EX0 AL0 : List Int32) (δ ty a e : Int32) (ht0 : 0 ≤ ty.toInt) (ht2 : ty.toInt ≤ 2) (ha : 0 ≤ a.toInt) (he : e.toInt ≤ 32) :
    ∀ (fuel : Nat) (EX AL : List Int32) (j : Int32), a.toInt ≤ j.toInt → j.toInt ≤ e.toInt → 32 - j.toInt < fuel → own_cov EX0 AL0 δ ty a j EX AL → Tot (f_adjustCoverage_53 ST SA SN fuel EX AL δ ty e j) (fun r => own_cov EX0 AL0 δ ty a e r.1 r.2) := by
  intro fuel
  induction fuel with
  | zero => intro EX AL j h1 h2 h3; exfalso; omega
  | succ fuel ih =>
    intro EX AL j h1 h2 h3 h4
    have e0 : (0 : Int32).toInt = 0 := rfl
    unfold f_adjustCoverage_53
    refine Tot.ite (fun g => ?_) (fun g0 => Tot.ite (fun g => ?_) (fun g => ?_))
    · exfalso
      rw [ilt] at g
      omega
    · have g' := ilt.mp g
      obtain ⟨l1, l2, h5⟩ := h4
      have gu : own_wn ty j := ⟨ht0, by omega, by omega, by omega⟩
      have ei := own_wx gu
      have ej : (j + 1).toInt = j.toInt + 1 := by clear ih h5 ei; ((try simp only [ilt, ile, ieq, iadd_e, isub_e, imul_e, Int32.reduceToInt] at *) <;> omega)
      unfold f_countIndex
      rw [Option.bind_some]
      refine Tot.rdI (by omega) (by omega) (Tot.wr (by omega) (by omega) (fun EX' q1 q2 => ?_))
      refine own_adj84 _ ST SA SN EX' AL δ ty e j ht0 ht2 (by omega) (by omega) (fun AL' l3 h6 => ?_) 100000 AL 0 l2 (by decide) (by omega) (by decide) (fun w m hw => ?_)
      · refine ih EX' AL' (j + 1) (by omega) (by omega) (by omega) ⟨by omega, l3, fun w m hw => ⟨?_, ?_⟩⟩
        · rw [q1, own_set2 l1 gu hw]
          have p := (h5 w m hw).1
          have p0 := (h5 ty j gu).1
          rw [if_neg (by omega), Int32.add_zero] at p0
          by_cases k : w.toInt = ty.toInt ∧ m.toInt = j.toInt
          · rw [if_pos k, p0, if_pos ⟨k.1, by omega, by omega⟩]
            have ew : w = ty := ieq.mpr k.1
            have em : m = j := ieq.mpr k.2
            rw [ew, em]
          · rw [if_neg k, p]
            by_cases k2 : w.toInt = ty.toInt ∧ a.toInt ≤ m.toInt ∧ m.toInt < j.toInt
            · rw [if_pos k2, if_pos ⟨k2.1, k2.2.1, by omega⟩]
            · rw [if_neg k2, if_neg (fun z => by
                apply k2
                refine ⟨z.1, z.2.1, ?_⟩
                have z2 := z.2.2
                have nz : ¬ m.toInt = j.toInt := fun y => k ⟨z.1, y⟩
                omega)]
        · rw [h6 w m hw, (h5 w m hw).2]
          by_cases k : m.toInt = j.toInt ∧ w.toInt ≤ ty.toInt
          · rw [if_pos k, if_neg (by omega), if_pos ⟨k.2, by omega, by omega⟩, Int32.add_zero]
          · rw [if_neg k, Int32.add_zero]
            by_cases k2 : w.toInt ≤ ty.toInt ∧ a.toInt ≤ m.toInt ∧ m.toInt < j.toInt
            · rw [if_pos k2, if_pos ⟨k2.1, k2.2.1, by omega⟩]
            · rw [if_neg k2, if_neg (fun z => by
                apply k2
                refine ⟨z.1, z.2.1, ?_⟩
                have z2 := z.2.2
                have nz : ¬ m.toInt = j.toInt := fun y => k ⟨y, z.1⟩
                omega)]
      · rw [if_neg (by obtain ⟨q1', -, -, -⟩ := hw; omega), Int32.add_zero]
    · have g' : ¬ j.toInt < e.toInt := fun z => g (ilt.mpr z)
      have ee : j = e := ieq.mpr (by omega)
      rw [ee] at h4
      exact Tot.mk h4
theorem own_cov0 {EX AL : List Int32} (h1 : EX.length = 96) (h2 : AL.length = 96) (δ ty a : Int32) : own_cov EX AL δ ty a a EX AL := by
  refine ⟨h1, h2, fun w m hw => ⟨?_, ?_⟩⟩
  · rw [if_neg (by omega), Int32.add_zero]
  · rw [if_neg (by omega), Int32.add_zero]
/-- a stay's coverage is added or taken back -/
theorem own_adjust {ST SA SN EX AL : List Int32} (hT : ST.length = 32) (hA : SA.length = 32) (hN : SN.length = 32) (hE : EX.length = 96) (hL : AL.length = 96) {id : Int32} (hi0 : 0 ≤ id.toInt) (hi1 : id.toInt < 32) (δ : Int32)
    (ht0 : 0 ≤ (gI ST id).toInt) (ht2 : (gI ST id).toInt ≤ 2) (ha0 : 0 ≤ (gI SA id).toInt) (hk0 : 0 ≤ (gI SN id).toInt) (hk : (gI SA id).toInt + (gI SN id).toInt ≤ 32) :
    Tot (f_adjustCoverage ST SA SN EX AL id δ) (fun r => own_cov EX AL δ (gI ST id) (gI SA id) (gI SA id + gI SN id) r.1 r.2) := by
  have e0 : (0 : Int32).toInt = 0 := rfl
  have e32 : (32 : Int32).toInt = 32 := rfl
  have e3 : (3 : Int32).toInt = 3 := rfl
  unfold f_adjustCoverage
  rw [if_neg (by rw [ilt]; omega), if_pos (by rw [ilt]; omega)]
  refine Tot.rdI hi0 (by omega) ?_
  have vt : f_isValidType (gI ST id) = some 1 := by
    unfold f_isValidType
    rw [if_neg (by rw [ilt]; omega), if_pos (by rw [ilt]; omega)]
  rw [vt, Option.bind_some, if_neg (by decide)]
  refine Tot.rdI hi0 (by omega) (Tot.rdI hi0 (by omega) ?_)
  generalize gI ST id = ty at *
  generalize gI SA id = a at *
  generalize gI SN id = k at *
  have es : (a + k).toInt = a.toInt + k.toInt := by clear vt; ((try simp only [ilt, ile, ieq, iadd_e, isub_e, imul_e, Int32.reduceToInt] at *) <;> omega)
  unfold f_endOf
  rw [if_neg (by rw [ilt]; omega), Option.bind_some]
  exact own_adj53 ST SA SN EX AL δ ty a (a + k) ht0 ht2 ha0 (by omega) 100000 EX AL a (by omega) (by omega) (by omega) (own_cov0 hE hL δ ty a)
abbrev own_PS (AC ST SA SN EX AL : List Int32) : Prop := (AC.length = 32) ∧ (ST.length = 32) ∧ (SA.length = 32) ∧ (SN.length = 32) ∧ (EX.length = 96) ∧ (AL.length = 96) ∧ (∀ id : Int32, 0 ≤ id.toInt → id.toInt < 32 → (gI AC id = 0 ∧ gI ST id = 0 ∧ gI SA id = 0 ∧ gI SN id = 0) ∨ (gI AC id = 1 ∧ 0 ≤ (gI ST id).toInt ∧ (gI ST id).toInt ≤ 2 ∧ 0 ≤ (gI SA id).toInt ∧ 1 ≤ (gI SN id).toInt ∧ (gI SA id).toInt + (gI SN id).toInt ≤ 32))
theorem own_PS.lC {AC ST SA SN EX AL : List Int32} (self : own_PS AC ST SA SN EX AL) : AC.length = 32 := self.1
theorem own_PS.lT {AC ST SA SN EX AL : List Int32} (self : own_PS AC ST SA SN EX AL) : ST.length = 32 := self.2.1
theorem own_PS.lA {AC ST SA SN EX AL : List Int32} (self : own_PS AC ST SA SN EX AL) : SA.length = 32 := self.2.2.1
theorem own_PS.lN {AC ST SA SN EX AL : List Int32} (self : own_PS AC ST SA SN EX AL) : SN.length = 32 := self.2.2.2.1
theorem own_PS.lE {AC ST SA SN EX AL : List Int32} (self : own_PS AC ST SA SN EX AL) : EX.length = 96 := self.2.2.2.2.1
theorem own_PS.lL {AC ST SA SN EX AL : List Int32} (self : own_PS AC ST SA SN EX AL) : AL.length = 96 := self.2.2.2.2.2.1
theorem own_PS.ok {AC ST SA SN EX AL : List Int32} (self : own_PS AC ST SA SN EX AL) : ∀ id : Int32, 0 ≤ id.toInt → id.toInt < 32 → (gI AC id = 0 ∧ gI ST id = 0 ∧ gI SA id = 0 ∧ gI SN id = 0) ∨ (gI AC id = 1 ∧ 0 ≤ (gI ST id).toInt ∧ (gI ST id).toInt ≤ 2 ∧ 0 ≤ (gI SA id).toInt ∧ 1 ≤ (gI SN id).toInt ∧ (gI SA id).toInt + (gI SN id).toInt ≤ 32) := self.2.2.2.2.2.2
theorem own_act {AC : List Int32} (hl : AC.length = 32) (v : Int32) : (f_isActiveStay AC v = some 0 ∧ (v.toInt < 0 ∨ 32 ≤ v.toInt)) ∨ (f_isActiveStay AC v = some (gI AC v &&& 1) ∧ 0 ≤ v.toInt ∧ v.toInt < 32) := by
  have e0 : (0 : Int32).toInt = 0 := rfl
  unfold f_isActiveStay
  by_cases a : v < 0
  · rw [if_pos a]
    exact Or.inl ⟨rfl, Or.inl (by rw [ilt] at a; omega)⟩
  · have a' := a
    rw [ilt] at a'
    by_cases b : v < 32
    · have b' : v.toInt < 32 := ilt.mp b
      rw [if_neg a, if_pos b, rdg (by omega) (by omega), Option.bind_some]
      exact Or.inr ⟨rfl, by omega, b'⟩
    · have b' : ¬ v.toInt < 32 := fun z => b (ilt.mpr z)
      rw [if_neg a, if_neg b]
      exact Or.inl ⟨rfl, Or.inr (by omega)⟩
theorem own_act01 {AC ST SA SN EX AL : List Int32} (h : own_PS AC ST SA SN EX AL) (v : Int32) : (f_isActiveStay AC v = some 0 ∧ (0 ≤ v.toInt → v.toInt < 32 → gI AC v = 0)) ∨ (f_isActiveStay AC v = some 1 ∧ 0 ≤ v.toInt ∧ v.toInt < 32 ∧ gI AC v = 1 ∧ 0 ≤ (gI ST v).toInt ∧ (gI ST v).toInt ≤ 2 ∧ 0 ≤ (gI SA v).toInt ∧ 1 ≤ (gI SN v).toInt ∧ (gI SA v).toInt + (gI SN v).toInt ≤ 32) := by
  rcases own_act h.lC v with ⟨e, r⟩ | ⟨e, r0, r1⟩
  · exact Or.inl ⟨e, fun a b => by omega⟩
  · rcases h.ok v r0 r1 with ⟨k, -⟩ | ⟨k, k1, k2, k3, k4, k5⟩
    · left
      rw [e, k]
      exact ⟨by decide, fun _ _ => rfl⟩
    · right
      rw [e, k]
      exact ⟨by decide, r0, r1, rfl, k1, k2, k3, k4, k5⟩
theorem own_vt3 (t : Int32) : f_isValidType t = some 0 ∨ (f_isValidType t = some 1 ∧ 0 ≤ t.toInt ∧ t.toInt ≤ 2) := by
  have e0 : (0 : Int32).toInt = 0 := rfl
  have e3 : (3 : Int32).toInt = 3 := rfl
  unfold f_isValidType
  by_cases a : t < 0
  · rw [if_pos a]; exact Or.inl rfl
  · by_cases b : t < 3
    · rw [if_neg a, if_pos b]
      rw [ilt] at a b
      exact Or.inr ⟨rfl, by omega, by omega⟩
    · rw [if_neg a, if_neg b]; exact Or.inl rfl
theorem own_vn3 (t : Int32) : f_isValidNight t = some 0 ∨ (f_isValidNight t = some 1 ∧ 0 ≤ t.toInt ∧ t.toInt ≤ 31) := by
  have e0 : (0 : Int32).toInt = 0 := rfl
  have e3 : (32 : Int32).toInt = 32 := rfl
  unfold f_isValidNight
  by_cases a : t < 0
  · rw [if_pos a]; exact Or.inl rfl
  · by_cases b : t < 32
    · rw [if_neg a, if_pos b]
      rw [ilt] at a b
      exact Or.inr ⟨rfl, by omega, by omega⟩
    · rw [if_neg a, if_neg b]; exact Or.inl rfl
/-- a request: an error, or type, night and length in range -/
theorem own_rq (t a k : Int32) : (∃ e, f_requestError t a k = some e ∧ e.toInt < 0) ∨ (f_requestError t a k = some 0 ∧ 0 ≤ t.toInt ∧ t.toInt ≤ 2 ∧ 0 ≤ a.toInt ∧ a.toInt ≤ 31 ∧ 1 ≤ k.toInt ∧ a.toInt + k.toInt ≤ 32) := by
  have e1 : (1 : Int32).toInt = 1 := rfl
  have e32 : (32 : Int32).toInt = 32 := rfl
  unfold f_requestError
  rcases own_vt3 t with e | ⟨e, t0, t2⟩
  · rw [e, Option.bind_some, if_pos rfl]
    exact Or.inl ⟨_, rfl, by decide⟩
  · rw [e, Option.bind_some, if_neg (by decide)]
    rcases own_vn3 a with e | ⟨e, a0, a1⟩
    · rw [e, Option.bind_some, if_pos rfl]
      exact Or.inl ⟨_, rfl, by decide⟩
    · unfold f_isValidLength
      rw [e, Option.bind_some, if_neg (by decide), Option.bind_some]
      by_cases g : k < 1
      · rw [if_pos g, if_pos rfl]
        exact Or.inl ⟨_, rfl, by decide⟩
      · by_cases g2 : 32 - a < k
        · rw [if_neg g, if_pos g2, if_pos rfl]
          exact Or.inl ⟨_, rfl, by decide⟩
        · have es : (32 - a).toInt = 32 - a.toInt := by rw [isub_i (by omega) (by omega), e32]
          rw [if_neg g, if_neg g2, if_neg (by decide)]
          rw [ilt] at g g2
          exact Or.inr ⟨rfl, t0, t2, a0, a1, by omega, by omega⟩
theorem own_ala {AL : List Int32} (hL : AL.length = 96) {u n : Int32} (h : own_wn u n) : f_atLeastAt AL u n = some (gI AL (u * 32 + n)) := by
  have ei := own_wx h
  obtain ⟨a, b, c, d⟩ := h
  have e0 : (0 : Int32).toInt = 0 := rfl
  have e3 : (3 : Int32).toInt = 3 := rfl
  have e32 : (32 : Int32).toInt = 32 := rfl
  unfold f_atLeastAt f_countIndex f_isValidType f_isValidNight
  rw [if_neg (by rw [ilt]; omega), if_pos (by rw [ilt]; omega), Option.bind_some, if_neg (by decide), if_neg (by rw [ilt]; omega), if_pos (by rw [ilt]; omega), Option.bind_some, if_neg (by decide), Option.bind_some, rdg (by omega) (by omega), Option.bind_some]
theorem own_of {q : Int32} (h0 : 0 ≤ q.toInt) : Int32.ofNat q.toInt.toNat = q := by
  have := irng q
  rw [ieq, Int32.toInt_ofNat_of_lt (by omega)]
  omega
theorem own_ixs {i : Int32} (h0 : 0 ≤ i.toInt) (h1 : i.toInt < 96) : ∃ w m : Int32, own_wn w m ∧ i = w * 32 + m := by
  have e1 : (Int32.ofNat (i.toInt.toNat / 32)).toInt = (i.toInt.toNat / 32 : Nat) := Int32.toInt_ofNat_of_lt (by omega)
  have e2 : (Int32.ofNat (i.toInt.toNat % 32)).toInt = (i.toInt.toNat % 32 : Nat) := Int32.toInt_ofNat_of_lt (by omega)
  have hw : own_wn (Int32.ofNat (i.toInt.toNat / 32)) (Int32.ofNat (i.toInt.toNat % 32)) := ⟨by omega, by omega, by omega, by omega⟩
  refine ⟨_, _, hw, ?_⟩
  rw [ieq, own_wx hw, e1, e2]
  omega
theorem own_pm (x : Int32) (c : Prop) [Decidable c] : x + (if c then (1 : Int32) else 0) + (if c then (-1 : Int32) else 0) = x := by
  by_cases h : c
  · rw [if_pos h, if_pos h, Int32.add_assoc, show (1 + -1 : Int32) = 0 from by decide, Int32.add_zero]
  · rw [if_neg h, if_neg h, Int32.add_zero, Int32.add_zero]
theorem own_cov_back {EX AL EX1 AL1 EX2 AL2 : List Int32} {ty a e : Int32} (lE : EX.length = 96) (lL : AL.length = 96) (h1 : own_cov EX AL 1 ty a e EX1 AL1) (h2 : own_cov EX1 AL1 (-1) ty a e EX2 AL2) : EX2 = EX ∧ AL2 = AL := by
  obtain ⟨a1, a2, a3⟩ := h1
  obtain ⟨b1, b2, b3⟩ := h2
  constructor
  · refine gext (by omega) (by omega) (fun i p q => ?_)
    obtain ⟨w, m, hw, rfl⟩ := own_ixs p (by omega)
    rw [(b3 w m hw).1, (a3 w m hw).1, own_pm]
  · refine gext (by omega) (by omega) (fun i p q => ?_)
    obtain ⟨w, m, hw, rfl⟩ := own_ixs p (by omega)
    rw [(b3 w m hw).2, (a3 w m hw).2, own_pm]
theorem own_set_back {L : List Int32} (hl : L.length = 32) {id x y : Int32} (h0 : 0 ≤ id.toInt) (h1 : id.toInt < 32) (hx : gI L id = x) : (L.set id.toInt.toNat y).set id.toInt.toNat x = L := by
  refine gext (by simp; omega) (by simp) (fun i p q => ?_)
  rw [gset h0 (by simp; omega) p]
  by_cases e : id = i
  · rw [if_pos e, ← e, hx]
  · rw [if_neg e, gset h0 (by omega) p, if_neg e]
theorem own_gs {L : List Int32} (hl : L.length = 32) {id i x : Int32} (h0 : 0 ≤ id.toInt) (h1 : id.toInt < 32) (p : 0 ≤ i.toInt) : gI (L.set id.toInt.toNat x) i = if id = i then x else gI L i := gset h0 (by omega) p
theorem own_len {L : List Int32} {n : Nat} (hl : L.length = n) (k : Nat) (x : Int32) : (L.set k x).length = n := by rw [List.length_set]; exact hl
/-- a stay is stored at a slot -/
theorem own_put {AC ST SA SN EX AL EX' AL' : List Int32} (h : own_PS AC ST SA SN EX AL) {id t a k : Int32} (h0 : 0 ≤ id.toInt) (h1 : id.toInt < 32) (t0 : 0 ≤ t.toInt) (t2 : t.toInt ≤ 2) (a0 : 0 ≤ a.toInt) (k1 : 1 ≤ k.toInt) (ak : a.toInt + k.toInt ≤ 32) (l1 : EX'.length = 96) (l2 : AL'.length = 96) :
    own_PS (AC.set id.toInt.toNat 1) (ST.set id.toInt.toNat t) (SA.set id.toInt.toNat a) (SN.set id.toInt.toNat k) EX' AL' := by
  refine ⟨own_len h.lC _ _, own_len h.lT _ _, own_len h.lA _ _, own_len h.lN _ _, l1, l2, fun i p q => ?_⟩
  rw [own_gs h.lC h0 h1 p, own_gs h.lT h0 h1 p, own_gs h.lA h0 h1 p, own_gs h.lN h0 h1 p]
  by_cases e : id = i
  · rw [if_pos e, if_pos e, if_pos e, if_pos e]
    exact Or.inr ⟨rfl, t0, t2, a0, k1, ak⟩
  · rw [if_neg e, if_neg e, if_neg e, if_neg e]
    exact h.ok i p q
theorem own_drop {AC ST SA SN EX AL EX' AL' : List Int32} (h : own_PS AC ST SA SN EX AL) {id : Int32} (h0 : 0 ≤ id.toInt) (h1 : id.toInt < 32) (l1 : EX'.length = 96) (l2 : AL'.length = 96) :
    own_PS (AC.set id.toInt.toNat 0) (ST.set id.toInt.toNat 0) (SA.set id.toInt.toNat 0) (SN.set id.toInt.toNat 0) EX' AL' := by
  refine ⟨own_len h.lC _ _, own_len h.lT _ _, own_len h.lA _ _, own_len h.lN _ _, l1, l2, fun i p q => ?_⟩
  rw [own_gs h.lC h0 h1 p, own_gs h.lT h0 h1 p, own_gs h.lA h0 h1 p, own_gs h.lN h0 h1 p]
  by_cases e : id = i
  · rw [if_pos e, if_pos e, if_pos e, if_pos e]
    exact Or.inl ⟨rfl, rfl, rfl, rfl⟩
  · rw [if_neg e, if_neg e, if_neg e, if_neg e]
    exact h.ok i p q
/-- coverage of a stay that stands in the slots -/
theorem own_adj {AC ST SA SN EX AL : List Int32} (lT : ST.length = 32) (lA : SA.length = 32) (lN : SN.length = 32) (lE : EX.length = 96) (lL : AL.length = 96) {id t a k δ : Int32} (h0 : 0 ≤ id.toInt) (h1 : id.toInt < 32) (eT : gI ST id = t) (eA : gI SA id = a) (eN : gI SN id = k) (t0 : 0 ≤ t.toInt) (t2 : t.toInt ≤ 2) (a0 : 0 ≤ a.toInt) (k0 : 0 ≤ k.toInt) (ak : a.toInt + k.toInt ≤ 32) :
    ∃ EX' AL', f_adjustCoverage ST SA SN EX AL id δ = some (EX', AL') ∧ own_cov EX AL δ t a (a + k) EX' AL' := by
  obtain ⟨⟨x, y⟩, e, h⟩ := own_adjust lT lA lN lE lL h0 h1 δ (by rw [eT]; exact t0) (by rw [eT]; exact t2) (by rw [eA]; exact a0) (by rw [eN]; exact k0) (by rw [eA, eN]; exact ak)
  rw [eT, eA, eN] at h
  exact ⟨x, y, e, h⟩
def own_F (F : List Int32) : Prop := F.length = 3 ∧ ∀ i : Int32, 0 ≤ i.toInt → i.toInt < 3 → 0 ≤ (gI F i).toInt ∧ (gI F i).toInt ≤ 24
theorem own_nfs {R AC ST AL : List Int32} (lL : AL.length = 96) (hR : R.length = 3) {id t n : Int32} (n0 : 0 ≤ n.toInt) (n1 : n.toInt < 32) (t2 : t.toInt ≤ 2) (x : Int32 → Int32) (hx : ∀ w : Int32, 0 ≤ w.toInt → w.toInt ≤ 2 → f_exclusion AC ST id w n = some (x w)) : ∀ (f : Nat) (u : Int32), 0 ≤ u.toInt → u.toInt ≤ 3 → 3 - u.toInt < f →
    (f_nightFits_3 R AC ST AL f id t n u = some 1 ∧ ∀ w : Int32, u.toInt ≤ w.toInt → w.toInt ≤ t.toInt → ¬ gI R w < gI AL (w * 32 + n) - x w + 1) ∨ (f_nightFits_3 R AC ST AL f id t n u = some 0 ∧ ∃ w : Int32, u.toInt ≤ w.toInt ∧ w.toInt ≤ t.toInt ∧ gI R w < gI AL (w * 32 + n) - x w + 1) := by
  intro f
  induction f with
  | zero => intro u h0 h1 h2; exfalso; omega
  | succ f ih =>
    intro u h0 h1 h2
    unfold f_nightFits_3
    by_cases g : t < u
    · have g' := ilt.mp g
      left
      rw [if_pos g]
      exact ⟨rfl, fun w a b => by exfalso; omega⟩
    · have g' : ¬ t.toInt < u.toInt := fun z => g (ilt.mpr z)
      have g3 : u < 3 := ilt.mpr (show u.toInt < 3 by omega)
      have eu : (u + 1).toInt = u.toInt + 1 := by clear ih hx; ((try simp only [ilt, ile, ieq, iadd_e, isub_e, imul_e, Int32.reduceToInt] at *) <;> omega)
      rw [if_neg g, if_pos g3, own_ala lL ⟨h0, by omega, n0, n1⟩, Option.bind_some, hx u h0 (by omega), Option.bind_some, rdg h0 (by omega), Option.bind_some]
      by_cases k : gI R u < gI AL (u * 32 + n) - x u + 1
      · right
        rw [if_pos k]
        exact ⟨rfl, u, by omega, by omega, k⟩
      · rw [if_neg k]
        rcases ih (u + 1) (by omega) (by omega) (by omega) with ⟨e, q⟩ | ⟨e, w, p1, p2, p3⟩
        · left
          refine ⟨e, fun w a b => ?_⟩
          by_cases ew : w = u
          · rw [ew]; exact k
          · rw [ieq] at ew
            exact q w (by omega) b
        · right
          exact ⟨e, w, by omega, p2, p3⟩
def own_fit (R AL : List Int32) (x : Int32 → Int32 → Int32) (t a e : Int32) : Prop := ∀ n w : Int32, a.toInt ≤ n.toInt → n.toInt < e.toInt → 0 ≤ w.toInt → w.toInt ≤ t.toInt → ¬ gI R w < gI AL (w * 32 + n) - x w n + 1
theorem own_fts {R AC ST AL : List Int32} (lL : AL.length = 96) (hR : R.length = 3) {id t a k : Int32} (t2 : t.toInt ≤ 2) (a0 : 0 ≤ a.toInt) (k0 : 0 ≤ k.toInt) (ak : a.toInt + k.toInt ≤ 32) (x : Int32 → Int32 → Int32) (hx : ∀ w n : Int32, 0 ≤ w.toInt → w.toInt ≤ 2 → 0 ≤ n.toInt → n.toInt < 32 → f_exclusion AC ST id w n = some (x w n)) :
    (f_fitsWith R AC ST AL id t a k = some 1 ∧ own_fit R AL x t a (a + k)) ∨ (f_fitsWith R AC ST AL id t a k = some 0 ∧ ¬ own_fit R AL x t a (a + k)) := by
  have es : (a + k).toInt = a.toInt + k.toInt := by clear hx; ((try simp only [ilt, ile, ieq, iadd_e, isub_e, imul_e, Int32.reduceToInt] at *) <;> omega)
  have e32 : (32 : Int32).toInt = 32 := rfl
  have e0 : (0 : Int32).toInt = 0 := rfl
  have key : ∀ (f : Nat) (j : Int32), a.toInt ≤ j.toInt → j.toInt ≤ 32 → 32 - j.toInt < f → (f_fitsWith_12 R AC ST AL f id t (a + k) j = some 1 ∧ own_fit R AL x t j (a + k)) ∨ (f_fitsWith_12 R AC ST AL f id t (a + k) j = some 0 ∧ ¬ own_fit R AL x t a (a + k)) := by
    intro f
    induction f with
    | zero => intro j h0 h1 h2; exfalso; omega
    | succ f ih =>
      intro j h0 h1 h2
      unfold f_fitsWith_12
      rw [if_neg (by rw [ilt]; omega)]
      by_cases g : j < a + k
      · have g' := ilt.mp g
        have ej : (j + 1).toInt = j.toInt + 1 := by clear ih hx; ((try simp only [ilt, ile, ieq, iadd_e, isub_e, imul_e, Int32.reduceToInt] at *) <;> omega)
        unfold f_nightFits
        rw [if_pos g]
        rcases own_nfs lL hR (AC := AC) (ST := ST) (id := id) (n := j) (by omega) (by omega) t2 (fun w => x w j) (fun w p q => hx w j p q (by omega) (by omega)) 100000 0 (by decide) (by decide) (by decide) with ⟨e, q⟩ | ⟨e, w, p1, p2, p3⟩
        · rw [e, Option.bind_some, if_neg (by decide)]
          rcases ih (j + 1) (by omega) (by omega) (by omega) with ⟨e', q'⟩ | ⟨e', q'⟩
          · left
            refine ⟨e', fun n w a1 a2 a3 a4 => ?_⟩
            by_cases en : n = j
            · rw [en]; exact q w (by omega) a4
            · rw [ieq] at en
              exact q' n w (by omega) a2 a3 a4
          · exact Or.inr ⟨e', q'⟩
        · right
          rw [e, Option.bind_some, if_pos rfl]
          exact ⟨rfl, fun hh => hh j w h0 (by omega) (by omega) p2 p3⟩
      · have g' : ¬ j.toInt < (a + k).toInt := fun z => g (ilt.mpr z)
        left
        rw [if_neg g]
        exact ⟨rfl, fun n w a1 a2 _ _ => by exfalso; omega⟩
  unfold f_fitsWith f_endOf
  rw [if_neg (by rw [ilt]; omega), Option.bind_some]
  exact key 100000 a (by omega) (by omega) (by omega)
theorem own_x0 {AC ST : List Int32} (w n : Int32) : f_exclusion AC ST (-1) w n = some 0 := by
  unfold f_exclusion f_isActiveStay
  rw [if_pos (by decide), Option.bind_some, if_pos rfl]
def own_cnt (p : Nat → Bool) : Nat → Nat
  | 0 => 0
  | n + 1 => own_cnt p n + (if p n then 1 else 0)
theorem own_cnt_le (p : Nat → Bool) : ∀ n, own_cnt p n ≤ n := by
  intro n
  induction n with
  | zero => exact Nat.le_refl 0
  | succ n ih => rw [own_cnt]; split <;> omega
theorem own_cnt_same {p q : Nat → Bool} : ∀ n, (∀ j, j < n → p j = q j) → own_cnt p n = own_cnt q n := by
  intro n
  induction n with
  | zero => intro _; rw [own_cnt, own_cnt]
  | succ n ih => intro h; rw [own_cnt, own_cnt, ih (fun j hj => h j (by omega)), h n (by omega)]
theorem own_cnt_upd {p q : Nat → Bool} {i : Nat} : ∀ n, i < n → (∀ j, j < n → j ≠ i → p j = q j) → own_cnt q n + (if p i then 1 else 0) = own_cnt p n + (if q i then 1 else 0) := by
  intro n
  induction n with
  | zero => intro h _; omega
  | succ n ih =>
    intro h hj
    rw [own_cnt, own_cnt]
    by_cases e : i = n
    · subst e
      have s := own_cnt_same i (fun j k => hj j (by omega) (by omega))
      omega
    · have s := ih (by omega) (fun j a b => hj j (by omega) b)
      have t := hj n (by omega) (fun z => e z.symm)
      rw [t]
      omega
def own_on (AC ST SA SN : List Int32) (w m : Int32) (i : Nat) : Bool := decide (gI AC (Int32.ofNat i) = 1 ∧ (gI ST (Int32.ofNat i)).toInt = w.toInt ∧ (gI SA (Int32.ofNat i)).toInt ≤ m.toInt ∧ m.toInt < (gI SA (Int32.ofNat i)).toInt + (gI SN (Int32.ofNat i)).toInt)
def own_ac (AC : List Int32) (i : Nat) : Bool := decide (gI AC (Int32.ofNat i) = 1)
theorem own_gj {L : List Int32} (hl : L.length = 32) {id x : Int32} (h0 : 0 ≤ id.toInt) (h1 : id.toInt < 32) {j : Nat} (hj : j < 32) (ne : j ≠ id.toInt.toNat) : gI (L.set id.toInt.toNat x) (Int32.ofNat j) = gI L (Int32.ofNat j) := by
  have e : (Int32.ofNat j).toInt = j := Int32.toInt_ofNat_of_lt (by omega)
  rw [own_gs hl h0 h1 (by omega), if_neg (by rw [ieq, e]; omega)]
theorem own_gi {L : List Int32} (hl : L.length = 32) {id x : Int32} (h0 : 0 ≤ id.toInt) (h1 : id.toInt < 32) : gI (L.set id.toInt.toNat x) (Int32.ofNat id.toInt.toNat) = x := by
  rw [own_of h0, own_gs hl h0 h1 h0, if_pos rfl]
/-- the counts agree with the slots -/
def own_C (AC ST SA SN EX AL : List Int32) (n : Int32) : Prop :=
  (∀ w m : Int32, own_wn w m → (gI EX (w * 32 + m)).toInt = own_cnt (own_on AC ST SA SN w m) 32) ∧
  (∀ m : Int32, 0 ≤ m.toInt → m.toInt < 32 → (gI AL (0 * 32 + m)).toInt = (gI EX (0 * 32 + m)).toInt + ((gI EX (1 * 32 + m)).toInt + (gI EX (2 * 32 + m)).toInt) ∧ (gI AL (1 * 32 + m)).toInt = (gI EX (1 * 32 + m)).toInt + (gI EX (2 * 32 + m)).toInt ∧ (gI AL (2 * 32 + m)).toInt = (gI EX (2 * 32 + m)).toInt) ∧
  n.toInt = own_cnt (own_ac AC) 32
theorem own_addif {x d : Int32} {c : Prop} [Decidable c] (hx0 : -100 ≤ x.toInt) (hx1 : x.toInt ≤ 1000) (hd0 : -1 ≤ d.toInt) (hd1 : d.toInt ≤ 1) : (x + (if c then d else 0)).toInt = x.toInt + (if c then d.toInt else 0) := by
  split
  · exact iadd_i (by omega) (by omega)
  · rw [Int32.add_zero, Int.add_zero]
/-- sums stay sums -/
theorem own_sums {EX AL EX' AL' : List Int32} {d ty a e : Int32} (hd0 : -1 ≤ d.toInt) (hd1 : d.toInt ≤ 1) (t0 : 0 ≤ ty.toInt) (t2 : ty.toInt ≤ 2) (hc : own_cov EX AL d ty a e EX' AL') {m : Int32} (m0 : 0 ≤ m.toInt) (m1 : m.toInt < 32)
    (hb : ∀ w : Int32, 0 ≤ w.toInt → w.toInt ≤ 2 → -10 ≤ (gI EX (w * 32 + m)).toInt ∧ (gI EX (w * 32 + m)).toInt ≤ 100)
    (h : (gI AL (0 * 32 + m)).toInt = (gI EX (0 * 32 + m)).toInt + ((gI EX (1 * 32 + m)).toInt + (gI EX (2 * 32 + m)).toInt) ∧ (gI AL (1 * 32 + m)).toInt = (gI EX (1 * 32 + m)).toInt + (gI EX (2 * 32 + m)).toInt ∧ (gI AL (2 * 32 + m)).toInt = (gI EX (2 * 32 + m)).toInt) :
    (gI AL' (0 * 32 + m)).toInt = (gI EX' (0 * 32 + m)).toInt + ((gI EX' (1 * 32 + m)).toInt + (gI EX' (2 * 32 + m)).toInt) ∧ (gI AL' (1 * 32 + m)).toInt = (gI EX' (1 * 32 + m)).toInt + (gI EX' (2 * 32 + m)).toInt ∧ (gI AL' (2 * 32 + m)).toInt = (gI EX' (2 * 32 + m)).toInt := by
  have e0 : (0 : Int32).toInt = 0 := rfl
  have e1 : (1 : Int32).toInt = 1 := rfl
  have e2 : (2 : Int32).toInt = 2 := rfl
  have b0 := hb 0 (by decide) (by decide)
  have b1 := hb 1 (by decide) (by decide)
  have b2 := hb 2 (by decide) (by decide)
  have c0 := hc.2.2 0 m ⟨by decide, by decide, m0, m1⟩
  have c1 := hc.2.2 1 m ⟨by decide, by decide, m0, m1⟩
  have c2 := hc.2.2 2 m ⟨by decide, by decide, m0, m1⟩
  rw [c0.1, c0.2, c1.1, c1.2, c2.1, c2.2, own_addif (by omega) (by omega) hd0 hd1, own_addif (by omega) (by omega) hd0 hd1, own_addif (by omega) (by omega) hd0 hd1, own_addif (by omega) (by omega) hd0 hd1, own_addif (by omega) (by omega) hd0 hd1, own_addif (by omega) (by omega) hd0 hd1, e0, e1, e2]
  clear c0 c1 c2 hc hb
  generalize (gI EX (0 * 32 + m)).toInt = x0 at *
  generalize (gI EX (1 * 32 + m)).toInt = x1 at *
  generalize (gI EX (2 * 32 + m)).toInt = x2 at *
  generalize (gI AL (0 * 32 + m)).toInt = y0 at *
  generalize (gI AL (1 * 32 + m)).toInt = y1 at *
  generalize (gI AL (2 * 32 + m)).toInt = y2 at *
  by_cases g : a.toInt ≤ m.toInt ∧ m.toInt < e.toInt
  · obtain ⟨g1, g2⟩ := g
    have hty : ty.toInt = 0 ∨ ty.toInt = 1 ∨ ty.toInt = 2 := by omega
    rcases hty with q | q | q <;> simp only [q, g1, g2, and_true] <;> simp <;> omega
  · have n1 : ∀ p : Prop, ¬ (p ∧ a.toInt ≤ m.toInt ∧ m.toInt < e.toInt) := fun p z => g z.2
    rw [if_neg (n1 _), if_neg (n1 _), if_neg (n1 _), if_neg (n1 _), if_neg (n1 _), if_neg (n1 _)]
    omega
/-- a slot changes: how the counts of stays change -/
theorem own_on_upd {AC ST SA SN : List Int32} (lC : AC.length = 32) (lT : ST.length = 32) (lA : SA.length = 32) (lN : SN.length = 32) {id c t a k : Int32} (h0 : 0 ≤ id.toInt) (h1 : id.toInt < 32) (w m : Int32) :
    own_cnt (own_on (AC.set id.toInt.toNat c) (ST.set id.toInt.toNat t) (SA.set id.toInt.toNat a) (SN.set id.toInt.toNat k) w m) 32 + (if gI AC id = 1 ∧ (gI ST id).toInt = w.toInt ∧ (gI SA id).toInt ≤ m.toInt ∧ m.toInt < (gI SA id).toInt + (gI SN id).toInt then 1 else 0) = own_cnt (own_on AC ST SA SN w m) 32 + (if c = 1 ∧ t.toInt = w.toInt ∧ a.toInt ≤ m.toInt ∧ m.toInt < a.toInt + k.toInt then 1 else 0) := by
  have u := own_cnt_upd (p := own_on AC ST SA SN w m) (q := own_on (AC.set id.toInt.toNat c) (ST.set id.toInt.toNat t) (SA.set id.toInt.toNat a) (SN.set id.toInt.toNat k) w m) (i := id.toInt.toNat) 32 (by omega) (fun j hj ne => by
    unfold own_on
    rw [own_gj lC h0 h1 hj ne, own_gj lT h0 h1 hj ne, own_gj lA h0 h1 hj ne, own_gj lN h0 h1 hj ne])
  have q : own_on (AC.set id.toInt.toNat c) (ST.set id.toInt.toNat t) (SA.set id.toInt.toNat a) (SN.set id.toInt.toNat k) w m id.toInt.toNat = decide (c = 1 ∧ t.toInt = w.toInt ∧ a.toInt ≤ m.toInt ∧ m.toInt < a.toInt + k.toInt) := by
    unfold own_on
    rw [own_gi lC h0 h1, own_gi lT h0 h1, own_gi lA h0 h1, own_gi lN h0 h1]
  have p : own_on AC ST SA SN w m id.toInt.toNat = decide (gI AC id = 1 ∧ (gI ST id).toInt = w.toInt ∧ (gI SA id).toInt ≤ m.toInt ∧ m.toInt < (gI SA id).toInt + (gI SN id).toInt) := by
    unfold own_on
    rw [own_of h0]
  rw [q, p] at u
  simpa only [decide_eq_true_eq] using u
theorem own_ac_upd {AC : List Int32} (lC : AC.length = 32) {id c : Int32} (h0 : 0 ≤ id.toInt) (h1 : id.toInt < 32) :
    own_cnt (own_ac (AC.set id.toInt.toNat c)) 32 + (if gI AC id = 1 then 1 else 0) = own_cnt (own_ac AC) 32 + (if c = 1 then 1 else 0) := by
  have u := own_cnt_upd (p := own_ac AC) (q := own_ac (AC.set id.toInt.toNat c)) (i := id.toInt.toNat) 32 (by omega) (fun j hj ne => by
    unfold own_ac
    rw [own_gj lC h0 h1 hj ne])
  have q : own_ac (AC.set id.toInt.toNat c) id.toInt.toNat = decide (c = 1) := by
    unfold own_ac
    rw [own_gi lC h0 h1]
  have p : own_ac AC id.toInt.toNat = decide (gI AC id = 1) := by
    unfold own_ac
    rw [own_of h0]
  rw [q, p] at u
  simpa only [decide_eq_true_eq] using u
theorem own_C_rng {AC ST SA SN EX AL : List Int32} {n : Int32} (h : own_C AC ST SA SN EX AL n) {m : Int32} (m0 : 0 ≤ m.toInt) (m1 : m.toInt < 32) (w : Int32) (w0 : 0 ≤ w.toInt) (w2 : w.toInt ≤ 2) : 0 ≤ (gI EX (w * 32 + m)).toInt ∧ (gI EX (w * 32 + m)).toInt ≤ 32 := by
  have e := h.1 w m ⟨w0, by omega, m0, m1⟩
  have l := own_cnt_le (own_on AC ST SA SN w m) 32
  omega
theorem own_C_book {AC ST SA SN EX AL EX' AL' : List Int32} {n id t a k : Int32} (hP : own_PS AC ST SA SN EX AL) (h : own_C AC ST SA SN EX AL n) (i0 : 0 ≤ id.toInt) (i1 : id.toInt < 32) (iz : gI AC id = 0) (t0 : 0 ≤ t.toInt) (t2 : t.toInt ≤ 2) (a0 : 0 ≤ a.toInt) (k1 : 1 ≤ k.toInt) (ak : a.toInt + k.toInt ≤ 32) (hc : own_cov EX AL 1 t a (a + k) EX' AL') :
    own_C (AC.set id.toInt.toNat 1) (ST.set id.toInt.toNat t) (SA.set id.toInt.toNat a) (SN.set id.toInt.toNat k) EX' AL' (n + 1) := by
  have es : (a + k).toInt = a.toInt + k.toInt := by clear hP h hc; ((try simp only [ilt, ile, ieq, iadd_e, isub_e, imul_e, Int32.reduceToInt] at *) <;> omega)
  have e1 : (1 : Int32).toInt = 1 := rfl
  refine ⟨fun w m hw => ?_, fun m m0 m1 => ?_, ?_⟩
  · have r := own_C_rng h hw.2.2.1 hw.2.2.2 w hw.1 (by have := hw.2.1; omega)
    have u := own_on_upd hP.lC hP.lT hP.lA hP.lN (c := 1) (t := t) (a := a) (k := k) i0 i1 w m
    have c := (hc.2.2 w m hw).1
    have o := h.1 w m hw
    rw [if_neg (fun z => by rw [iz] at z; exact absurd z.1 (by decide))] at u
    rw [c, own_addif (by omega) (by omega) (by decide) (by decide), es, e1]
    by_cases g : w.toInt = t.toInt ∧ a.toInt ≤ m.toInt ∧ m.toInt < a.toInt + k.toInt
    · rw [if_pos g]
      rw [if_pos ⟨rfl, g.1.symm, g.2.1, g.2.2⟩] at u
      omega
    · rw [if_neg g]
      rw [if_neg (fun z => g ⟨z.2.1.symm, z.2.2.1, z.2.2.2⟩)] at u
      omega
  · exact own_sums (by decide) (by decide) t0 t2 hc m0 m1 (fun w w0 w2 => by have := own_C_rng h m0 m1 w w0 w2; omega) (h.2.1 m m0 m1)
  · have u := own_ac_upd hP.lC (c := 1) i0 i1
    have l := own_cnt_le (own_ac AC) 32
    have o := h.2.2
    rw [if_neg (by rw [iz]; decide), if_pos rfl] at u
    rw [iadd_i (by omega) (by omega), e1]
    omega
theorem own_C_cancel {AC ST SA SN EX AL EX' AL' : List Int32} {n id : Int32} (hP : own_PS AC ST SA SN EX AL) (h : own_C AC ST SA SN EX AL n) (i0 : 0 ≤ id.toInt) (i1 : id.toInt < 32) (ia : gI AC id = 1) (hc : own_cov EX AL (-1) (gI ST id) (gI SA id) (gI SA id + gI SN id) EX' AL') :
    own_C (AC.set id.toInt.toNat 0) (ST.set id.toInt.toNat 0) (SA.set id.toInt.toNat 0) (SN.set id.toInt.toNat 0) EX' AL' (n - 1) := by
  rcases hP.ok id i0 i1 with ⟨z, -⟩ | ⟨-, t0, t2, a0, k1, ak⟩
  · rw [ia] at z; exact absurd z (by decide)
  have es : (gI SA id + gI SN id).toInt = (gI SA id).toInt + (gI SN id).toInt := iadd_i (by omega) (by omega)
  have e1 : (-1 : Int32).toInt = -1 := rfl
  have e1' : (1 : Int32).toInt = 1 := rfl
  refine ⟨fun w m hw => ?_, fun m m0 m1 => ?_, ?_⟩
  · have r := own_C_rng h hw.2.2.1 hw.2.2.2 w hw.1 (by have := hw.2.1; omega)
    have u := own_on_upd hP.lC hP.lT hP.lA hP.lN (c := 0) (t := 0) (a := 0) (k := 0) i0 i1 w m
    have c := (hc.2.2 w m hw).1
    have o := h.1 w m hw
    rw [if_neg (show ¬ ((0 : Int32) = 1 ∧ _) from fun z => absurd z.1 (by decide))] at u
    rw [c, own_addif (by omega) (by omega) (by decide) (by decide), es, e1]
    by_cases g : w.toInt = (gI ST id).toInt ∧ (gI SA id).toInt ≤ m.toInt ∧ m.toInt < (gI SA id).toInt + (gI SN id).toInt
    · rw [if_pos g]
      rw [if_pos ⟨ia, g.1.symm, g.2.1, g.2.2⟩] at u
      omega
    · rw [if_neg g]
      rw [if_neg (fun z => g ⟨z.2.1.symm, z.2.2.1, z.2.2.2⟩)] at u
      omega
  · exact own_sums (by decide) (by decide) t0 t2 hc m0 m1 (fun w w0 w2 => by have := own_C_rng h m0 m1 w w0 w2; omega) (h.2.1 m m0 m1)
  · have u := own_ac_upd hP.lC (c := 0) i0 i1
    have l := own_cnt_le (own_ac AC) 32
    have o := h.2.2
    rw [if_pos ia, if_neg (by decide)] at u
    rw [isub_i (by omega) (by omega), e1']
    omega
theorem own_C_amend {AC ST SA SN EX AL EX1 AL1 EX2 AL2 : List Int32} {n id t a k : Int32} (hP : own_PS AC ST SA SN EX AL) (h : own_C AC ST SA SN EX AL n) (i0 : 0 ≤ id.toInt) (i1 : id.toInt < 32) (ia : gI AC id = 1) (t0 : 0 ≤ t.toInt) (t2 : t.toInt ≤ 2) (a0 : 0 ≤ a.toInt) (k1 : 1 ≤ k.toInt) (ak : a.toInt + k.toInt ≤ 32) (c1 : own_cov EX AL (-1) (gI ST id) (gI SA id) (gI SA id + gI SN id) EX1 AL1) (c2 : own_cov EX1 AL1 1 t a (a + k) EX2 AL2) :
    own_C (AC.set id.toInt.toNat 1) (ST.set id.toInt.toNat t) (SA.set id.toInt.toNat a) (SN.set id.toInt.toNat k) EX2 AL2 n := by
  rcases hP.ok id i0 i1 with ⟨z, -⟩ | ⟨-, t0', t2', a0', k1', ak'⟩
  · rw [ia] at z; exact absurd z (by decide)
  have es' : (gI SA id + gI SN id).toInt = (gI SA id).toInt + (gI SN id).toInt := iadd_i (by omega) (by omega)
  have es : (a + k).toInt = a.toInt + k.toInt := by clear hP h c1 c2 es'; ((try simp only [ilt, ile, ieq, iadd_e, isub_e, imul_e, Int32.reduceToInt] at *) <;> omega)
  have em : (-1 : Int32).toInt = -1 := rfl
  have e1 : (1 : Int32).toInt = 1 := rfl
  have first : ∀ w m : Int32, own_wn w m → (gI EX1 (w * 32 + m)).toInt = (gI EX (w * 32 + m)).toInt + (if w.toInt = (gI ST id).toInt ∧ (gI SA id).toInt ≤ m.toInt ∧ m.toInt < (gI SA id).toInt + (gI SN id).toInt then -1 else 0) := by
    intro w m hw
    have r := own_C_rng h hw.2.2.1 hw.2.2.2 w hw.1 (by have := hw.2.1; omega)
    rw [(c1.2.2 w m hw).1, own_addif (by omega) (by omega) (by decide) (by decide), es', em]
  have bd : ∀ w m : Int32, own_wn w m → -1 ≤ (gI EX1 (w * 32 + m)).toInt ∧ (gI EX1 (w * 32 + m)).toInt ≤ 32 := by
    intro w m hw
    have r := own_C_rng h hw.2.2.1 hw.2.2.2 w hw.1 (by have := hw.2.1; omega)
    rw [first w m hw]
    split <;> omega
  refine ⟨fun w m hw => ?_, fun m m0 m1 => ?_, ?_⟩
  · have b := bd w m hw
    have u := own_on_upd hP.lC hP.lT hP.lA hP.lN (c := 1) (t := t) (a := a) (k := k) i0 i1 w m
    have o := h.1 w m hw
    rw [(c2.2.2 w m hw).1, own_addif (by omega) (by omega) (by decide) (by decide), es, e1, first w m hw]
    by_cases g : w.toInt = (gI ST id).toInt ∧ (gI SA id).toInt ≤ m.toInt ∧ m.toInt < (gI SA id).toInt + (gI SN id).toInt
    · rw [if_pos g]
      rw [if_pos (show gI AC id = 1 ∧ (gI ST id).toInt = w.toInt ∧ (gI SA id).toInt ≤ m.toInt ∧ m.toInt < (gI SA id).toInt + (gI SN id).toInt from ⟨ia, g.1.symm, g.2.1, g.2.2⟩)] at u
      by_cases g2 : w.toInt = t.toInt ∧ a.toInt ≤ m.toInt ∧ m.toInt < a.toInt + k.toInt
      · rw [if_pos g2]
        rw [if_pos (show (1 : Int32) = 1 ∧ t.toInt = w.toInt ∧ a.toInt ≤ m.toInt ∧ m.toInt < a.toInt + k.toInt from ⟨rfl, g2.1.symm, g2.2.1, g2.2.2⟩)] at u
        omega
      · rw [if_neg g2]
        rw [if_neg (show ¬ ((1 : Int32) = 1 ∧ t.toInt = w.toInt ∧ a.toInt ≤ m.toInt ∧ m.toInt < a.toInt + k.toInt) from fun z => g2 ⟨z.2.1.symm, z.2.2.1, z.2.2.2⟩)] at u
        omega
    · rw [if_neg g]
      rw [if_neg (show ¬ (gI AC id = 1 ∧ (gI ST id).toInt = w.toInt ∧ (gI SA id).toInt ≤ m.toInt ∧ m.toInt < (gI SA id).toInt + (gI SN id).toInt) from fun z => g ⟨z.2.1.symm, z.2.2.1, z.2.2.2⟩)] at u
      by_cases g2 : w.toInt = t.toInt ∧ a.toInt ≤ m.toInt ∧ m.toInt < a.toInt + k.toInt
      · rw [if_pos g2]
        rw [if_pos (show (1 : Int32) = 1 ∧ t.toInt = w.toInt ∧ a.toInt ≤ m.toInt ∧ m.toInt < a.toInt + k.toInt from ⟨rfl, g2.1.symm, g2.2.1, g2.2.2⟩)] at u
        omega
      · rw [if_neg g2]
        rw [if_neg (show ¬ ((1 : Int32) = 1 ∧ t.toInt = w.toInt ∧ a.toInt ≤ m.toInt ∧ m.toInt < a.toInt + k.toInt) from fun z => g2 ⟨z.2.1.symm, z.2.2.1, z.2.2.2⟩)] at u
        omega
  · have s1 := own_sums (by decide) (by decide) t0' t2' c1 m0 m1 (fun w w0 w2 => by have := own_C_rng h m0 m1 w w0 w2; omega) (h.2.1 m m0 m1)
    exact own_sums (by decide) (by decide) t0 t2 c2 m0 m1 (fun w w0 w2 => by have := bd w m ⟨w0, by omega, m0, m1⟩; omega) s1
  · have u := own_ac_upd hP.lC (c := 1) i0 i1
    have o := h.2.2
    rw [if_pos ia, if_pos rfl] at u
    omega
theorem own_rq0 {t a k : Int32} (t0 : 0 ≤ t.toInt) (t2 : t.toInt ≤ 2) (a0 : 0 ≤ a.toInt) (k1 : 1 ≤ k.toInt) (ak : a.toInt + k.toInt ≤ 32) : f_requestError t a k = some 0 := by
  have e0 : (0 : Int32).toInt = 0 := rfl
  have e1 : (1 : Int32).toInt = 1 := rfl
  have e3 : (3 : Int32).toInt = 3 := rfl
  have e32 : (32 : Int32).toInt = 32 := rfl
  have es : (32 - a).toInt = 32 - a.toInt := by rw [isub_i (by omega) (by omega), e32]
  unfold f_requestError f_isValidType f_isValidNight f_isValidLength
  rw [if_neg (by rw [ilt]; omega), if_pos (by rw [ilt]; omega), Option.bind_some, if_neg (by decide), if_neg (by rw [ilt]; omega), if_pos (by rw [ilt]; omega), Option.bind_some, if_neg (by decide), if_neg (by rw [ilt]; omega), if_neg (by rw [ilt]; omega), Option.bind_some, if_neg (by decide)]
def own_rn (r n : Int32) : Prop := 0 ≤ r.toInt ∧ r.toInt < 24 ∧ 0 ≤ n.toInt ∧ n.toInt < 32
theorem own_rni {r n : Int32} (h : own_rn r n) : (r * 32 + n).toInt = r.toInt * 32 + n.toInt := by
  obtain ⟨a, b, c, d⟩ := h
  have e32 : (32 : Int32).toInt = 32 := rfl
  have em : (r * 32).toInt = r.toInt * 32 := by rw [imul_i (by rw [e32]; omega) (by rw [e32]; omega), e32]
  rw [iadd_i (by omega) (by omega), em]
theorem own_rnset {A : List Int32} (hA : A.length = 768) {r n r' n' x : Int32} (h : own_rn r n) (g : own_rn r' n') : gI (A.set (r * 32 + n).toInt.toNat x) (r' * 32 + n') = if r' = r ∧ n' = n then x else gI A (r' * 32 + n') := by
  have e1 := own_rni h
  have e2 := own_rni g
  obtain ⟨a, b, c, d⟩ := h
  obtain ⟨a', b', c', d'⟩ := g
  rw [gset (by omega) (by omega) (by omega)]
  by_cases q : r' = r ∧ n' = n
  · rw [if_pos q, if_pos (by rw [q.1, q.2])]
  · rw [if_neg q, if_neg]
    intro e
    apply q
    rw [ieq, e1, e2] at e
    rw [ieq, ieq]
    omega
theorem own_c30X (PR PO : List Int32) (l : Int32) : ∀ (n : Nat) (PG : List Int32) (j : Int32), PG.length = 768 → 0 ≤ j.toInt → j.toInt ≤ 768 → 768 - j.toInt < n → (∀ i : Int32, 0 ≤ i.toInt → i.toInt < j.toInt → gI PG i = -1) → Tot (f_clearPlan_30 n PR PG PO l j) (fun r => r.1 = PR ∧ r.2.1.length = 768 ∧ r.2.2.1 = PO ∧ r.2.2.2 = 0 ∧ ∀ i : Int32, 0 ≤ i.toInt → i.toInt < 768 → gI r.2.1 i = -1) := by
  intro n
  induction n with
  | zero => intro PG j h0 h1 h2 h3; exfalso; omega
  | succ n ih =>
    intro PG j h0 h1 h2 h3 h4
    unfold f_clearPlan_30
    refine Tot.ite (fun g => ?_) (fun g => Tot.mk ⟨rfl, h0, rfl, rfl, fun i i0 i1 => h4 i i0 (by rw [ilt] at g; have e : (768 : Int32).toInt = 768 := rfl; omega)⟩)
    have g' : j.toInt < 768 := ilt.mp g
    have ej : (j + 1).toInt = j.toInt + 1 := by
      have o : (1 : Int32).toInt = 1 := rfl
      rw [iadd_i (by omega) (by omega), o]
    refine Tot.wr h1 (by omega) (fun A q1 q2 => ih A (j + 1) (by omega) (by omega) (by omega) (by omega) (fun i i0 i1 => ?_))
    rw [q1, gset h1 (by omega) i0]
    by_cases e : j = i
    · rw [if_pos e]
    · rw [if_neg e]
      exact h4 i i0 (by rw [ieq] at e; omega)
theorem own_c2X (PG : List Int32) (hG : PG.length = 768) (l : Int32) : ∀ (n : Nat) (PR PO : List Int32) (j : Int32), PR.length = 32 → PO.length = 32 → 0 ≤ j.toInt → j.toInt ≤ 32 → 32 - j.toInt < n → (∀ i : Int32, 0 ≤ i.toInt → i.toInt < j.toInt → gI PR i = -1) → Tot (f_clearPlan_2 (f_clearPlan_30 100000) n PR PG PO l j) (fun r => r.1.length = 32 ∧ r.2.1.length = 768 ∧ r.2.2.1.length = 32 ∧ r.2.2.2 = 0 ∧ (∀ i : Int32, 0 ≤ i.toInt → i.toInt < 32 → gI r.1 i = -1) ∧ ∀ i : Int32, 0 ≤ i.toInt → i.toInt < 768 → gI r.2.1 i = -1) := by
  have z : (0 : Int32).toInt = 0 := rfl
  intro n
  induction n with
  | zero => intro PR PO j h0 h0' h1 h2 h3; exfalso; omega
  | succ n ih =>
    intro PR PO j h0 h0' h1 h2 h3 h4
    unfold f_clearPlan_2
    refine Tot.ite (fun g => ?_) (fun g => ?_)
    · have g' : j.toInt < 32 := ilt.mp g
      have ej : (j + 1).toInt = j.toInt + 1 := by
        have o : (1 : Int32).toInt = 1 := rfl
        rw [iadd_i (by omega) (by omega), o]
      refine Tot.wr h1 (by omega) (fun A q1 q2 => Tot.wr h1 (by omega) (fun B q3 q4 => ih A B (j + 1) (by omega) (by omega) (by omega) (by omega) (by omega) (fun i i0 i1 => ?_)))
      rw [q1, gset h1 (by omega) i0]
      by_cases e : j = i
      · rw [if_pos e]
      · rw [if_neg e]
        exact h4 i i0 (by rw [ieq] at e; omega)
    · refine (own_c30X PR PO l 100000 PG 0 hG (by decide) (by decide) (by decide) (fun i i0 i1 => by omega)).mono ?_
      rintro r ⟨a, b, c, d, e⟩
      have e32 : (32 : Int32).toInt = 32 := rfl
      rw [ilt] at g
      exact ⟨by rw [a]; exact h0, b, by rw [c]; exact h0', d, fun i i0 i1 => by rw [a]; exact h4 i i0 (by omega), e⟩
theorem own_gaX {PG : List Int32} (hG : PG.length = 768) {r n : Int32} (h : own_rn r n) : f_gridAt PG r n = some (gI PG (r * 32 + n)) := by
  have ei := own_rni h
  obtain ⟨a, b, c, d⟩ := h
  have e0 : (0 : Int32).toInt = 0 := rfl
  have e24 : (24 : Int32).toInt = 24 := rfl
  have e32 : (32 : Int32).toInt = 32 := rfl
  unfold f_gridAt f_isValidNight f_gridIndex
  rw [if_neg (by rw [ilt]; omega), if_pos (by rw [ilt]; omega), if_neg (by rw [ilt]; omega), if_pos (by rw [ilt]; omega), Option.bind_some, if_neg (by decide), Option.bind_some, rdg (by omega) (by omega), Option.bind_some]
def own_busy (PG : List Int32) (r a k : Int32) : Prop := ∃ n : Int32, a.toInt ≤ n.toInt ∧ n.toInt < a.toInt + k.toInt ∧ ¬ gI PG (r * 32 + n) = -1
def own_free (PG : List Int32) (r a k : Int32) : Prop := ∀ n : Int32, a.toInt ≤ n.toInt → n.toInt < a.toInt + k.toInt → gI PG (r * 32 + n) = -1
theorem own_rfX {PG : List Int32} (hG : PG.length = 768) {r a k : Int32} (r0 : 0 ≤ r.toInt) (r1 : r.toInt < 24) (a0 : 0 ≤ a.toInt) (k0 : 0 ≤ k.toInt) (ak : a.toInt + k.toInt ≤ 32) : (f_roomIsFree PG r a k = some 1 ∧ own_free PG r a k) ∨ (f_roomIsFree PG r a k = some 0 ∧ own_busy PG r a k) := by
  have e32 : (32 : Int32).toInt = 32 := rfl
  have e0 : (0 : Int32).toInt = 0 := rfl
  have es : (a + k).toInt = a.toInt + k.toInt := iadd_i (by omega) (by omega)
  have key : ∀ (f : Nat) (j : Int32), a.toInt ≤ j.toInt → j.toInt ≤ a.toInt + k.toInt → 32 - j.toInt < f → (∀ n : Int32, a.toInt ≤ n.toInt → n.toInt < j.toInt → gI PG (r * 32 + n) = -1) → (f_roomIsFree_11 PG f r (a + k) j = some 1 ∧ own_free PG r a k) ∨ (f_roomIsFree_11 PG f r (a + k) j = some 0 ∧ own_busy PG r a k) := by
    intro f
    induction f with
    | zero => intro j h0 h1 h2; exfalso; omega
    | succ f ih =>
      intro j h0 h1 h2 h3
      unfold f_roomIsFree_11
      rw [if_neg (by rw [ilt]; omega)]
      by_cases g : j < a + k
      · have g' := ilt.mp g
        rw [es] at g'
        have ej : (j + 1).toInt = j.toInt + 1 := by
          have o : (1 : Int32).toInt = 1 := rfl
          rw [iadd_i (by omega) (by omega), o]
        rw [if_pos g, own_gaX hG ⟨r0, r1, by omega, by omega⟩, Option.bind_some]
        by_cases q : gI PG (r * 32 + j) = -1
        · rw [if_pos q]
          refine ih (j + 1) (by omega) (by omega) (by omega) (fun n n0 n1 => ?_)
          by_cases e : n = j
          · rw [e]; exact q
          · exact h3 n n0 (by rw [ieq] at e; omega)
        · rw [if_neg q]
          exact Or.inr ⟨rfl, j, h0, g', q⟩
      · rw [if_neg g]
        rw [ilt, es] at g
        exact Or.inl ⟨rfl, fun n n0 n1 => h3 n n0 (by omega)⟩
  unfold f_roomIsFree f_endOf
  rw [if_neg (by rw [ilt]; omega), Option.bind_some]
  exact key 100000 a (by omega) (by omega) (by omega) (fun n n0 n1 => by omega)
theorem own_mrX {PG : List Int32} (hG : PG.length = 768) {r id a k : Int32} (r0 : 0 ≤ r.toInt) (r1 : r.toInt < 24) (a0 : 0 ≤ a.toInt) (k0 : 0 ≤ k.toInt) (ak : a.toInt + k.toInt ≤ 32) : Tot (f_markRoom PG r id a k) (fun G => G.length = 768 ∧ ∀ r' n' : Int32, own_rn r' n' → gI G (r' * 32 + n') = if r' = r ∧ a.toInt ≤ n'.toInt ∧ n'.toInt < a.toInt + k.toInt then id else gI PG (r' * 32 + n')) := by
  have e32 : (32 : Int32).toInt = 32 := rfl
  have e24 : (24 : Int32).toInt = 24 := rfl
  have e0 : (0 : Int32).toInt = 0 := rfl
  have es : (a + k).toInt = a.toInt + k.toInt := iadd_i (by omega) (by omega)
  unfold f_markRoom
  rw [if_neg (by rw [ilt]; omega), if_pos (by rw [ilt]; omega)]
  have key : ∀ (f : Nat) (G : List Int32) (j : Int32), G.length = 768 → a.toInt ≤ j.toInt → j.toInt ≤ a.toInt + k.toInt → 32 - j.toInt < f → (∀ r' n' : Int32, own_rn r' n' → gI G (r' * 32 + n') = if r' = r ∧ a.toInt ≤ n'.toInt ∧ n'.toInt < j.toInt then id else gI PG (r' * 32 + n')) → Tot (f_markRoom_23 f G r id (a + k) j) (fun G => G.length = 768 ∧ ∀ r' n' : Int32, own_rn r' n' → gI G (r' * 32 + n') = if r' = r ∧ a.toInt ≤ n'.toInt ∧ n'.toInt < a.toInt + k.toInt then id else gI PG (r' * 32 + n')) := by
    intro f
    induction f with
    | zero => intro G j h h0 h1 h2; exfalso; omega
    | succ f ih =>
      intro G j h h0 h1 h2 h3
      unfold f_markRoom_23
      rw [if_neg (by rw [ilt]; omega)]
      refine Tot.ite (fun g => ?_) (fun g => ?_)
      · have g' := ilt.mp g
        rw [es] at g'
        have ej : (j + 1).toInt = j.toInt + 1 := by
          have o : (1 : Int32).toInt = 1 := rfl
          rw [iadd_i (by omega) (by omega), o]
        have rn : own_rn r j := ⟨r0, r1, by omega, by omega⟩
        have ei := own_rni rn
        unfold f_gridIndex
        rw [Option.bind_some]
        refine Tot.wr (by omega) (by omega) (fun A q1 q2 => ih A (j + 1) (by omega) (by omega) (by omega) (by omega) (fun r' n' hn => ?_))
        rw [q1, own_rnset h rn hn, h3 r' n' hn]
        by_cases c : r' = r ∧ n' = j
        · rw [if_pos c, if_pos ⟨c.1, by rw [c.2]; omega, by rw [c.2]; omega⟩]
        · rw [if_neg c]
          by_cases d : r' = r ∧ a.toInt ≤ n'.toInt ∧ n'.toInt < j.toInt
          · rw [if_pos d, if_pos ⟨d.1, d.2.1, by omega⟩]
          · rw [if_neg d, if_neg]
            rintro ⟨x1, x2, x3⟩
            apply d
            refine ⟨x1, x2, ?_⟩
            have : ¬ n' = j := fun e => c ⟨x1, e⟩
            rw [ieq] at this
            omega
      · rw [ilt, es] at g
        refine Tot.mk ⟨h, fun r' n' hn => ?_⟩
        rw [h3 r' n' hn, show j.toInt = a.toInt + k.toInt by omega]
  unfold f_endOf
  rw [if_neg (by rw [ilt]; omega), Option.bind_some]
  exact key 100000 PG a hG (by omega) (by omega) (by omega) (fun r' n' hn => by rw [if_neg (by omega)])
theorem own_psX {F AC ST SA SN : List Int32} {tot id a k : Int32} (ht : tot.toInt ≤ 24) (i0 : 0 ≤ id.toInt) (i1 : id.toInt < 32) (a0 : 0 ≤ a.toInt) (k0 : 0 ≤ k.toInt) (ak : a.toInt + k.toInt ≤ 32) (PR PG : List Int32) (hR : PR.length = 32) (hG : PG.length = 768) (v0 : Int32) : ∀ (f : Nat) (v : Int32), 0 ≤ v.toInt → v.toInt ≤ 24 → 24 - v.toInt < f → v0.toInt ≤ v.toInt → (∀ r : Int32, v0.toInt ≤ r.toInt → r.toInt < v.toInt → own_busy PG r a k) →
    Tot (f_placeStay_50 (f_placeStay_78 F AC ST SA SN tot) F AC ST SA SN tot f PR PG id a k v) (fun t => (t.1 = 0 ∧ t.2.1 = PR ∧ t.2.2 = PG ∧ ∀ r : Int32, v0.toInt ≤ r.toInt → r.toInt < tot.toInt → own_busy PG r a k) ∨ (∃ r : Int32, v0.toInt ≤ r.toInt ∧ 0 ≤ r.toInt ∧ r.toInt < tot.toInt ∧ t.1 = 1 ∧ t.2.1 = PR.set id.toInt.toNat r ∧ t.2.2.length = 768 ∧ (∀ r' n' : Int32, own_rn r' n' → gI t.2.2 (r' * 32 + n') = if r' = r ∧ a.toInt ≤ n'.toInt ∧ n'.toInt < a.toInt + k.toInt then id else gI PG (r' * 32 + n')) ∧ own_free PG r a k ∧ ∀ r' : Int32, v0.toInt ≤ r'.toInt → r'.toInt < r.toInt → own_busy PG r' a k)) := by
  have e24 : (24 : Int32).toInt = 24 := rfl
  intro f
  induction f with
  | zero => intro v h0 h1 h2; exfalso; omega
  | succ f ih =>
    intro v h0 h1 h2 hv h3
    unfold f_placeStay_50
    refine Tot.ite (fun g => ?_) (fun g => Tot.mk (Or.inl ⟨rfl, rfl, rfl, fun r q1 q2 => h3 r q1 (by rw [ilt] at g; omega)⟩))
    have g' := ilt.mp g
    rw [if_pos (by rw [ilt]; omega)]
    have ev : (v + 1).toInt = v.toInt + 1 := by
      have o : (1 : Int32).toInt = 1 := rfl
      rw [iadd_i (by omega) (by omega), o]
    rcases own_rfX hG (r := v) h0 (by omega) a0 k0 ak with ⟨e, fr⟩ | ⟨e, bs⟩
    · rw [e, Option.bind_some, if_neg (by decide)]
      unfold f_placeStay_78
      refine Tot.bind (own_mrX hG h0 (by omega) a0 k0 ak) ?_
      rintro G ⟨g1, g2⟩
      exact Tot.wr i0 (by omega) (fun A q1 q2 => Tot.mk (Or.inr ⟨v, hv, h0, g', rfl, q1, g1, g2, fr, h3⟩))
    · rw [e, Option.bind_some, if_pos rfl]
      refine ih (v + 1) (by omega) (by omega) (by omega) (by omega) (fun r q1 q2 => ?_)
      by_cases c : r = v
      · rw [c]; exact bs
      · exact h3 r q1 (by rw [ieq] at c; omega)
def own_key (SA : List Int32) (s : Int32) : Int := (gI SA s).toInt * 32 + s.toInt
abbrev own_O (AC SA PO : List Int32) (n : Int32) (b : Int) : Prop := (PO.length = 32) ∧ (0 ≤ n.toInt) ∧ (n.toInt ≤ 32) ∧ (∀ i : Int32, 0 ≤ i.toInt → i.toInt < n.toInt → 0 ≤ (gI PO i).toInt ∧ (gI PO i).toInt < 32 ∧ ¬ gI AC (gI PO i) = 0 ∧ own_key SA (gI PO i) < b) ∧ (∀ i j : Int32, 0 ≤ i.toInt → i.toInt < j.toInt → j.toInt < n.toInt → own_key SA (gI PO i) < own_key SA (gI PO j)) ∧ (∀ s : Int32, 0 ≤ s.toInt → s.toInt < 32 → ¬ gI AC s = 0 → own_key SA s < b → n.toInt = 32 ∨ ∃ i : Int32, 0 ≤ i.toInt ∧ i.toInt < n.toInt ∧ gI PO i = s)
theorem own_O.l {AC SA PO : List Int32} {n : Int32} {b : Int} (self : own_O AC SA PO n b) : PO.length = 32 := self.1
theorem own_O.n0 {AC SA PO : List Int32} {n : Int32} {b : Int} (self : own_O AC SA PO n b) : 0 ≤ n.toInt := self.2.1
theorem own_O.n1 {AC SA PO : List Int32} {n : Int32} {b : Int} (self : own_O AC SA PO n b) : n.toInt ≤ 32 := self.2.2.1
theorem own_O.a {AC SA PO : List Int32} {n : Int32} {b : Int} (self : own_O AC SA PO n b) : ∀ i : Int32, 0 ≤ i.toInt → i.toInt < n.toInt → 0 ≤ (gI PO i).toInt ∧ (gI PO i).toInt < 32 ∧ ¬ gI AC (gI PO i) = 0 ∧ own_key SA (gI PO i) < b := self.2.2.2.1
theorem own_O.s {AC SA PO : List Int32} {n : Int32} {b : Int} (self : own_O AC SA PO n b) : ∀ i j : Int32, 0 ≤ i.toInt → i.toInt < j.toInt → j.toInt < n.toInt → own_key SA (gI PO i) < own_key SA (gI PO j) := self.2.2.2.2.1
theorem own_O.c {AC SA PO : List Int32} {n : Int32} {b : Int} (self : own_O AC SA PO n b) : ∀ s : Int32, 0 ≤ s.toInt → s.toInt < 32 → ¬ gI AC s = 0 → own_key SA s < b → n.toInt = 32 ∨ ∃ i : Int32, 0 ≤ i.toInt ∧ i.toInt < n.toInt ∧ gI PO i = s := self.2.2.2.2.2
theorem own_O_up {AC SA PO : List Int32} {n : Int32} {b b' : Int} (h : own_O AC SA PO n b) (hb : b ≤ b') (hn : ∀ s : Int32, 0 ≤ s.toInt → s.toInt < 32 → ¬ gI AC s = 0 → own_key SA s < b' → own_key SA s < b) : own_O AC SA PO n b' := by
  refine ⟨h.l, h.n0, h.n1, fun i i0 i1 => ?_, h.s, fun s s0 s1 sa sb => h.c s s0 s1 sa (hn s s0 s1 sa sb)⟩
  obtain ⟨q1, q2, q3, q4⟩ := h.a i i0 i1
  exact ⟨q1, q2, q3, by omega⟩
theorem own_appX {AC SA PO : List Int32} {n v : Int32} (h : own_O AC SA PO n (own_key SA v)) (v0 : 0 ≤ v.toInt) (v1 : v.toInt < 32) (va : ¬ gI AC v = 0) (hn : ∀ s : Int32, 0 ≤ s.toInt → s.toInt < 32 → ¬ gI AC s = 0 → own_key SA s < own_key SA v + 1 → s = v ∨ own_key SA s < own_key SA v) : Tot (f_appendToOrder PO n v) (fun t => own_O AC SA t.1 t.2 (own_key SA v + 1)) := by
  obtain ⟨hl, n0, n1, a, s, c⟩ := h
  have e0 : (0 : Int32).toInt = 0 := rfl
  unfold f_appendToOrder
  rw [if_neg (by rw [ilt]; omega)]
  refine Tot.ite (fun g => ?_) (fun g => ?_)
  · have g' : n.toInt < 32 := ilt.mp g
    have en : (n + 1).toInt = n.toInt + 1 := by
      have o : (1 : Int32).toInt = 1 := rfl
      rw [iadd_i (by omega) (by omega), o]
    refine Tot.wr n0 (by omega) (fun A q1 q2 => Tot.mk ⟨by show A.length = 32; omega, by show 0 ≤ (n + 1).toInt; omega, by show (n + 1).toInt ≤ 32; omega, fun i i0 i1 => ?_, fun i j i0 ij jn => ?_, fun t t0 t1 ta tb => ?_⟩)
    · have i1' : i.toInt < (n + 1).toInt := i1
      show 0 ≤ (gI A i).toInt ∧ (gI A i).toInt < 32 ∧ ¬ gI AC (gI A i) = 0 ∧ own_key SA (gI A i) < own_key SA v + 1
      rw [q1, gset n0 (by omega) i0]
      by_cases e : n = i
      · rw [if_pos e]; exact ⟨v0, v1, va, by omega⟩
      · rw [if_neg e]
        obtain ⟨k1, k2, k3, k4⟩ := a i i0 (by rw [ieq] at e; omega)
        exact ⟨k1, k2, k3, by omega⟩
    · have jn' : j.toInt < (n + 1).toInt := jn
      show own_key SA (gI A i) < own_key SA (gI A j)
      rw [q1, gset n0 (by omega) i0, gset n0 (by omega) (by omega), if_neg (show ¬ n = i by rw [ieq]; omega)]
      by_cases e : n = j
      · rw [if_pos e]
        exact (a i i0 (by rw [ieq] at e; omega)).2.2.2
      · rw [if_neg e]
        exact s i j i0 ij (by rw [ieq] at e; omega)
    · show (n + 1).toInt = 32 ∨ ∃ i : Int32, 0 ≤ i.toInt ∧ i.toInt < (n + 1).toInt ∧ gI A i = t
      rcases hn t t0 t1 ta tb with e | e
      · right
        exact ⟨n, n0, by omega, by rw [q1, gset n0 (by omega) n0, if_pos rfl, e]⟩
      · rcases c t t0 t1 ta e with q | ⟨i, i0, i1, i2⟩
        · exfalso; omega
        · right
          exact ⟨i, i0, by omega, by rw [q1, gset n0 (by omega) i0, if_neg (by rw [ieq]; omega), i2]⟩
  · have g' : n.toInt = 32 := by
      rw [ilt] at g
      have e32 : (32 : Int32).toInt = 32 := rfl
      omega
    refine Tot.mk ⟨hl, n0, n1, fun i i0 i1 => ?_, s, fun t t0 t1 ta tb => Or.inl g'⟩
    obtain ⟨k1, k2, k3, k4⟩ := a i i0 i1
    exact ⟨k1, k2, k3, by show own_key SA (gI PO i) < own_key SA v + 1; omega⟩
theorem own_bo15X {Q : List Int32 × Int32 → Prop} {AC SA : List Int32} (lC : AC.length = 32) (lA : SA.length = 32) (hs : ∀ s : Int32, 0 ≤ s.toInt → s.toInt < 32 → ¬ gI AC s = 0 → 0 ≤ (gI SA s).toInt ∧ (gI SA s).toInt < 32) (k7 : List Int32 → Int32 → Int32 → Option (List Int32 × Int32)) (v : Int32) (hk : ∀ (PO : List Int32) (n : Int32), own_O AC SA PO n (v.toInt * 32 + 32) → Tot (k7 PO n (v + 1)) Q) : ∀ (f : Nat) (PO : List Int32) (n j : Int32), own_O AC SA PO n (v.toInt * 32 + j.toInt) → 0 ≤ j.toInt → j.toInt ≤ 32 → 32 - j.toInt < f → Tot (f_buildOrder_15 k7 AC SA f PO n v j) Q := by
  have e32 : (32 : Int32).toInt = 32 := rfl
  intro f
  induction f with
  | zero => intro PO n j h h0 h1 h2; exfalso; omega
  | succ f ih =>
    intro PO n j h h0 h1 h2
    unfold f_buildOrder_15
    refine Tot.ite (fun g => ?_) (fun g => ?_)
    · have g' : j.toInt < 32 := ilt.mp g
      have ej : (j + 1).toInt = j.toInt + 1 := by
        have o : (1 : Int32).toInt = 1 := rfl
        rw [iadd_i (by omega) (by omega), o]
      have skip : (gI AC j = 0 ∨ ¬ gI SA j = v) → own_O AC SA PO n (v.toInt * 32 + (j + 1).toInt) := by
        intro hq
        refine own_O_up h (by omega) (fun s s0 s1 sa sb => ?_)
        obtain ⟨q1, q2⟩ := hs s s0 s1 sa
        unfold own_key at sb ⊢
        by_cases e : (gI SA s).toInt * 32 + s.toInt = v.toInt * 32 + j.toInt
        · exfalso
          have es : s = j := by rw [ieq]; omega
          rw [es] at sa e
          rcases hq with q | q
          · exact sa q
          · apply q
            rw [ieq]
            omega
        · omega
      refine Tot.rdI h0 (by omega) (Tot.ite (fun g2 => ih PO n (j + 1) (skip (Or.inl g2)) (by omega) (by omega) (by omega)) (fun g2 => Tot.rdI h0 (by omega) (Tot.ite (fun g3 => ?_) (fun g3 => ih PO n (j + 1) (skip (Or.inr g3)) (by omega) (by omega) (by omega)))))
      have ek : own_key SA j = v.toInt * 32 + j.toInt := by unfold own_key; rw [g3]
      rw [← ek] at h
      refine Tot.bind (own_appX h h0 g' g2 (fun s s0 s1 sa sb => ?_)) ?_
      · obtain ⟨q1, q2⟩ := hs s s0 s1 sa
        obtain ⟨q3, q4⟩ := hs j h0 g' g2
        unfold own_key at sb ⊢
        by_cases e : s = j
        · exact Or.inl e
        · right
          rw [ieq] at e
          omega
      · rintro ⟨PO', n'⟩ h'
        have h2' : own_O AC SA PO' n' (v.toInt * 32 + (j + 1).toInt) := by
          have h3 : own_O AC SA PO' n' (own_key SA j + 1) := h'
          rw [ek] at h3
          rw [ej, ← Int.add_assoc]
          exact h3
        exact ih PO' n' (j + 1) h2' (by omega) (by omega) (by omega)
    · rw [ilt] at g
      refine hk PO n ?_
      rw [show j.toInt = 32 by omega] at h
      exact h
theorem own_bo7X {AC SA : List Int32} (lC : AC.length = 32) (lA : SA.length = 32) (hs : ∀ s : Int32, 0 ≤ s.toInt → s.toInt < 32 → ¬ gI AC s = 0 → 0 ≤ (gI SA s).toInt ∧ (gI SA s).toInt < 32) : ∀ (f : Nat) (PO : List Int32) (n v : Int32), own_O AC SA PO n (v.toInt * 32) → 0 ≤ v.toInt → v.toInt ≤ 32 → 32 - v.toInt < f → Tot (f_buildOrder_7 AC SA f PO n v) (fun r => own_O AC SA r.1 r.2 1024) := by
  have e32 : (32 : Int32).toInt = 32 := rfl
  have z : (0 : Int32).toInt = 0 := rfl
  intro f
  induction f with
  | zero => intro PO n v h h0 h1 h2; exfalso; omega
  | succ f ih =>
    intro PO n v h h0 h1 h2
    unfold f_buildOrder_7
    refine Tot.ite (fun g => ?_) (fun g => ?_)
    · have g' : v.toInt < 32 := ilt.mp g
      have ev : (v + 1).toInt = v.toInt + 1 := by
        have o : (1 : Int32).toInt = 1 := rfl
        rw [iadd_i (by omega) (by omega), o]
      refine own_bo15X lC lA hs _ v (fun PO' n' h' => ih PO' n' (v + 1) ?_ (by omega) (by omega) (by omega)) 100000 PO n 0 (by rw [z, Int.add_zero]; exact h) (by decide) (by decide) (by decide)
      rw [ev, Int.add_mul]
      exact h'
    · rw [ilt] at g
      refine Tot.mk ?_
      rw [show v.toInt = 32 by omega] at h
      exact h
abbrev own_PL (F AC ST SA SN PR PG : List Int32) (tot : Int32) (pl : Int32 → Prop) : Prop := (PR.length = 32) ∧ (PG.length = 768) ∧ (∀ s : Int32, 0 ≤ s.toInt → s.toInt < 32 → gI PR s = -1 ∨ (pl s ∧ gI AC s = 1 ∧ (gI F (gI ST s)).toInt ≤ (gI PR s).toInt ∧ 0 ≤ (gI PR s).toInt ∧ (gI PR s).toInt < tot.toInt)) ∧ (∀ r n : Int32, own_rn r n → gI PG (r * 32 + n) = -1 ∨ (0 ≤ (gI PG (r * 32 + n)).toInt ∧ (gI PG (r * 32 + n)).toInt < 32 ∧ pl (gI PG (r * 32 + n)) ∧ gI AC (gI PG (r * 32 + n)) = 1 ∧ gI PR (gI PG (r * 32 + n)) = r ∧ (gI SA (gI PG (r * 32 + n))).toInt ≤ n.toInt ∧ n.toInt < (gI SA (gI PG (r * 32 + n))).toInt + (gI SN (gI PG (r * 32 + n))).toInt)) ∧ (∀ s : Int32, 0 ≤ s.toInt → s.toInt < 32 → ¬ gI PR s = -1 → ∀ n : Int32, (gI SA s).toInt ≤ n.toInt → n.toInt < (gI SA s).toInt + (gI SN s).toInt → gI PG (gI PR s * 32 + n) = s) ∧ (∀ s : Int32, 0 ≤ s.toInt → s.toInt < 32 → pl s → ∀ r : Int32, (gI F (gI ST s)).toInt ≤ r.toInt → r.toInt < (if gI PR s = -1 then tot.toInt else (gI PR s).toInt) → ∃ n : Int32, (gI SA s).toInt ≤ n.toInt ∧ n.toInt < (gI SA s).toInt + (gI SN s).toInt ∧ ¬ gI PG (r * 32 + n) = -1 ∧ own_key SA (gI PG (r * 32 + n)) < own_key SA s)
theorem own_PL.a {F AC ST SA SN PR PG : List Int32} {tot : Int32} {pl : Int32 → Prop} (self : own_PL F AC ST SA SN PR PG tot pl) : PR.length = 32 := self.1
theorem own_PL.b {F AC ST SA SN PR PG : List Int32} {tot : Int32} {pl : Int32 → Prop} (self : own_PL F AC ST SA SN PR PG tot pl) : PG.length = 768 := self.2.1
theorem own_PL.c {F AC ST SA SN PR PG : List Int32} {tot : Int32} {pl : Int32 → Prop} (self : own_PL F AC ST SA SN PR PG tot pl) : ∀ s : Int32, 0 ≤ s.toInt → s.toInt < 32 → gI PR s = -1 ∨ (pl s ∧ gI AC s = 1 ∧ (gI F (gI ST s)).toInt ≤ (gI PR s).toInt ∧ 0 ≤ (gI PR s).toInt ∧ (gI PR s).toInt < tot.toInt) := self.2.2.1
theorem own_PL.d {F AC ST SA SN PR PG : List Int32} {tot : Int32} {pl : Int32 → Prop} (self : own_PL F AC ST SA SN PR PG tot pl) : ∀ r n : Int32, own_rn r n → gI PG (r * 32 + n) = -1 ∨ (0 ≤ (gI PG (r * 32 + n)).toInt ∧ (gI PG (r * 32 + n)).toInt < 32 ∧ pl (gI PG (r * 32 + n)) ∧ gI AC (gI PG (r * 32 + n)) = 1 ∧ gI PR (gI PG (r * 32 + n)) = r ∧ (gI SA (gI PG (r * 32 + n))).toInt ≤ n.toInt ∧ n.toInt < (gI SA (gI PG (r * 32 + n))).toInt + (gI SN (gI PG (r * 32 + n))).toInt) := self.2.2.2.1
theorem own_PL.e {F AC ST SA SN PR PG : List Int32} {tot : Int32} {pl : Int32 → Prop} (self : own_PL F AC ST SA SN PR PG tot pl) : ∀ s : Int32, 0 ≤ s.toInt → s.toInt < 32 → ¬ gI PR s = -1 → ∀ n : Int32, (gI SA s).toInt ≤ n.toInt → n.toInt < (gI SA s).toInt + (gI SN s).toInt → gI PG (gI PR s * 32 + n) = s := self.2.2.2.2.1
theorem own_PL.f {F AC ST SA SN PR PG : List Int32} {tot : Int32} {pl : Int32 → Prop} (self : own_PL F AC ST SA SN PR PG tot pl) : ∀ s : Int32, 0 ≤ s.toInt → s.toInt < 32 → pl s → ∀ r : Int32, (gI F (gI ST s)).toInt ≤ r.toInt → r.toInt < (if gI PR s = -1 then tot.toInt else (gI PR s).toInt) → ∃ n : Int32, (gI SA s).toInt ≤ n.toInt ∧ n.toInt < (gI SA s).toInt + (gI SN s).toInt ∧ ¬ gI PG (r * 32 + n) = -1 ∧ own_key SA (gI PG (r * 32 + n)) < own_key SA s := self.2.2.2.2.2
theorem own_plX {F AC ST SA SN EX AL PR PG : List Int32} (h : own_PS AC ST SA SN EX AL) (hF : own_F F) {tot : Int32} (ht : tot.toInt ≤ 24) {pl pl' : Int32 → Prop} (hP : own_PL F AC ST SA SN PR PG tot pl) {id : Int32} (i0 : 0 ≤ id.toInt) (i1 : id.toInt < 32) (ia : ¬ gI AC id = 0) (ne : ¬ pl id) (hk : ∀ s, pl s → own_key SA s < own_key SA id) (hp : ∀ s, pl' s ↔ pl s ∨ s = id) : Tot (f_placeStay F AC ST SA SN tot PR PG id) (fun t => own_PL F AC ST SA SN t.2.1 t.2.2 tot pl' ∧ (∀ s : Int32, 0 ≤ s.toInt → ¬ s = id → gI t.2.1 s = gI PR s) ∧ (t.1 = 1 ∨ (t.1 = 0 ∧ gI t.2.1 id = -1))) := by
  have lT := h.lT
  have lA := h.lA
  have lN := h.lN
  obtain ⟨pa, pb, pc, pd, pe, pf⟩ := hP
  have m1 : (-1 : Int32).toInt = -1 := rfl
  have pi : gI PR id = -1 := by
    rcases pc id i0 i1 with q | q
    · exact q
    · exact absurd q.1 ne
  unfold f_placeStay
  rcases own_act01 h id with ⟨e, z⟩ | ⟨e, -, -, ia1, t0, t2, a0, k1, ak⟩
  · exact absurd (z i0 i1) ia
  · rw [e, Option.bind_some, if_neg (by decide)]
    refine Tot.rdI i0 (by omega) ?_
    rcases own_vt3 (gI ST id) with ev | ⟨ev, -, -⟩
    · exfalso
      unfold f_isValidType at ev
      have e0 : (0 : Int32).toInt = 0 := rfl
      have e3 : (3 : Int32).toInt = 3 := rfl
      rw [if_neg (by rw [ilt]; omega), if_pos (by rw [ilt]; omega)] at ev
      exact absurd ev (by decide)
    · rw [ev, Option.bind_some, if_neg (by decide)]
      have hf := hF.2 (gI ST id) t0 (by omega)
      refine Tot.rdI i0 (by omega) (Tot.rdI i0 (by omega) (Tot.rdI t0 (by rw [hF.1]; omega) ?_))
      refine Tot.mono (own_psX ht i0 i1 a0 (by omega) ak PR PG pa pb (gI F (gI ST id)) 100000 (gI F (gI ST id)) hf.1 hf.2 (by omega) (by omega) (fun r q1 q2 => by omega)) ?_
      have blk : ∀ r : Int32, 0 ≤ r.toInt → r.toInt < 24 → own_busy PG r (gI SA id) (gI SN id) → ∃ n : Int32, (gI SA id).toInt ≤ n.toInt ∧ n.toInt < (gI SA id).toInt + (gI SN id).toInt ∧ ¬ gI PG (r * 32 + n) = -1 ∧ own_key SA (gI PG (r * 32 + n)) < own_key SA id := by
        rintro r r0 r1 ⟨n, n0, n1, nn⟩
        refine ⟨n, n0, n1, nn, ?_⟩
        rcases pd r n ⟨r0, r1, by omega, by omega⟩ with q | q
        · exact absurd q nn
        · exact hk _ q.2.2.1
      rintro t (⟨tz, t1, t2', bz⟩ | ⟨r, r0, rz, r1, tz, t1, t2', t3, fr, bz⟩)
      · rw [t1, t2', tz]
        refine ⟨?_, fun s _ _ => rfl, Or.inr ⟨rfl, pi⟩⟩
        refine ⟨pa, pb, fun s s0 s1 => ?_, fun r n hn => ?_, pe, fun s s0 s1 hs r hr1 hr2 => ?_⟩
        · rcases pc s s0 s1 with q | q
          · exact Or.inl q
          · exact Or.inr ⟨(hp s).mpr (Or.inl q.1), q.2⟩
        · rcases pd r n hn with q | ⟨q1, q2, q3, q4⟩
          · exact Or.inl q
          · exact Or.inr ⟨q1, q2, (hp _).mpr (Or.inl q3), q4⟩
        · rcases (hp s).mp hs with q | q
          · exact pf s s0 s1 q r hr1 hr2
          · subst q
            rw [if_pos pi] at hr2
            exact blk r (by omega) (by omega) (bz r hr1 hr2)
      · have sr : ∀ s : Int32, 0 ≤ s.toInt → gI (PR.set id.toInt.toNat r) s = if id = s then r else gI PR s := fun s s0 => gset i0 (by omega) s0
        have nr : ¬ r = -1 := by rw [ieq, m1]; omega
        rw [t1, tz]
        refine ⟨?_, fun s s0 sn => by rw [sr s s0, if_neg (fun e => sn e.symm)], Or.inl rfl⟩
        refine ⟨own_len pa _ _, t2', fun s s0 s1 => ?_, fun r' n hn => ?_, fun s s0 s1 hs n n0 n1 => ?_, fun s s0 s1 hs r' hr1 hr2 => ?_⟩
        · rw [sr s s0]
          by_cases q : id = s
          · subst q
            rw [if_pos rfl]
            exact Or.inr ⟨(hp _).mpr (Or.inr rfl), ia1, r0, rz, r1⟩
          · rw [if_neg q]
            rcases pc s s0 s1 with q2 | q2
            · exact Or.inl q2
            · exact Or.inr ⟨(hp s).mpr (Or.inl q2.1), q2.2⟩
        · rw [t3 r' n hn]
          by_cases q : r' = r ∧ (gI SA id).toInt ≤ n.toInt ∧ n.toInt < (gI SA id).toInt + (gI SN id).toInt
          · rw [if_pos q, sr id i0, if_pos rfl]
            exact Or.inr ⟨i0, i1, (hp _).mpr (Or.inr rfl), ia1, q.1.symm, q.2⟩
          · rw [if_neg q]
            rcases pd r' n hn with q2 | ⟨q1, q2, q3, q4, q5, q6⟩
            · exact Or.inl q2
            · rw [sr _ q1, if_neg (fun e => ne (by rw [e]; exact q3))]
              exact Or.inr ⟨q1, q2, (hp _).mpr (Or.inl q3), q4, q5, q6⟩
        · rw [sr s s0] at hs ⊢
          by_cases q : id = s
          · subst q
            rw [if_pos rfl, t3 r n ⟨rz, by omega, by omega, by omega⟩, if_pos ⟨rfl, n0, n1⟩]
          · rw [if_neg q] at hs ⊢
            have old := pe s s0 s1 hs n n0 n1
            rcases pc s s0 s1 with q2 | ⟨q3, q4, q5, q6, q7⟩
            · exact absurd q2 hs
            · have sk : 0 ≤ (gI SA s).toInt ∧ (gI SA s).toInt + (gI SN s).toInt ≤ 32 := by
                rcases h.ok s s0 s1 with w | w
                · rw [w.1] at q4; exact absurd q4 (by decide)
                · exact ⟨w.2.2.2.1, w.2.2.2.2.2⟩
              rw [t3 (gI PR s) n ⟨q6, by omega, by omega, by omega⟩, if_neg, old]
              rintro ⟨e1, e2, e3⟩
              have := fr n e2 e3
              rw [← e1, old, ieq, m1] at this
              omega
        · have keep : ∀ r'' n : Int32, own_rn r'' n → ¬ gI PG (r'' * 32 + n) = -1 → gI t.2.2 (r'' * 32 + n) = gI PG (r'' * 32 + n) := by
            intro r'' n hn hq
            rw [t3 r'' n hn, if_neg]
            rintro ⟨e1, e2, e3⟩
            apply hq
            rw [e1]
            exact fr n e2 e3
          rcases (hp s).mp hs with q | q
          · have nei : ¬ id = s := fun e => ne (by rw [e]; exact q)
            rw [sr s s0, if_neg nei] at hr2
            obtain ⟨n, n0, n1, n2, n3⟩ := pf s s0 s1 q r' hr1 hr2
            have hw : 0 ≤ (gI SA s).toInt ∧ (gI SA s).toInt + (gI SN s).toInt ≤ 32 ∧ 0 ≤ (gI ST s).toInt ∧ (gI ST s).toInt ≤ 2 := by
              rcases h.ok s s0 s1 with w | w
              · exfalso
                rw [w.2.2.1, w.2.2.2] at n1
                rw [w.2.2.1] at n0
                have z : (0 : Int32).toInt = 0 := rfl
                omega
              · exact ⟨w.2.2.2.1, w.2.2.2.2.2, w.2.1, w.2.2.1⟩
            have hfs := hF.2 (gI ST s) hw.2.2.1 (by omega)
            have r24 : r'.toInt < 24 := by
              by_cases c : gI PR s = -1
              · rw [if_pos c] at hr2; omega
              · rw [if_neg c] at hr2
                rcases pc s s0 s1 with q2 | q2
                · exact absurd q2 c
                · have := q2.2.2.2.2
                  omega
            have rn : own_rn r' n := ⟨by omega, r24, by omega, by omega⟩
            refine ⟨n, n0, n1, ?_, ?_⟩
            · rw [keep r' n rn n2]; exact n2
            · rw [keep r' n rn n2]; exact n3
          · subst q
            rw [sr s s0, if_pos rfl, if_neg nr] at hr2
            obtain ⟨n, n0, n1, n2, n3⟩ := blk r' (by omega) (by omega) (bz r' hr1 hr2)
            have rn : own_rn r' n := ⟨by omega, by omega, by omega, by omega⟩
            refine ⟨n, n0, n1, ?_, ?_⟩
            · rw [keep r' n rn n2]; exact n2
            · rw [keep r' n rn n2]; exact n3
theorem own_asX {F AC ST SA SN EX AL PO : List Int32} (h : own_PS AC ST SA SN EX AL) (hF : own_F F) {tot : Int32} (ht : tot.toInt ≤ 24) (n pc pu : Int32) (hO : own_O AC SA PO n 1024) : ∀ (f : Nat) (PR PG : List Int32) (u v : Int32), 0 ≤ v.toInt → v.toInt ≤ n.toInt → 32 - v.toInt < f → own_PL F AC ST SA SN PR PG tot (fun s => ∃ j : Int32, 0 ≤ j.toInt ∧ j.toInt < v.toInt ∧ gI PO j = s) → Tot (f_assign_16 (f_assign_58 F AC ST SA SN tot) F AC ST SA SN tot f PR PG PO n pc pu u v) (fun r => r.2.2.2.1.length = 32 ∧ r.2.2.2.2.2.1 = 1 ∧ own_PL F AC ST SA SN r.2.1 r.2.2.1 tot (fun s => ∃ j : Int32, 0 ≤ j.toInt ∧ j.toInt < n.toInt ∧ gI PO j = s) ∧ (∀ s : Int32, 0 ≤ s.toInt → (∃ j : Int32, 0 ≤ j.toInt ∧ j.toInt < v.toInt ∧ gI PO j = s) → gI r.2.1 s = gI PR s) ∧ (r.1 = u ∨ ∃ s : Int32, 0 ≤ s.toInt ∧ s.toInt < 32 ∧ (∃ j : Int32, 0 ≤ j.toInt ∧ j.toInt < n.toInt ∧ gI PO j = s) ∧ gI r.2.1 s = -1)) := by
  have e32 : (32 : Int32).toInt = 32 := rfl
  have n1 := hO.n1
  have lO := hO.l
  intro f
  induction f with
  | zero => intro PR PG u v h0 h1 h2; exfalso; omega
  | succ f ih =>
    intro PR PG u v h0 h1 h2 hP
    unfold f_assign_16
    refine Tot.ite (fun g => ?_) (fun g => ?_)
    · have g' := ilt.mp g
      rw [if_pos (by rw [ilt]; omega)]
      have ev : (v + 1).toInt = v.toInt + 1 := by
        have o : (1 : Int32).toInt = 1 := rfl
        rw [iadd_i (by omega) (by omega), o]
      obtain ⟨b0, b1, b2, b3⟩ := hO.a v h0 g'
      refine Tot.rdI h0 (by omega) (Tot.bind (own_plX h hF ht hP (pl' := fun s => ∃ j : Int32, 0 ≤ j.toInt ∧ j.toInt < (v + 1).toInt ∧ gI PO j = s) b0 b1 b2 ?_ ?_ ?_) ?_)
      · rintro ⟨j, j0, j1, j2⟩
        have := hO.s j v j0 j1 g'
        rw [j2] at this
        omega
      · rintro s ⟨j, j0, j1, j2⟩
        have := hO.s j v j0 j1 g'
        rw [j2] at this
        exact this
      · intro s
        constructor
        · rintro ⟨j, j0, j1, j2⟩
          by_cases e : j = v
          · right; rw [← j2, e]
          · left; exact ⟨j, j0, by rw [ieq] at e; omega, j2⟩
        · rintro (⟨j, j0, j1, j2⟩ | e)
          · exact ⟨j, j0, by omega, j2⟩
          · exact ⟨v, h0, by omega, e.symm⟩
      · rintro ⟨r, A, B⟩ ⟨q, kp, uz⟩
        simp only at q kp uz
        refine Tot.mono (ih A B _ (v + 1) (by omega) (by omega) (by omega) q) ?_
        rintro t ⟨w1, w2, w3, w4, w5⟩
        refine ⟨w1, w2, w3, fun s s0 hs => ?_, ?_⟩
        · obtain ⟨j, j0, j1, j2⟩ := hs
          rw [w4 s s0 ⟨j, j0, by omega, j2⟩]
          refine kp s s0 (fun e => ?_)
          have := hO.s j v j0 j1 g'
          rw [j2, e] at this
          omega
        · rcases uz with e | ⟨e, e2⟩
          · rw [e, if_neg (by decide)] at w5
            exact w5
          · right
            refine ⟨gI PO v, b0, b1, ⟨v, h0, by omega, rfl⟩, ?_⟩
            rw [w4 _ b0 ⟨v, h0, by omega, rfl⟩]
            exact e2
    · rw [ilt] at g
      unfold f_assign_58
      have e : v.toInt = n.toInt := by omega
      rw [e] at hP
      exact Tot.mk ⟨lO, rfl, hP, fun s _ _ => rfl, Or.inl rfl⟩
theorem own_assignX {F AC ST SA SN EX AL PR PG PO : List Int32} (h : own_PS AC ST SA SN EX AL) (hF : own_F F) {tot : Int32} (ht : tot.toInt ≤ 24) (n pc pu : Int32) (lR : PR.length = 32) (lG : PG.length = 768) (lO : PO.length = 32) : Tot (f_assign F AC ST SA SN tot PR PG PO n pc pu) (fun r => r.2.2.2.1.length = 32 ∧ r.2.2.2.2.2.1 = 1 ∧ ∃ PO' n', own_O AC SA PO' n' 1024 ∧ own_PL F AC ST SA SN r.2.1 r.2.2.1 tot (fun s => ∃ j : Int32, 0 ≤ j.toInt ∧ j.toInt < n'.toInt ∧ gI PO' j = s) ∧ (r.1 = 0 ∨ ∃ s : Int32, 0 ≤ s.toInt ∧ s.toInt < 32 ∧ (∃ j : Int32, 0 ≤ j.toInt ∧ j.toInt < n'.toInt ∧ gI PO' j = s) ∧ gI r.2.1 s = -1)) := by
  unfold f_assign f_discardPlan f_clearPlan f_buildOrder
  rw [Option.bind_some]
  have e0 : (0 : Int32).toInt = 0 := rfl
  refine Tot.bind (own_c2X PG lG n 100000 PR PO 0 lR lO (by decide) (by decide) (by decide) (fun i i0 i1 => by omega)) ?_
  rintro ⟨A, B, C, d⟩ ⟨q1, q2, q3, q4, q5, q6⟩
  simp only at q1 q2 q3 q4 q5 q6
  have hs : ∀ s : Int32, 0 ≤ s.toInt → s.toInt < 32 → ¬ gI AC s = 0 → 0 ≤ (gI SA s).toInt ∧ (gI SA s).toInt < 32 := by
    intro s s0 s1 sa
    rcases h.ok s s0 s1 with w | w
    · exact absurd w.1 sa
    · have := w.2.2.2.2
      exact ⟨w.2.2.2.1, by omega⟩
  refine Tot.bind (own_bo7X h.lC h.lA hs 100000 C 0 0 ⟨q3, by decide, by decide, fun i i0 i1 => by omega, fun i j i0 ij jn => by omega, fun s s0 s1 sa sb => by
      exfalso
      obtain ⟨k1, k2⟩ := hs s s0 s1 sa
      unfold own_key at sb
      omega⟩ (by decide) (by decide) (by decide)) ?_
  rintro ⟨O, m⟩ hO
  have hO' : own_O AC SA O m 1024 := hO
  have m0 := hO'.n0
  refine Tot.mono (own_asX h hF ht m 0 pu hO' 100000 A B 0 0 (by decide) (by omega) (by decide) ⟨q1, q2, fun s s0 s1 => Or.inl (q5 s s0 s1), fun r n hn => Or.inl ?_, fun s s0 s1 hs => absurd (q5 s s0 s1) hs, fun s s0 s1 hs => ?_⟩) ?_
  · have ei := own_rni hn
    obtain ⟨a, b, c, d⟩ := hn
    exact q6 _ (by omega) (by omega)
  · obtain ⟨j, j0, j1, j2⟩ := hs
    omega
  · rintro r ⟨a, b, c, _, d⟩
    exact ⟨a, b, O, m, hO', c, d⟩
theorem own_lowY {AC : List Int32} (lC : AC.length = 32) : ∀ (f : Nat) (j : Int32), 0 ≤ j.toInt → j.toInt ≤ 32 → 32 - j.toInt < f → (f_lowestInactiveSlot_2 AC f j = some (-1) ∧ ∀ i : Int32, j.toInt ≤ i.toInt → i.toInt < 32 → ¬ gI AC i = 0) ∨ ∃ r : Int32, f_lowestInactiveSlot_2 AC f j = some r ∧ j.toInt ≤ r.toInt ∧ r.toInt < 32 ∧ gI AC r = 0 ∧ ∀ i : Int32, j.toInt ≤ i.toInt → i.toInt < r.toInt → ¬ gI AC i = 0 := by
  intro f
  induction f with
  | zero => intro j h0 h1 h2; exfalso; omega
  | succ f ih =>
    intro j h0 h1 h2
    unfold f_lowestInactiveSlot_2
    by_cases g : j < 32
    · have g' : j.toInt < 32 := ilt.mp g
      have ej : (j + 1).toInt = j.toInt + 1 := by
        have o : (1 : Int32).toInt = 1 := rfl
        rw [iadd_i (by omega) (by omega), o]
      rw [if_pos g, rdg h0 (by omega), Option.bind_some]
      by_cases k : gI AC j = 0
      · rw [if_pos k]
        exact Or.inr ⟨j, rfl, by omega, g', k, fun i i0 i1 => by omega⟩
      · rw [if_neg k]
        have nj : ∀ i : Int32, j.toInt ≤ i.toInt → i.toInt < (j + 1).toInt → ¬ gI AC i = 0 := fun i i0 i1 => by
          have e : i = j := by rw [ieq]; omega
          rw [e]; exact k
        rcases ih (j + 1) (by omega) (by omega) (by omega) with ⟨q1, q2⟩ | ⟨r, q1, q2, q3, q4, q5⟩
        · left
          refine ⟨q1, fun i i0 i1 => ?_⟩
          by_cases c : i.toInt < (j + 1).toInt
          · exact nj i i0 c
          · exact q2 i (by omega) i1
        · right
          refine ⟨r, q1, by omega, q3, q4, fun i i0 i1 => ?_⟩
          by_cases c : i.toInt < (j + 1).toInt
          · exact nj i i0 c
          · exact q5 i (by omega) i1
    · rw [if_neg g]
      rw [ilt] at g
      have e32 : (32 : Int32).toInt = 32 := rfl
      exact Or.inl ⟨rfl, fun i i0 i1 => by omega⟩
theorem own_bookY {R AC ST SA SN EX AL : List Int32} {n : Int32} (h : own_PS AC ST SA SN EX AL) (hC : own_C AC ST SA SN EX AL n) (hR : R.length = 3) {t a k : Int32} (t0 : 0 ≤ t.toInt) (t2 : t.toInt ≤ 2) (a0 : 0 ≤ a.toInt) (k1 : 1 ≤ k.toInt) (ak : a.toInt + k.toInt ≤ 32) :
    (¬ n < 32 ∧ ∀ pc, f_book R AC ST SA SN EX AL n pc t a k = some (-3, AC, ST, SA, SN, EX, AL, n, pc)) ∨
    (n < 32 ∧ ¬ own_fit R AL (fun _ _ => 0) t a (a + k) ∧ ∀ pc, f_book R AC ST SA SN EX AL n pc t a k = some (-4, AC, ST, SA, SN, EX, AL, n, pc)) ∨
    (n < 32 ∧ own_fit R AL (fun _ _ => 0) t a (a + k) ∧ ∃ (id : Int32) (EX' AL' : List Int32), 0 ≤ id.toInt ∧ id.toInt < 32 ∧ gI AC id = 0 ∧ (∀ i : Int32, 0 ≤ i.toInt → i.toInt < id.toInt → ¬ gI AC i = 0) ∧ own_cov EX AL 1 t a (a + k) EX' AL' ∧ ∀ pc, f_book R AC ST SA SN EX AL n pc t a k = some (id, AC.set id.toInt.toNat 1, ST.set id.toInt.toNat t, SA.set id.toInt.toNat a, SN.set id.toInt.toNat k, EX', AL', n + 1, 0)) := by
  have er := own_rq0 t0 t2 a0 k1 ak
  have lC := h.lC
  have e0 : (0 : Int32).toInt = 0 := rfl
  have e32 : (32 : Int32).toInt = 32 := rfl
  by_cases g : n < 32
  · rcases own_fts h.lL hR (AC := AC) (ST := ST) (id := -1) t2 a0 (by omega) ak (fun _ _ => 0) (fun w m _ _ _ _ => own_x0 w m) with ⟨e, q⟩ | ⟨e, q⟩
    · right; right
      refine ⟨g, q, ?_⟩
      rcases own_lowY lC 100000 0 (by decide) (by decide) (by decide) with ⟨el, al⟩ | ⟨id, el, i0, i1, iz, il⟩
      · exfalso
        have hn := hC.2.2
        have call : ∀ (p : Nat → Bool) m, (∀ j, j < m → p j = true) → own_cnt p m = m := by
          intro p m
          induction m with
          | zero => intro _; rfl
          | succ m ih => intro hh; rw [own_cnt, ih (fun j hj => hh j (by omega)), hh m (by omega)]; simp
        rw [call] at hn
        · rw [ilt] at g
          omega
        · intro j hj
          have ej : (Int32.ofNat j).toInt = j := Int32.toInt_ofNat_of_lt (by omega)
          have nz := al (Int32.ofNat j) (by omega) (by omega)
          unfold own_ac
          rcases h.ok (Int32.ofNat j) (by omega) (by omega) with ⟨z, -⟩ | ⟨z, -⟩
          · exact absurd z nz
          · rw [z]; decide
      · have lT := h.lT
        have lA := h.lA
        have lN := h.lN
        have i0' : 0 ≤ id.toInt := by omega
        have z : ∀ L : List Int32, L.length = 32 → ∀ x, gI (L.set id.toInt.toNat x) id = x := fun L hl x => by rw [own_gs hl i0' i1 i0', if_pos rfl]
        obtain ⟨EX', AL', ea, hc⟩ := own_adj (AC := AC) (own_len lT _ t) (own_len lA _ a) (own_len lN _ k) h.lE h.lL (δ := 1) i0' i1 (z ST lT t) (z SA lA a) (z SN lN k) t0 t2 a0 (by omega) ak
        have ei : f_activateStay AC ST SA SN EX AL n id t a k = some (AC.set id.toInt.toNat 1, ST.set id.toInt.toNat t, SA.set id.toInt.toNat a, SN.set id.toInt.toNat k, EX', AL', n + 1) := by
          unfold f_activateStay f_storeStay
          rw [wrA_in i0' (by omega), Option.bind_some, wrA_in i0' (by omega), Option.bind_some, wrA_in i0' (by omega), Option.bind_some, Option.bind_some]
          show Option.bind (wrA AC id 1) _ = _
          rw [wrA_in i0' (by omega), Option.bind_some, ea, Option.bind_some]
        refine ⟨id, EX', AL', i0', i1, iz, fun i p1 p2 => il i (by omega) p2, hc, fun pc => ?_⟩
        have lo : f_lowestInactiveSlot AC = some id := el
        unfold f_book f_discardPlan
        rw [er, Option.bind_some, if_pos rfl, if_pos g, e, Option.bind_some, if_neg (by decide), lo, Option.bind_some, if_neg (by rw [ilt]; omega), ei, Option.bind_some]
        rfl
    · right; left
      refine ⟨g, q, fun pc => ?_⟩
      unfold f_book
      rw [er, Option.bind_some, if_pos rfl, if_pos g, e, Option.bind_some, if_pos rfl]
  · left
    refine ⟨g, fun pc => ?_⟩
    unfold f_book
    rw [er, Option.bind_some, if_pos rfl, if_neg g]
theorem own_start : own_PS (List.replicate 32 0) (List.replicate 32 0) (List.replicate 32 0) (List.replicate 32 0) (List.replicate 96 0) (List.replicate 96 0) ∧ own_C (List.replicate 32 0) (List.replicate 32 0) (List.replicate 32 0) (List.replicate 32 0) (List.replicate 96 0) (List.replicate 96 0) 0 := by
  have l32 : (List.replicate 32 (0 : Int32)).length = 32 := by simp
  have l96 : (List.replicate 96 (0 : Int32)).length = 96 := by simp
  have z : ∀ i : Int32, 0 ≤ i.toInt → i.toInt < 32 → gI (List.replicate 32 (0 : Int32)) i = 0 := fun i a b => gI_rep a b
  have e0 : (0 : Int32).toInt = 0 := rfl
  have z96 : ∀ w m : Int32, own_wn w m → gI (List.replicate 96 (0 : Int32)) (w * 32 + m) = 0 := by
    intro w m hw
    have ei := own_wx hw
    obtain ⟨p1, p2, p3, p4⟩ := hw
    exact gI_rep (by omega) (by omega)
  have cz : ∀ (p : Nat → Bool) (n : Nat), (∀ j, j < n → p j = false) → own_cnt p n = 0 := by
    intro p n
    induction n with
    | zero => intro _; rw [own_cnt]
    | succ n ih =>
      intro hj
      rw [own_cnt, ih (fun j k => hj j (by omega)), hj n (by omega)]
      simp
  have zj : ∀ j : Nat, j < 32 → gI (List.replicate 32 (0 : Int32)) (Int32.ofNat j) = 0 := by
    intro j hj
    have ej : (Int32.ofNat j).toInt = j := Int32.toInt_ofNat_of_lt (by omega)
    exact z _ (by omega) (by omega)
  refine ⟨⟨l32, l32, l32, l32, l96, l96, fun i a b => Or.inl ⟨z i a b, z i a b, z i a b, z i a b⟩⟩, fun w m hw => ?_, fun m m0 m1 => ?_, ?_⟩
  · rw [z96 w m hw, e0, cz]
    · rfl
    · intro j hj
      unfold own_on
      rw [zj j hj]
      simp
  · rw [z96 0 m ⟨by decide, by decide, m0, m1⟩, z96 1 m ⟨by decide, by decide, m0, m1⟩, z96 2 m ⟨by decide, by decide, m0, m1⟩, e0]
    omega
  · rw [e0, cz]
    · rfl
    · intro j hj
      unfold own_ac
      rw [zj j hj]
      decide
theorem own_F2 : own_F [0, 1, 2] := by
  refine ⟨rfl, fun i a b => ?_⟩
  have : i = 0 ∨ i = 1 ∨ i = 2 := by
    simp only [ieq, Int32.reduceToInt]
    omega
  rcases this with rfl | rfl | rfl <;> decide
theorem own_Ft {t : Int32} (t0 : 0 ≤ t.toInt) (t1 : t.toInt ≤ 1) : gI [0, 1, 2] t = t := by
  have : t = 0 ∨ t = 1 := by
    simp only [ieq, Int32.reduceToInt]
    omega
  rcases this with rfl | rfl <;> rfl
/-- a stay that none is placed ahead of -/
theorem own_fst {AC ST SA SN PR PG : List Int32} {pl : Int32 → Prop} (hP : own_PL [0, 1, 2] AC ST SA SN PR PG 2 pl) {A : Int32} (a0 : 0 ≤ A.toInt) (a1 : A.toInt < 32) (pa : pl A) (t0 : 0 ≤ (gI ST A).toInt) (t1 : (gI ST A).toInt ≤ 1) (k0 : 0 ≤ (gI SA A).toInt) (k1 : (gI SA A).toInt + (gI SN A).toInt ≤ 32) (no : ∀ s, pl s → ¬ own_key SA s < own_key SA A) : gI PR A = gI ST A := by
  have e2 : (2 : Int32).toInt = 2 := rfl
  have ft := own_Ft t0 t1
  have key : ¬ (gI ST A).toInt < (if gI PR A = -1 then (2 : Int32).toInt else (gI PR A).toInt) := by
    intro l
    obtain ⟨n, n0, n1, n2, n3⟩ := hP.f A a0 a1 pa (gI ST A) (by rw [ft]; exact Int.le_refl _) l
    rcases hP.d (gI ST A) n ⟨t0, by omega, by omega, by omega⟩ with q | q
    · exact n2 q
    · exact no _ q.2.2.1 n3
  rcases hP.c A a0 a1 with q | ⟨-, -, q1, q2, q3⟩
  · exfalso
    apply key
    rw [if_pos q, e2]
    omega
  · rw [ft] at q1
    have nm : ¬ gI PR A = -1 := by
      rw [ieq]
      have m1 : (-1 : Int32).toInt = -1 := rfl
      omega
    rw [if_neg nm] at key
    rw [ieq]
    omega
/-- and the one behind it -/
theorem own_snd {AC ST SA SN PR PG : List Int32} {pl : Int32 → Prop} (hP : own_PL [0, 1, 2] AC ST SA SN PR PG 2 pl) {A B : Int32} (b0 : 0 ≤ B.toInt) (b1 : B.toInt < 32) (pb : pl B) (t0 : 0 ≤ (gI ST B).toInt) (t1 : (gI ST B).toInt ≤ 1) (k0 : 0 ≤ (gI SA B).toInt) (k1 : (gI SA B).toInt + (gI SN B).toInt ≤ 32) (a0 : 0 ≤ A.toInt) (a1 : A.toInt < 32) (only : ∀ s, pl s → own_key SA s < own_key SA B → s = A) (nab : ¬ A = B) (ra : gI PR A = gI ST A) (ta0 : 0 ≤ (gI ST A).toInt) (ka0 : 0 ≤ (gI SA A).toInt)
    (ex : ¬ ((gI SA A).toInt < (gI SA B).toInt + (gI SN B).toInt ∧ (gI SA B).toInt < (gI SA A).toInt + (gI SN A).toInt ∧ gI ST A = 1 ∧ gI ST B = 1)) (na : 1 ≤ (gI SN A).toInt) (nb : 1 ≤ (gI SN B).toInt) (kak : (gI SA A).toInt + (gI SN A).toInt ≤ 32) :
    gI PR B = if (gI SA A).toInt < (gI SA B).toInt + (gI SN B).toInt ∧ (gI SA B).toInt < (gI SA A).toInt + (gI SN A).toInt ∧ gI ST A = gI ST B then 1 else gI ST B := by
  have e2 : (2 : Int32).toInt = 2 := rfl
  have o1 : (1 : Int32).toInt = 1 := rfl
  have m1 : (-1 : Int32).toInt = -1 := rfl
  have ft := own_Ft t0 t1
  have blk : ∀ r : Int32, (gI ST B).toInt ≤ r.toInt → r.toInt < 2 → r.toInt < (if gI PR B = -1 then (2 : Int32).toInt else (gI PR B).toInt) → gI PR A = r ∧ (gI SA A).toInt < (gI SA B).toInt + (gI SN B).toInt ∧ (gI SA B).toInt < (gI SA A).toInt + (gI SN A).toInt := by
    intro r r0 r1 l
    obtain ⟨n, n0, n1, n2, n3⟩ := hP.f B b0 b1 pb r (by rw [ft]; exact r0) l
    rcases hP.d r n ⟨by omega, by omega, by omega, by omega⟩ with q | ⟨q1, q2, q3, q4, q5, q6, q7⟩
    · exact absurd q n2
    · have e := only _ q3 n3
      rw [e] at q5 q6 q7
      exact ⟨q5, by omega, by omega⟩
  by_cases c : (gI SA A).toInt < (gI SA B).toInt + (gI SN B).toInt ∧ (gI SA B).toInt < (gI SA A).toInt + (gI SN A).toInt ∧ gI ST A = gI ST B
  · rw [if_pos c]
    obtain ⟨c1, c2, c3⟩ := c
    have tz : (gI ST B).toInt = 0 := by
      have : ¬ (gI ST A = 1 ∧ gI ST B = 1) := fun e => ex ⟨c1, c2, e⟩
      by_cases q : gI ST B = 1
      · exact absurd ⟨by rw [c3]; exact q, q⟩ this
      · rw [ieq, o1] at q
        omega
    rcases hP.c B b0 b1 with q | ⟨-, -, q1, q2, q3⟩
    · exfalso
      have := (blk 1 (by omega) (by omega) (by rw [if_pos q]; decide)).1
      rw [ra, c3, ieq, o1] at this
      omega
    · have nm : ¬ gI PR B = -1 := by rw [ieq]; omega
      have nz : ¬ (gI PR B).toInt = 0 := by
        intro z
        have rz : gI PR B = gI PR A := by rw [ieq, ra, c3]; omega
        have mA : ¬ gI PR A = -1 := by rw [← rz]; exact nm
        have kb := hP.e B b0 b1 nm
        have ka := hP.e A a0 a1 mA
        apply nab
        by_cases l : (gI SA A).toInt ≤ (gI SA B).toInt
        · rw [← ka (gI SA B) l c2, ← rz, kb (gI SA B) (by omega) (by omega)]
        · rw [← ka (gI SA A) (by omega) (by omega), ← rz, kb (gI SA A) (by omega) c1]
      rw [ieq, o1]
      omega
  · rw [if_neg c]
    have key : ¬ (gI ST B).toInt < (if gI PR B = -1 then (2 : Int32).toInt else (gI PR B).toInt) := by
      intro l
      obtain ⟨q1, q2, q3⟩ := blk (gI ST B) (by omega) (by omega) l
      exact c ⟨q2, q3, by rw [← ra, q1]⟩
    rcases hP.c B b0 b1 with q | ⟨-, -, q1, q2, q3⟩
    · exfalso
      apply key
      rw [if_pos q, e2]
      omega
    · rw [ft] at q1
      have nm : ¬ gI PR B = -1 := by rw [ieq]; omega
      rw [if_neg nm] at key
      rw [ieq]
      omega
/-- the plan's order holds just the active ones -/
theorem own_ord {AC SA PO : List Int32} {n : Int32} (hO : own_O AC SA PO n 1024) (two : ∀ s : Int32, 0 ≤ s.toInt → s.toInt < 32 → ¬ gI AC s = 0 → s = 0 ∨ s = 1) : (∀ s : Int32, (∃ j : Int32, 0 ≤ j.toInt ∧ j.toInt < n.toInt ∧ gI PO j = s) → (s = 0 ∨ s = 1) ∧ ¬ gI AC s = 0) ∧ ∀ s : Int32, 0 ≤ s.toInt → s.toInt < 32 → ¬ gI AC s = 0 → own_key SA s < 1024 → ∃ j : Int32, 0 ≤ j.toInt ∧ j.toInt < n.toInt ∧ gI PO j = s := by
  have p1 : ∀ s : Int32, (∃ j : Int32, 0 ≤ j.toInt ∧ j.toInt < n.toInt ∧ gI PO j = s) → (s = 0 ∨ s = 1) ∧ ¬ gI AC s = 0 := by
    rintro s ⟨j, j0, j1, rfl⟩
    obtain ⟨q1, q2, q3, q4⟩ := hO.a j j0 j1
    exact ⟨two _ q1 q2 q3, q3⟩
  refine ⟨p1, fun s s0 s1 sa sk => ?_⟩
  rcases hO.c s s0 s1 sa sk with q | q
  · exfalso
    have e0 : (0 : Int32).toInt = 0 := rfl
    have e1 : (1 : Int32).toInt = 1 := rfl
    have e2 : (2 : Int32).toInt = 2 := rfl
    have k1 := hO.s 0 1 (by decide) (by decide) (by omega)
    have k2 := hO.s 1 2 (by decide) (by decide) (by omega)
    have w0 := (p1 (gI PO 0) ⟨0, by decide, by omega, rfl⟩).1
    have w1 := (p1 (gI PO 1) ⟨1, by decide, by omega, rfl⟩).1
    have w2 := (p1 (gI PO 2) ⟨2, by decide, by omega, rfl⟩).1
    rcases w0 with a | a <;> rcases w1 with b | b <;> rcases w2 with c | c <;> rw [a, b] at k1 <;> rw [b, c] at k2 <;> omega
  · exact q
theorem own_roomA {AC ST SA SN EX AL PR : List Int32} (h : own_PS AC ST SA SN EX AL) (lR : PR.length = 32) {s : Int32} (s0 : 0 ≤ s.toInt) (s1 : s.toInt < 32) (a : gI AC s = 1) : f_roomOf AC PR 1 s = some (gI PR s) := by
  unfold f_roomOf
  rcases own_act01 h s with ⟨e, z⟩ | ⟨e, -⟩
  · have := z s0 s1
    rw [a] at this
    exact absurd this (by decide)
  · rw [e, Option.bind_some, if_neg (by decide), if_neg (by decide), rdg s0 (by omega), Option.bind_some]
theorem own_roomN {AC ST SA SN EX AL PR : List Int32} (h : own_PS AC ST SA SN EX AL) {s : Int32} (a : gI AC s = 0) : f_roomOf AC PR 1 s = some (-1) := by
  unfold f_roomOf
  rcases own_act01 h s with ⟨e, z⟩ | ⟨e, _, _, z, _⟩
  · rw [e, Option.bind_some, if_pos rfl]
  · rw [a] at z
    exact absurd z (by decide)
theorem own_occX {PG : List Int32} (lG : PG.length = 768) {x n : Int32} (x0 : 0 ≤ x.toInt) (x1 : x.toInt < 2) (n0 : 0 ≤ n.toInt) (n1 : n.toInt < 32) : f_occupant PG 2 1 x n = some (gI PG (x * 32 + n)) := by
  have e0 : (0 : Int32).toInt = 0 := rfl
  have e2 : (2 : Int32).toInt = 2 := rfl
  have e24 : (24 : Int32).toInt = 24 := rfl
  have e32 : (32 : Int32).toInt = 32 := rfl
  unfold f_occupant f_isValidRoom f_isValidNight
  rw [if_neg (by rw [ilt]; omega), if_pos (by rw [ilt]; omega), if_pos (by rw [ilt]; omega), Option.bind_some, if_neg (by decide), if_neg (by rw [ilt]; omega), if_pos (by rw [ilt]; omega), Option.bind_some, if_neg (by decide), if_neg (by decide), own_gaX lG ⟨x0, by omega, n0, n1⟩, Option.bind_some]
theorem own_335 {PG : List Int32} (lG : PG.length = 768) {b0 e0 e1 v18 : Int32} (n0 : 0 ≤ b0.toInt) (n1 : b0.toInt < 32) (hx : ∀ x : Int32, 0 ≤ x.toInt → x.toInt < 2 → gI PG (x * 32 + b0) = (if e0 = x then 0 else (if v18 = 0 then -1 else (if e1 = x then 1 else -1)))) : ∀ (n : Nat) (x : Int32), 0 ≤ x.toInt → x.toInt ≤ 2 → 2 - x.toInt < n → f_L_law_335 n PG 2 1 b0 e0 e1 v18 x = some 1 := by
  intro n
  induction n with
  | zero => intro x h0 h1 h2; exfalso; omega
  | succ n ih =>
    intro x h0 h1 h2
    unfold f_L_law_335
    by_cases g : x < 2
    · have g' : x.toInt < 2 := ilt.mp g
      have ex : (x + 1).toInt = x.toInt + 1 := by
        have o : (1 : Int32).toInt = 1 := rfl
        rw [iadd_i (by omega) (by omega), o]
      rw [if_pos g]
      unfold f_L_law_375
      rw [own_occX lG h0 g' n0 n1, Option.bind_some, if_pos (hx x h0 g')]
      exact ih (x + 1) (by omega) (by omega) (by omega)
    · rw [if_neg g]
/-- the law's end -/
theorem own_257 {AC ST SA SN EX AL PR PG PO : List Int32} (h : own_PS AC ST SA SN EX AL) (lR : PR.length = 32) (lG : PG.length = 768) (lO : PO.length = 32) (pol pc pu s0 b0 n0 s1 b1 n1 bk e0 e1 : Int32) (hs0 : 0 ≤ s0.toInt ∧ s0.toInt ≤ 1) (hb0 : 0 ≤ b0.toInt) (hn0 : 1 ≤ n0.toInt ∧ b0.toInt + n0.toInt ≤ 32) (hs1 : 0 ≤ s1.toInt ∧ s1.toInt ≤ 1) (hb1 : 0 ≤ b1.toInt) (hn1 : 1 ≤ n1.toInt ∧ b1.toInt + n1.toInt ≤ 32)
    (q0 : gI AC 0 = 1 ∧ gI ST 0 = s0 ∧ gI SA 0 = b0 ∧ gI SN 0 = n0) (two : ∀ s : Int32, 0 ≤ s.toInt → s.toInt < 32 → ¬ gI AC s = 0 → s = 0 ∨ s = 1)
    (q1 : (bk = 0 ∧ gI AC 1 = 0 ∧ e0 = s0 ∧ e1 = -1) ∨ (bk = 1 ∧ gI AC 1 = 1 ∧ gI ST 1 = s1 ∧ gI SA 1 = b1 ∧ gI SN 1 = n1 ∧ ¬ (b0.toInt < b1.toInt + n1.toInt ∧ b1.toInt < b0.toInt + n0.toInt ∧ s0 = 1 ∧ s1 = 1) ∧ ((b0.toInt ≤ b1.toInt ∧ e0 = s0 ∧ e1 = if b0.toInt < b1.toInt + n1.toInt ∧ b1.toInt < b0.toInt + n0.toInt ∧ s0 = s1 then 1 else s1) ∨ (b1.toInt < b0.toInt ∧ e1 = s1 ∧ e0 = if b1.toInt < b0.toInt + n0.toInt ∧ b0.toInt < b1.toInt + n1.toInt ∧ s1 = s0 then 1 else s0)))) :
    f_L_law_257 [0, 1, 2] AC ST SA SN PR PG PO 2 pol pc pu b0 b1 n1 bk e0 e1 = some 1 := by
  have z0 : (0 : Int32).toInt = 0 := rfl
  have o1 : (1 : Int32).toInt = 1 := rfl
  have m1 : (-1 : Int32).toInt = -1 := rfl
  unfold f_L_law_257
  obtain ⟨⟨r, A, B, Cc, D, E, G⟩, ea, l1, pcE, PO', n', hO, hP, hu⟩ := own_assignX h own_F2 (tot := 2) (by decide) pol pc pu lR lG lO
  simp only at l1 pcE hP hu
  rw [ea, Option.bind_some]
  obtain ⟨pl1, pl2⟩ := own_ord hO two
  have k0 : own_key SA 0 = b0.toInt * 32 := by unfold own_key; rw [q0.2.2.1, z0, Int.add_zero]
  have p0 := pl2 0 (by decide) (by decide) (by rw [q0.1]; decide) (by rw [k0]; omega)
  have act0 : f_roomOf AC A 1 0 = some (gI A 0) := own_roomA h hP.a (by decide) (by decide) q0.1
  have iA : f_isAssigned 1 = some 1 := rfl
  -- the rooms
  have rooms : gI A 0 = e0 ∧ f_roomOf AC A 1 1 = some e1 ∧ (bk = 0 ∨ gI A 1 = e1) ∧ (∀ s : Int32, (∃ j : Int32, 0 ≤ j.toInt ∧ j.toInt < n'.toInt ∧ gI PO' j = s) → ¬ gI A s = -1) := by
    rcases q1 with ⟨hb, a1, he0, he1⟩ | ⟨hb, a1, t1, sa1, sn1, ex, ord⟩
    · have only : ∀ s : Int32, (∃ j : Int32, 0 ≤ j.toInt ∧ j.toInt < n'.toInt ∧ gI PO' j = s) → s = 0 := by
        intro s hs
        obtain ⟨c1, c2⟩ := pl1 s hs
        rcases c1 with c | c
        · exact c
        · rw [c, a1] at c2; exact absurd rfl c2
      have f0 := own_fst hP (A := 0) (by decide) (by decide) p0 (by rw [q0.2.1]; exact hs0.1) (by rw [q0.2.1]; exact hs0.2) (by rw [q0.2.2.1]; exact hb0) (by rw [q0.2.2.1, q0.2.2.2]; exact hn0.2) (fun s hs => by rw [only s hs]; omega)
      rw [q0.2.1] at f0
      refine ⟨by rw [f0, he0], by rw [own_roomN h a1, he1], Or.inl hb, fun s hs => ?_⟩
      rw [only s hs, f0, ieq, m1]
      omega
    · have k1 : own_key SA 1 = b1.toInt * 32 + 1 := by unfold own_key; rw [sa1, o1]
      have p1 := pl2 1 (by decide) (by decide) (by rw [a1]; decide) (by rw [k1]; omega)
      have act1 : f_roomOf AC A 1 1 = some (gI A 1) := own_roomA h hP.a (by decide) (by decide) a1
      have n01 : ¬ (0 : Int32) = 1 := by decide
      have n10 : ¬ (1 : Int32) = 0 := by decide
      rcases ord with ⟨o, he0, he1⟩ | ⟨o, he1, he0⟩
      · have f0 := own_fst hP (A := 0) (by decide) (by decide) p0 (by rw [q0.2.1]; exact hs0.1) (by rw [q0.2.1]; exact hs0.2) (by rw [q0.2.2.1]; exact hb0) (by rw [q0.2.2.1, q0.2.2.2]; exact hn0.2) (fun s hs => by
          rcases (pl1 s hs).1 with c | c
          · rw [c]; omega
          · rw [c, k0, k1]; omega)
        have f1 := own_snd hP (A := 0) (B := 1) (by decide) (by decide) p1 (by rw [t1]; exact hs1.1) (by rw [t1]; exact hs1.2) (by rw [sa1]; exact hb1) (by rw [sa1, sn1]; exact hn1.2) (by decide) (by decide) (fun s hs hk => by
          rcases (pl1 s hs).1 with c | c
          · exact c
          · rw [c] at hk; omega) n01 f0 (by rw [q0.2.1]; exact hs0.1) (by rw [q0.2.2.1]; exact hb0) (by rw [q0.2.2.1, q0.2.2.2, q0.2.1, sa1, sn1, t1]; exact ex) (by rw [q0.2.2.2]; exact hn0.1) (by rw [sn1]; exact hn1.1) (by rw [q0.2.2.1, q0.2.2.2]; exact hn0.2)
        rw [q0.2.2.1, q0.2.2.2, q0.2.1, sa1, sn1, t1] at f1
        rw [q0.2.1] at f0
        have e1r : 0 ≤ e1.toInt := by
          rw [he1]
          split
          · decide
          · exact hs1.1
        refine ⟨by rw [f0, he0], by rw [act1, f1, ← he1], Or.inr (by rw [f1, ← he1]), fun s hs => ?_⟩
        rcases (pl1 s hs).1 with c | c
        · rw [c, f0, ieq, m1]; omega
        · rw [c, f1, ← he1, ieq, m1]; omega
      · have f1 := own_fst hP (A := 1) (by decide) (by decide) p1 (by rw [t1]; exact hs1.1) (by rw [t1]; exact hs1.2) (by rw [sa1]; exact hb1) (by rw [sa1, sn1]; exact hn1.2) (fun s hs => by
          rcases (pl1 s hs).1 with c | c
          · rw [c, k0, k1]; omega
          · rw [c]; omega)
        have f0 := own_snd hP (A := 1) (B := 0) (by decide) (by decide) p0 (by rw [q0.2.1]; exact hs0.1) (by rw [q0.2.1]; exact hs0.2) (by rw [q0.2.2.1]; exact hb0) (by rw [q0.2.2.1, q0.2.2.2]; exact hn0.2) (by decide) (by decide) (fun s hs hk => by
          rcases (pl1 s hs).1 with c | c
          · rw [c] at hk; omega
          · exact c) n10 f1 (by rw [t1]; exact hs1.1) (by rw [sa1]; exact hb1) (by
            rw [q0.2.2.1, q0.2.2.2, q0.2.1, sa1, sn1, t1]
            rintro ⟨x1, x2, x3, x4⟩
            exact ex ⟨x2, x1, x4, x3⟩) (by rw [sn1]; exact hn1.1) (by rw [q0.2.2.2]; exact hn0.1) (by rw [sa1, sn1]; exact hn1.2)
        rw [q0.2.2.1, q0.2.2.2, q0.2.1, sa1, sn1, t1] at f0
        rw [t1] at f1
        have e0r : 0 ≤ e0.toInt := by
          rw [he0]
          split
          · decide
          · exact hs0.1
        refine ⟨by rw [f0, ← he0], by rw [act1, f1, ← he1], Or.inr (by rw [f1, ← he1]), fun s hs => ?_⟩
        rcases (pl1 s hs).1 with c | c
        · rw [c, f0, ← he0, ieq, m1]; omega
        · rw [c, f1, ieq, m1]; omega
  obtain ⟨r0, r1, r1b, rn⟩ := rooms
  have rz : r = 0 := by
    rcases hu with q | ⟨s, _, _, hs, hm⟩
    · exact q
    · exact absurd hm (rn s hs)
  subst rz
  subst pcE
  show (if (0 : Int32) = 0 then _ else _) = _
  rw [if_pos rfl, iA, Option.bind_some, if_neg (by decide), act0, Option.bind_some, if_pos r0, r1, Option.bind_some, if_pos rfl]
  have c0 : ∀ n : Int32, b0.toInt ≤ n.toInt → n.toInt < b0.toInt + n0.toInt → gI B (gI A 0 * 32 + n) = 0 := fun n x1 x2 => hP.e 0 (by decide) (by decide) (rn 0 p0) n (by rw [q0.2.2.1]; exact x1) (by rw [q0.2.2.1, q0.2.2.2]; exact x2)
  have es : (b1 + n1).toInt = b1.toInt + n1.toInt := iadd_i (by omega) (by omega)
  have hV : ((if bk = 0 then (0 : Int32) else (if b0 < b1 then 0 else (if b0 < b1 + n1 then 1 else 0))) = 0 ∧ ¬ (¬ bk = 0 ∧ b1.toInt ≤ b0.toInt ∧ b0.toInt < b1.toInt + n1.toInt)) ∨ ((if bk = 0 then (0 : Int32) else (if b0 < b1 then 0 else (if b0 < b1 + n1 then 1 else 0))) = 1 ∧ (¬ bk = 0 ∧ b1.toInt ≤ b0.toInt ∧ b0.toInt < b1.toInt + n1.toInt)) := by
    by_cases g0 : bk = 0
    · rw [if_pos g0]; exact Or.inl ⟨rfl, fun q => q.1 g0⟩
    · rw [if_neg g0]
      by_cases g1 : b0 < b1
      · rw [if_pos g1]
        rw [ilt] at g1
        exact Or.inl ⟨rfl, fun q => by omega⟩
      · rw [if_neg g1]
        rw [ilt] at g1
        by_cases g2 : b0 < b1 + n1
        · rw [if_pos g2]
          rw [ilt] at g2
          exact Or.inr ⟨rfl, g0, by omega, by omega⟩
        · rw [if_neg g2]
          rw [ilt] at g2
          exact Or.inl ⟨rfl, fun q => by omega⟩
  generalize (if bk = 0 then (0 : Int32) else (if b0 < b1 then 0 else (if b0 < b1 + n1 then 1 else 0))) = V at *
  refine own_335 hP.b hb0 (by omega) (fun x x0 x1 => ?_) 100000 0 (by decide) (by decide) (by decide)
  by_cases c : e0 = x
  · rw [if_pos c, ← c, ← r0]
    exact c0 b0 (by omega) (by omega)
  · rw [if_neg c]
    rcases hP.d x b0 ⟨x0, by omega, hb0, by omega⟩ with q | ⟨w1, w2, w3, w4, w5, w6, w7⟩
    · rw [q]
      rcases hV with ⟨hv, _⟩ | ⟨hv, hv1, cv⟩
      · rw [if_pos hv]
      · rw [if_neg (by rw [hv]; decide), if_neg]
        intro e1x
        rcases q1 with ⟨hb, _⟩ | ⟨hb, a1, t1, sa1, sn1, _⟩
        · exact hv1 hb
        · have e1e : gI A 1 = e1 := by
            rcases r1b with y | y
            · exact absurd y hv1
            · exact y
          have k1 : own_key SA 1 = b1.toInt * 32 + 1 := by unfold own_key; rw [sa1, o1]
          have p1 := pl2 1 (by decide) (by decide) (by rw [a1]; decide) (by rw [k1]; omega)
          have := hP.e 1 (by decide) (by decide) (rn 1 p1) b0 (by rw [sa1]; exact cv.1) (by rw [sa1, sn1]; exact cv.2)
          rw [e1e, e1x, q] at this
          exact absurd this (by decide)
    · generalize gI B (x * 32 + b0) = s at *
      rcases (pl1 s w3).1 with y | y
      · exfalso
        rw [y, r0] at w5
        exact c w5
      · rw [y] at w4 w5 w6 w7
        rcases q1 with ⟨_, a1, _⟩ | ⟨hb, a1, t1, sa1, sn1, _⟩
        · rw [a1] at w4
          exact absurd w4 (by decide)
        · have nb : ¬ bk = 0 := by rw [hb]; decide
          have e1e : gI A 1 = e1 := by
            rcases r1b with u | u
            · exact absurd u nb
            · exact u
          rw [sa1] at w6
          rw [sa1, sn1] at w7
          rcases hV with ⟨_, hv⟩ | ⟨hv, _⟩
          · exact absurd ⟨nb, w6, w7⟩ hv
          · rw [y, if_neg (by rw [hv]; decide), if_pos (by rw [← e1e]; exact w5)]
/-- the ranges of what the law draws -/
theorem own_dr (b k : Int32) (b0 : 0 ≤ b.toInt) (b1 : b.toInt ≤ 31) : ¬ (32 - b) = 0 ∧ 1 ≤ (1 + ((k &&& 2147483647) % (32 - b))).toInt ∧ b.toInt + (1 + ((k &&& 2147483647) % (32 - b))).toInt ≤ 32 := by
  have e32 : (32 : Int32).toInt = 32 := rfl
  have o1 : (1 : Int32).toInt = 1 := rfl
  have z0 : (0 : Int32).toInt = 0 := rfl
  have es : (32 - b).toInt = 32 - b.toInt := by rw [isub_i (by omega) (by omega), e32]
  have rk := iand_rng k 2147483647 (by decide)
  have em : ((k &&& 2147483647) % (32 - b)).toInt = (k &&& 2147483647).toInt % (32 - b.toInt) := by rw [Int32.toInt_mod, Int.tmod_eq_emod_of_nonneg rk.1, es]
  have m0 := Int.emod_nonneg (k &&& 2147483647).toInt (show (32 - b.toInt) ≠ 0 by omega)
  have m1 := Int.emod_lt_of_pos (k &&& 2147483647).toInt (show 0 < 32 - b.toInt by omega)
  have ea : (1 + ((k &&& 2147483647) % (32 - b))).toInt = 1 + (k &&& 2147483647).toInt % (32 - b.toInt) := by rw [iadd_i (by rw [em]; omega) (by rw [em]; omega), em, o1]
  refine ⟨by rw [ieq, es, z0]; omega, ?_, ?_⟩
  · rw [ea]; omega
  · rw [ea]; omega
theorem own_bit (v : Int32) : 0 ≤ (v &&& 1).toInt ∧ (v &&& 1).toInt ≤ 1 := by
  have := iand_rng v 1 (by decide)
  have o1 : (1 : Int32).toInt = 1 := rfl
  omega
theorem own_true (v0 v1 v2 v3 v4 v5 : Int32) : f_L_law v0 v1 v2 v3 v4 v5 = some 1 := by
  have z0 : (0 : Int32).toInt = 0 := rfl
  have o1 : (1 : Int32).toInt = 1 := rfl
  have o2 : (2 : Int32).toInt = 2 := rfl
  have o31 : (31 : Int32).toInt = 31 := rfl
  have m4 : (-4 : Int32).toInt = -4 := rfl
  have hs0 := own_bit v0
  have hs1 := own_bit v3
  have rb0 := iand_rng v1 31 (by decide)
  have rb1 := iand_rng v4 31 (by decide)
  have d0 := own_dr (v1 &&& 31) v2 rb0.1 (by omega)
  have d1 := own_dr (v4 &&& 31) v5 rb1.1 (by omega)
  unfold f_L_law
  rw [if_neg d0.1, if_neg d1.1]
  generalize v0 &&& 1 = s0 at *
  generalize v3 &&& 1 = s1 at *
  generalize 1 + ((v2 &&& 2147483647) % (32 - (v1 &&& 31))) = n0 at *
  generalize 1 + ((v5 &&& 2147483647) % (32 - (v4 &&& 31))) = n1 at *
  generalize v1 &&& 31 = b0 at *
  generalize v4 &&& 31 = b1 at *
  obtain ⟨-, hn0a, hn0b⟩ := d0
  obtain ⟨-, hn1a, hn1b⟩ := d1
  have hn0 : 1 ≤ n0.toInt ∧ b0.toInt + n0.toInt ≤ 32 := ⟨hn0a, hn0b⟩
  have hn1 : 1 ≤ n1.toInt ∧ b1.toInt + n1.toInt ≤ 32 := ⟨hn1a, hn1b⟩
  have e : f_init 1 1 0 = some ([1, 1, 0], [2, 1, 0], [0, 1, 2], List.replicate 32 0, List.replicate 32 0, List.replicate 32 0, List.replicate 32 0, List.replicate 96 0, List.replicate 96 0, List.replicate 32 (-1), List.replicate 768 (-1), List.replicate 32 0, 2, 0, 0, 0, 0) := own_init 1 1 0
  obtain ⟨hP, hC⟩ := own_start
  have m32 : (List.replicate 32 (-1 : Int32)).length = 32 := List.length_replicate
  have l32 : (List.replicate 32 (0 : Int32)).length = 32 := List.length_replicate
  have l768 : (List.replicate 768 (-1 : Int32)).length = 768 := List.length_replicate
  have zz : ∀ i : Int32, 0 ≤ i.toInt → i.toInt < 32 → gI (List.replicate 32 (0 : Int32)) i = 0 := fun i a b => gI_rep a b
  have z96 : ∀ w m : Int32, own_wn w m → gI (List.replicate 96 (0 : Int32)) (w * 32 + m) = 0 := by
    intro w m hw
    have ei := own_wx hw
    obtain ⟨p1, p2, p3, p4⟩ := hw
    exact gI_rep (by omega) (by omega)
  rw [e, Option.bind_some]
  generalize List.replicate 32 (0 : Int32) = Z at *
  generalize List.replicate 96 (0 : Int32) = Z9 at *
  generalize List.replicate 32 (-1 : Int32) = PR at *
  generalize List.replicate 768 (-1 : Int32) = PG at *
  have es0 : (b0 + n0).toInt = b0.toInt + n0.toInt := iadd_i (by omega) (by omega)
  have es1 : (b1 + n1).toInt = b1.toInt + n1.toInt := iadd_i (by omega) (by omega)
  have R0 : gI [2, 1, 0] 0 = 2 := rfl
  have R1 : gI [2, 1, 0] 1 = 1 := rfl
  have w01 : ∀ w : Int32, 0 ≤ w.toInt → w.toInt ≤ 1 → w = 0 ∨ w = 1 := by
    intro w a b
    simp only [ieq, Int32.reduceToInt]
    omega
  -- the first booking
  rcases own_bookY hP hC (R := [2, 1, 0]) rfl (t := s0) (a := b0) (k := n0) hs0.1 (by omega) rb0.1 hn0.1 hn0.2 with ⟨c, _⟩ | ⟨_, c, _⟩ | ⟨_, _, id, EX1, AL1, i0, i1, iz, il, cv1, bk1⟩
  · exact absurd (by decide) c
  · exfalso
    apply c
    intro n w n0' n1' w0 w1
    show ¬ gI [2, 1, 0] w < gI Z9 (w * 32 + n) - 0 + 1
    rw [z96 w n ⟨w0, by omega, by omega, by omega⟩]
    rcases w01 w w0 (by omega) with rfl | rfl
    · rw [R0]; decide
    · rw [R1]; decide
  · have id0 : id = 0 := by
      by_cases c : id.toInt = 0
      · rw [ieq, z0]; exact c
      · exact absurd (zz 0 (by decide) (by decide)) (il 0 (by decide) (by omega))
    subst id0
    show Option.bind (f_book [2, 1, 0] Z Z Z Z Z9 Z9 0 0 s0 b0 n0) _ = _
    rw [bk1 0, Option.bind_some]
    show (if (0 : Int32) = 0 then _ else _) = _
    rw [if_pos rfl]
    have hP1 := own_put hP (t := s0) (a := b0) (k := n0) i0 i1 hs0.1 (by omega) rb0.1 hn0.1 hn0.2 cv1.1 cv1.2.1
    have hC1 := own_C_book hP hC i0 i1 iz hs0.1 (by omega) rb0.1 hn0.1 hn0.2 cv1
    have g1 : ∀ (x i : Int32), 0 ≤ i.toInt → i.toInt < 32 → gI (Z.set (0 : Int32).toInt.toNat x) i = if (0 : Int32) = i then x else 0 := fun x i p q => by rw [own_gs l32 i0 i1 p, zz i p q]
    generalize hAC : Z.set (0 : Int32).toInt.toNat 1 = AC at *
    generalize hST : Z.set (0 : Int32).toInt.toNat s0 = ST at *
    generalize hSA : Z.set (0 : Int32).toInt.toNat b0 = SA at *
    generalize hSN : Z.set (0 : Int32).toInt.toNat n0 = SN at *
    have gAC : ∀ i : Int32, 0 ≤ i.toInt → i.toInt < 32 → gI AC i = if (0 : Int32) = i then 1 else 0 := fun i p q => by rw [← hAC]; exact g1 1 i p q
    have gST : gI ST 0 = s0 := by rw [← hST, g1 s0 0 (by decide) (by decide), if_pos rfl]
    have gSA : gI SA 0 = b0 := by rw [← hSA, g1 b0 0 (by decide) (by decide), if_pos rfl]
    have gSN : gI SN 0 = n0 := by rw [← hSN, g1 n0 0 (by decide) (by decide), if_pos rfl]
    have al1 : ∀ w m : Int32, own_wn w m → gI AL1 (w * 32 + m) = if w.toInt ≤ s0.toInt ∧ b0.toInt ≤ m.toInt ∧ m.toInt < b0.toInt + n0.toInt then 1 else 0 := fun w m hw => by
      rw [(cv1.2.2 w m hw).2, z96 w m hw, es0, Int32.zero_add]
    unfold f_L_law_105 f_L_law_129
    -- the overlap, as the law has it
    have ov : (if b0 < b1 + n1 then (if b1 < b0 + n0 then (1 : Int32) else 0) else 0) = if b0.toInt < b1.toInt + n1.toInt ∧ b1.toInt < b0.toInt + n0.toInt then 1 else 0 := by
      by_cases g : b0 < b1 + n1
      · rw [if_pos g]
        rw [ilt, es1] at g
        by_cases g2 : b1 < b0 + n0
        · rw [if_pos g2]
          rw [ilt, es0] at g2
          rw [if_pos ⟨g, g2⟩]
        · rw [if_neg g2]
          rw [ilt, es0] at g2
          rw [if_neg (fun q => g2 q.2)]
      · rw [if_neg g]
        rw [ilt, es1] at g
        rw [if_neg (fun q => g q.1)]
    rw [ov]
    have p0 : f_isAssigned 0 = some 0 := rfl
    have hfin : ∀ (r : Int32) (AC2 ST2 SA2 SN2 EX2 AL2 : List Int32) (nn : Int32), own_PS AC2 ST2 SA2 SN2 EX2 AL2 → gI AC2 0 = 1 ∧ gI ST2 0 = s0 ∧ gI SA2 0 = b0 ∧ gI SN2 0 = n0 → (∀ s : Int32, 0 ≤ s.toInt → s.toInt < 32 → ¬ gI AC2 s = 0 → s = 0 ∨ s = 1) →
        ((b0.toInt < b1.toInt + n1.toInt ∧ b1.toInt < b0.toInt + n0.toInt ∧ s0 = 1 ∧ s1 = 1) ∧ r = -4 ∧ gI AC2 1 = 0 ∨ ¬ (b0.toInt < b1.toInt + n1.toInt ∧ b1.toInt < b0.toInt + n0.toInt ∧ s0 = 1 ∧ s1 = 1) ∧ r = 1 ∧ gI AC2 1 = 1 ∧ gI ST2 1 = s1 ∧ gI SA2 1 = b1 ∧ gI SN2 1 = n1) →
        f_L_law_157 [0, 1, 2] AC2 ST2 SA2 SN2 PR PG Z 2 0 0 0 s0 b0 s1 b1 n1 (if b0.toInt < b1.toInt + n1.toInt ∧ b1.toInt < b0.toInt + n0.toInt then 1 else 0) (if (if b0.toInt < b1.toInt + n1.toInt ∧ b1.toInt < b0.toInt + n0.toInt then (1 : Int32) else 0) = 0 then 1 else (if s0 = 1 then (if s1 = 1 then 0 else 1) else 1)) (if (if (if b0.toInt < b1.toInt + n1.toInt ∧ b1.toInt < b0.toInt + n0.toInt then (1 : Int32) else 0) = 0 then (1 : Int32) else (if s0 = 1 then (if s1 = 1 then 0 else 1) else 1)) = 0 then -4 else 1) r = some 1 := by
      intro r AC2 ST2 SA2 SN2 EX2 AL2 nn hp q0 two hb
      unfold f_L_law_157
      by_cases o : b0.toInt < b1.toInt + n1.toInt ∧ b1.toInt < b0.toInt + n0.toInt
      · by_cases t0 : s0 = 1
        · by_cases t1 : s1 = 1
          · rcases hb with ⟨_, hr, ha⟩ | ⟨hn, _⟩
            · simp only [if_pos o, if_pos t0, if_pos t1, hr, p0, Option.bind_some, show ¬ (1 : Int32) = 0 by decide, if_false, if_true]
              exact own_257 hp m32 l768 l32 0 0 0 s0 b0 n0 s1 b1 n1 0 s0 (-1) hs0 rb0.1 hn0 hs1 rb1.1 hn1 q0 two (Or.inl ⟨rfl, ha, rfl, rfl⟩)
            · exact absurd ⟨o.1, o.2, t0, t1⟩ hn
          · rcases hb with ⟨hn, _⟩ | ⟨hn, hr, h1, h2, h3, h4⟩
            · exact absurd hn.2.2.2 t1
            · have s1z : s1 = 0 := by rw [ieq, o1] at t1; rw [ieq, z0]; omega
              simp only [if_pos o, if_pos t0, if_neg t1, hr, p0, Option.bind_some, show ¬ (1 : Int32) = 0 by decide, if_false, if_true]
              refine own_257 hp m32 l768 l32 0 0 0 s0 b0 n0 s1 b1 n1 1 _ _ hs0 rb0.1 hn0 hs1 rb1.1 hn1 q0 two (Or.inr ⟨rfl, h1, h2, h3, h4, hn, ?_⟩)
              have ne : ¬ s0 = s1 := by rw [t0, s1z]; decide
              by_cases l : b1 < b0
              · right
                rw [if_pos l, if_pos l, if_neg (fun q => ne q.2.2.symm)]
                rw [ilt] at l
                exact ⟨l, rfl, t0.symm⟩
              · left
                rw [if_neg l, if_neg l]
                rw [ilt] at l
                refine ⟨by omega, rfl, ?_⟩
                rw [if_neg (show ¬ s0 = 0 by rw [t0]; decide), if_neg (show ¬ (b0.toInt < b1.toInt + n1.toInt ∧ b1.toInt < b0.toInt + n0.toInt ∧ s0 = s1) from fun q => ne q.2.2), s1z]
        · rcases hb with ⟨hn, _⟩ | ⟨hn, hr, h1, h2, h3, h4⟩
          · exact absurd hn.2.2.1 t0
          · have s0z : s0 = 0 := by rw [ieq, o1] at t0; rw [ieq, z0]; omega
            simp only [if_pos o, if_neg t0, hr, p0, Option.bind_some, show ¬ (1 : Int32) = 0 by decide, if_false, if_true]
            refine own_257 hp m32 l768 l32 0 0 0 s0 b0 n0 s1 b1 n1 1 _ _ hs0 rb0.1 hn0 hs1 rb1.1 hn1 q0 two (Or.inr ⟨rfl, h1, h2, h3, h4, hn, ?_⟩)
            by_cases l : b1 < b0
            · right
              rw [if_pos l, if_pos l]
              rw [ilt] at l
              refine ⟨l, rfl, ?_⟩
              by_cases t1 : s1 = 0
              · rw [if_pos t1, if_pos ⟨o.2, o.1, by rw [t1, s0z]⟩]
              · rw [if_neg t1, if_neg (fun q => t1 (by rw [q.2.2, s0z])), s0z]
            · left
              rw [if_neg l, if_neg l]
              rw [ilt] at l
              refine ⟨by omega, rfl, ?_⟩
              by_cases t1 : s1 = 1
              · rw [if_pos t1, if_neg (fun q => t0 (by rw [q.2.2, t1])), t1]
              · have s1z : s1 = 0 := by rw [ieq, o1] at t1; rw [ieq, z0]; omega
                rw [if_neg t1, if_pos s0z, if_pos ⟨o.1, o.2, by rw [s0z, s1z]⟩]
      · rcases hb with ⟨hn, _⟩ | ⟨hn, hr, h1, h2, h3, h4⟩
        · exact absurd ⟨hn.1, hn.2.1⟩ o
        · simp only [if_neg o, hr, p0, Option.bind_some, show ¬ (1 : Int32) = 0 by decide, if_false, if_true]
          refine own_257 hp m32 l768 l32 0 0 0 s0 b0 n0 s1 b1 n1 1 _ _ hs0 rb0.1 hn0 hs1 rb1.1 hn1 q0 two (Or.inr ⟨rfl, h1, h2, h3, h4, hn, ?_⟩)
          by_cases l : b0.toInt ≤ b1.toInt
          · left
            exact ⟨l, rfl, by rw [if_neg (fun q => o ⟨q.1, q.2.1⟩)]⟩
          · right
            exact ⟨by omega, rfl, by rw [if_neg (fun q => o ⟨q.2.1, q.1⟩)]⟩
    -- the second booking
    rcases own_bookY hP1 hC1 (R := [2, 1, 0]) rfl (t := s1) (a := b1) (k := n1) hs1.1 (by omega) rb1.1 hn1.1 hn1.2 with ⟨c, _⟩ | ⟨_, c, bk2⟩ | ⟨_, c, id, EX2, AL2, j0, j1, jz, jl, cv2, bk2⟩
    · exact absurd (by decide) c
    · rw [bk2 0, Option.bind_some]
      refine hfin (-4) AC ST SA SN EX1 AL1 0 hP1 ⟨by rw [gAC 0 (by decide) (by decide), if_pos rfl], gST, gSA, gSN⟩ (fun s p q a => ?_) (Or.inl ⟨?_, rfl, ?_⟩)
      · rw [gAC s p q] at a
        by_cases k : (0 : Int32) = s
        · exact Or.inl k.symm
        · rw [if_neg k] at a; exact absurd rfl a
      · by_cases k : b0.toInt < b1.toInt + n1.toInt ∧ b1.toInt < b0.toInt + n0.toInt ∧ s0 = 1 ∧ s1 = 1
        · exact k
        · exfalso
          apply c
          intro n w n0' n1' w0 w1
          rw [es1] at n1'
          show ¬ gI [2, 1, 0] w < gI AL1 (w * 32 + n) - 0 + 1
          rw [al1 w n ⟨w0, by omega, by omega, by omega⟩]
          rcases w01 w w0 (by omega) with rfl | rfl
          · rw [R0]
            split <;> decide
          · rw [R1, if_neg]
            · decide
            · rintro ⟨x1, x2, x3⟩
              apply k
              refine ⟨by omega, by omega, ?_, ?_⟩
              · rw [ieq]; omega
              · rw [ieq]; omega
      · rw [gAC 1 (by decide) (by decide), if_neg (by decide)]
    · have id1 : id = 1 := by
        by_cases q0 : id.toInt = 0
        · exfalso
          have e : id = 0 := by rw [ieq, z0]; exact q0
          rw [e, gAC 0 (by decide) (by decide), if_pos rfl] at jz
          exact absurd jz (by decide)
        · by_cases q1 : id.toInt = 1
          · rw [ieq, o1]; exact q1
          · exfalso
            have := jl 1 (by decide) (by omega)
            rw [gAC 1 (by decide) (by decide), if_neg (by decide)] at this
            exact this rfl
      subst id1
      rw [bk2 0, Option.bind_some]
      have hP2 := own_put hP1 (t := s1) (a := b1) (k := n1) j0 j1 hs1.1 (by omega) rb1.1 hn1.1 hn1.2 cv2.1 cv2.2.1
      have lC := hP1.lC
      have lT := hP1.lT
      have lA := hP1.lA
      have lN := hP1.lN
      refine hfin 1 _ _ _ _ EX2 AL2 0 hP2 ⟨?_, ?_, ?_, ?_⟩ (fun s p q a => ?_) (Or.inr ⟨?_, rfl, ?_, ?_, ?_, ?_⟩)
      · rw [own_gs lC j0 j1 (by decide), if_neg (by decide), gAC 0 (by decide) (by decide), if_pos rfl]
      · rw [own_gs lT j0 j1 (by decide), if_neg (by decide), gST]
      · rw [own_gs lA j0 j1 (by decide), if_neg (by decide), gSA]
      · rw [own_gs lN j0 j1 (by decide), if_neg (by decide), gSN]
      · rw [own_gs lC j0 j1 p] at a
        by_cases k1 : (1 : Int32) = s
        · exact Or.inr k1.symm
        · rw [if_neg k1, gAC s p q] at a
          by_cases k : (0 : Int32) = s
          · exact Or.inl k.symm
          · rw [if_neg k] at a; exact absurd rfl a
      · rintro ⟨x1, x2, x3, x4⟩
        have key : ∀ m : Int32, b0.toInt ≤ m.toInt → m.toInt < b0.toInt + n0.toInt → b1.toInt ≤ m.toInt → m.toInt < b1.toInt + n1.toInt → False := by
          intro m y1 y2 y3 y4
          have := c m 1 y3 (by rw [es1]; exact y4) (by decide) (by rw [x4]; decide)
          rw [al1 1 m ⟨by decide, by decide, by omega, by omega⟩, R1, if_pos ⟨by rw [x3]; decide, y1, y2⟩] at this
          exact this (show (1 : Int32) < 1 - 0 + 1 by decide)
        by_cases l : b0.toInt ≤ b1.toInt
        · exact key b1 l x2 (by omega) (by omega)
        · exact key b0 (by omega) (by omega) (by omega) x1
      · rw [own_gs lC j0 j1 (by decide), if_pos rfl]
      · rw [own_gs lT j0 j1 (by decide), if_pos rfl]
      · rw [own_gs lA j0 j1 (by decide), if_pos rfl]
      · rw [own_gs lN j0 j1 (by decide), if_pos rfl]
set_option maxRecDepth 65536 in
theorem comes_1 {Post : Tables → Env → Array Value → State → Outcome → State → Prop} (hpost : ∀ tb e args s v u, (limb_1_1.after args s (.returned v) u = true ∧ limb_1_2.after args s (.returned v) u = true ∧ True) → FrameEnd s (.returned v) u (Jvm.fieldLocs frame_1_writes args s ++ Jvm.arrayLocs frame_1_arrays args s ++ Jvm.staticLocs frame_1_statics s) 40 2432 → Post tb e args s (.returned v) u) :
    ArmFor flags0 classFile x code maxLocals ret World_1 tables_1 room_1 Calls_1 rest_1 Pre_1 Post := by
  intro l hfl _ _ p e ha hc hk s m args below hf hA hF happ hP
  obtain ⟨hcalls, hrest, hpre⟩ := hP
  obtain ⟨-, -, -, hnamed, -, -, -, hat⟩ := (Spec.applies_iff hf).mp happ
  obtain ⟨hg, hn⟩ := and_e (Cond.before_iff.mp (show (Jvm.Cond.and given_1 narrow_1).before args s = true from hpre))
  obtain ⟨h1, h2⟩ := and_e hg
  have hw := fun d (hd : d ∈ tables_1) => atoms_spec (ws := Jvm.Cond.code x code maxLocals ret :: tables_1) hat d (List.mem_cons_of_mem _ hd)
  obtain ⟨w0, w1, w2, w3, w4, w5, rfl⟩ : ∃ w0 w1 w2 w3 w4 w5 : Value, args = #[w0, w1, w2, w3, w4, w5] := by
    have hs : args.size = 6 := by simpa [Cond.value, given_1] using h1
    obtain ⟨L⟩ := args
    match L, hs with
    | [w0, w1, w2, w3, w4, w5], _ => exact ⟨w0, w1, w2, w3, w4, w5, rfl⟩
  obtain ⟨g0, t0⟩ := and_e h2
  obtain ⟨i0, e0⟩ := is_v g0
  obtain rfl : w0 = (.int i0) := Option.some.inj e0
  obtain ⟨g1, t1⟩ := and_e t0
  obtain ⟨i1, e1⟩ := is_v g1
  obtain rfl : w1 = (.int i1) := Option.some.inj e1
  obtain ⟨g2, t2⟩ := and_e t1
  obtain ⟨i2, e2⟩ := is_v g2
  obtain rfl : w2 = (.int i2) := Option.some.inj e2
  obtain ⟨g3, t3⟩ := and_e t2
  obtain ⟨i3, e3⟩ := is_v g3
  obtain rfl : w3 = (.int i3) := Option.some.inj e3
  obtain ⟨g4, t4⟩ := and_e t3
  obtain ⟨i4, e4⟩ := is_v g4
  obtain rfl : w4 = (.int i4) := Option.some.inj e4
  obtain ⟨i5, e5⟩ := is_v t4
  obtain rfl : w5 = (.int i5) := Option.some.inj e5
  have E : OEndsQ own_P 0 0 (entL [.int i0, .int i1, .int i2, .int i3, .int i4, .int i5] d_0.maxL) [] [] (LawQ 1 13 1178) := ok_L_law (own_true i0 i1 i2 i3 i4 i5)
  have hS : SR [] [.int i0, .int i1, .int i2, .int i3, .int i4, .int i5] [.int i0, .int i1, .int i2, .int i3, .int i4, .int i5] := ⟨_, _, rfl, rfl, ⟨_, _, rfl, rfl, ⟨_, _, rfl, rfl, ⟨_, _, rfl, rfl, ⟨_, _, rfl, rfl, ⟨_, _, rfl, rfl, rfl⟩⟩⟩⟩⟩⟩
  have hH : HR own_P s s.heap.size s.heap [] [] := ⟨Nat.le_refl _, rfl, fun i j a h => by simp at h, fun k a h => by simp at h, fun k a c h => by simp at h⟩
  have M := law_met (l := l) own_chk (fun w hw' => hw w (own_in w hw')) hm_0 E hS (Nat.le_of_ble_eq_true rfl) hH tables_1 room_1 (Nat.le_of_ble_eq_true rfl) (Nat.le_of_ble_eq_true rfl) (Nat.le_of_ble_eq_true rfl) (Nat.le_of_ble_eq_true rfl)
  obtain ⟨n, o, h1, h2, h3, L, rfl, N, hq⟩ := M p e ha hc hk s m _ below hf ((Spec.applies_iff_loose hf).mp happ).1 ⟨rfl, State.Warmed39.refl s, rfl⟩ trivial
  refine ⟨n, _, h1, h2, h3, hpost _ _ _ _ _ _ ⟨Cond.after_iff.mpr rfl, Cond.after_iff.mpr (eq_i res_at (Term.int_eval (1)) rfl), trivial⟩ ⟨hq.1, hq.2.1, (hq.2.2.sift fun y hy => Or.inr (N y hy)).mono (by decide) (by decide)⟩⟩
theorem main_1_1 : Claimed_1_1 := comes_1 fun _ _ _ _ _ _ h hF => ⟨h.1, hF⟩
theorem main_1_2 : Claimed_1_2 := comes_1 fun _ _ _ _ _ _ h hF => ⟨h.2.1, hF⟩
end Jvm.Pilot.@@N@@
namespace Jvm.Pilot.@@N@@
open Jvm Jvm.ClassFile Sem Op Lib Jvm.Free Jvm.Stand Jvm.Pilot.@@N@@.Jvm.D
/-! MADE BY PROGRAM (witnessworld.py) out of the Statement's table words and the real class files: 11 classes; the members and pool entries that the words name. The judged class is class 1, her method 1. -/
namespace start1
open Jvm.ClassFile
def u (s : String) : CpInfo := .utf8 (stringToUtf16 s)
/-- a pool by its gaps: so many unusable entries, then the entry; so many at the end -/
def gap : Nat → List CpInfo → List CpInfo
  | 0, r => r
  | n + 1, r => .unusable :: gap n r
def poolList (es : List (Nat × CpInfo)) (last : Nat) : List CpInfo := es.foldr (fun e r => gap e.1 (e.2 :: r)) (gap last [])
def pool (es : List (Nat × CpInfo)) (last : Nat) : Array CpInfo := ⟨poolList es last⟩
def fileOf (pool : Array CpInfo) (this : Nat) (attrs : Array Attribute := #[]) (ms : Array MethodInfo := #[]) (fl : Nat := 33) (sup : Nat := 0) (ifs : Array Nat := #[]) (fds : Array FieldInfo := #[]) : ClassFile where
  minorVersion := 0
  majorVersion := 65
  constantPool := pool
  accessFlags := fl
  thisClass := this
  superClass := sup
  interfaces := ifs
  fields := fds
  methods := ms
  attributes := attrs
def plain (name : String) (sup : Option ClassId) : Class where
  name := name
  kind := .ordinary
  loader := none
  accessFlags := 33
  super := sup
  interfaces := #[]
  cf := none
  fields := #[]
  methods := #[]
  instanceTypes := #[]
  staticTypes := #[]
  resolved := #[]
  callSites := []
  init := .initialized
  statics := none
  mirror := none

def pool0 : Array CpInfo := pool [(5, u "<init>"), (0, u "()V"), (1, .class_ 10), (1, u "java/lang/Object")] 113

def k0c0 : Code := { maxStack := 0, maxLocals := 1, code := object_method_1_code, exceptionTable := #[], attributes := #[] }
def k0m0 : Method := { name := "<init>", desc := "()V", sig := { parameters := [], returnType := none }, accessFlags := 1, code := some k0c0 }
/-- java/lang/Object -/
def k0 : Class := { plain "java/lang/Object" none with
  accessFlags := 33
  interfaces := #[]
  cf := some (fileOf pool0 8 #[] #[{ accessFlags := 1, nameIndex := 5, descriptorIndex := 6, attributes := #[] }] 33 0 #[] #[])
  fields := #[]
  methods := #[k0m0]
  instanceTypes := #[]
  staticTypes := #[]
  resolved := Array.replicate 124 none
  statics := none }

def pool1 : Array CpInfo := pool [(2, .class_ 4), (1, u "java/lang/Object"), (0, u "<init>"), (0, u "()V"), (0, .integer 2147483647), (0, .class_ 9), (0, u "RoomPlanner"), (0, .methodref 8 11), (0, .nameAndType 5 12), (0, u "(III)V"), (0, .methodref 8 14), (0, .nameAndType 15 16), (0, u "book"), (0, u "(III)I"), (0, .methodref 8 18), (0, .nameAndType 19 20), (0, u "isAssigned"), (0, u "()Z"), (0, .methodref 8 22), (0, .nameAndType 23 24), (0, u "assign"), (0, u "()I"), (0, .methodref 8 26), (0, .nameAndType 27 28), (0, u "roomOf"), (0, u "(I)I"), (0, .methodref 8 30), (0, .nameAndType 31 32), (0, u "occupant"), (0, u "(II)I"), (0, .class_ 34), (0, u "RoomPlannerL3"), (2, u "law"), (0, u "(IIIIII)Z")] 3

def k1m0 : Method := { name := "<init>", desc := "()V", sig := { parameters := [], returnType := none }, accessFlags := 1, code := none }
def k1c1 : Code := { maxStack := 5, maxLocals := 21, code := code, exceptionTable := #[], attributes := #[] }
def k1m1 : Method := { name := "law", desc := "(IIIIII)Z", sig := { parameters := [.int, .int, .int, .int, .int, .int], returnType := some .boolean }, accessFlags := 9, code := some k1c1 }
/-- RoomPlannerL3 -/
def k1 : Class := { plain "RoomPlannerL3" (some 0) with
  accessFlags := 49
  interfaces := #[]
  cf := some (fileOf pool1 33 #[] #[{ accessFlags := 1, nameIndex := 5, descriptorIndex := 6, attributes := #[] }, { accessFlags := 9, nameIndex := 37, descriptorIndex := 38, attributes := #[] }] 49 2 #[] #[])
  fields := #[]
  methods := #[k1m0, k1m1]
  instanceTypes := #[]
  staticTypes := #[]
  resolved := Array.replicate 42 none
  statics := none }

def pool2 : Array CpInfo := pool [(1, .methodref 2 3), (0, .class_ 4), (0, .nameAndType 5 6), (0, u "java/lang/Object"), (0, u "<init>"), (0, u "()V"), (0, .fieldref 8 9), (0, .class_ 10), (0, .nameAndType 11 12), (0, u "RoomPlanner"), (0, u "roomsOfType"), (0, u "[I"), (0, .fieldref 8 14), (0, .nameAndType 15 12), (0, u "roomsAtLeast"), (0, .fieldref 8 17), (0, .nameAndType 18 12), (0, u "firstRoomOfType"), (0, .fieldref 8 20), (0, .nameAndType 21 22), (0, u "slotActive"), (0, u "[Z"), (0, .fieldref 8 24), (0, .nameAndType 25 12), (0, u "slotType"), (0, .fieldref 8 27), (0, .nameAndType 28 12), (0, u "slotArrive"), (0, .fieldref 8 30), (0, .nameAndType 31 12), (0, u "slotNights"), (0, .fieldref 8 33), (0, .nameAndType 34 12), (0, u "exactCount"), (0, .fieldref 8 36), (0, .nameAndType 37 12), (0, u "atLeastCount"), (0, .fieldref 8 39), (0, .nameAndType 40 12), (0, u "planRoom"), (0, .fieldref 8 42), (0, .nameAndType 43 12), (0, u "planGrid"), (0, .fieldref 8 45), (0, .nameAndType 46 12), (0, u "planOrder"), (0, .methodref 8 48), (0, .nameAndType 49 50), (0, u "clampRooms"), (0, u "(I)I"), (0, .methodref 8 52), (0, .nameAndType 53 6), (0, u "computeRoomTables"), (0, .methodref 8 55), (0, .nameAndType 56 6), (0, u "resetStays"), (0, .methodref 8 58), (0, .nameAndType 59 6), (0, u "resetCounts"), (0, .methodref 8 61), (0, .nameAndType 62 6), (0, u "clearPlan"), (0, .fieldref 8 64), (0, .nameAndType 65 66), (0, u "planCurrent"), (0, u "Z"), (0, .fieldref 8 68), (0, .nameAndType 69 70), (0, u "planUnplaced"), (0, u "I"), (0, .methodref 8 72), (0, .nameAndType 73 74), (0, u "requestError"), (0, u "(III)I"), (0, .fieldref 8 76), (0, .nameAndType 77 70), (0, u "activeStays"), (0, .methodref 8 79), (0, .nameAndType 80 81), (0, u "fitsWith"), (0, u "(IIII)Z"), (0, .methodref 8 83), (0, .nameAndType 84 85), (0, u "lowestInactiveSlot"), (0, u "()I"), (0, .methodref 8 87), (0, .nameAndType 88 89), (0, u "activateStay"), (0, u "(IIII)V"), (0, .methodref 8 91), (0, .nameAndType 92 6), (0, u "discardPlan"), (0, .methodref 8 94), (0, .nameAndType 95 96), (0, u "isActiveStay"), (0, u "(I)Z"), (0, .methodref 8 98), (0, .nameAndType 99 100), (0, u "adjustCoverage"), (0, u "(II)V"), (0, .methodref 8 102), (0, .nameAndType 103 89), (0, u "storeStay"), (3, u "(I)V"), (0, .methodref 8 109), (0, .nameAndType 110 96), (0, u "isValidType"), (0, .methodref 8 112), (0, .nameAndType 113 96), (0, u "isValidNight"), (3, u "(II)I"), (6, .methodref 8 125), (0, .nameAndType 126 6), (0, u "buildOrder"), (0, .fieldref 8 128), (0, .nameAndType 129 70), (0, u "planOrderLength"), (0, .methodref 8 131), (0, .nameAndType 132 96), (0, u "placeStay"), (0, .methodref 8 134), (0, .nameAndType 135 96), (0, u "isValidRoom"), (0, .methodref 8 137), (0, .nameAndType 138 117), (0, u "gridAt"), (3, .fieldref 8 143), (0, .nameAndType 144 70), (0, u "totalRooms"), (0, .methodref 8 146), (0, .nameAndType 147 148), (0, u "isValidLength"), (0, u "(II)Z"), (0, .methodref 8 150), (0, .nameAndType 151 117), (0, u "countIndex"), (0, .methodref 8 153), (0, .nameAndType 154 117), (0, u "endOf"), (3, .methodref 8 159), (0, .nameAndType 160 117), (0, u "atLeastAt"), (6, .methodref 8 168), (0, .nameAndType 169 74), (0, u "exclusion"), (0, .methodref 8 171), (0, .nameAndType 172 173), (0, u "nightFits"), (0, u "(III)Z"), (0, .methodref 8 175), (0, .nameAndType 176 117), (0, u "gridIndex"), (0, .methodref 8 178), (0, .nameAndType 179 107), (0, u "appendToOrder"), (0, .methodref 8 181), (0, .nameAndType 182 173), (0, u "roomIsFree"), (0, .methodref 8 184), (0, .nameAndType 185 89), (0, u "markRoom"), (0, u "NUM_TYPES"), (2, u "HORIZON"), (1, u "MAX_STAYS"), (0, u "MAX_ROOMS_PER_TYPE"), (1, u "OK"), (1, u "NONE"), (1, u "ERR_TYPE"), (0, u "ERR_RANGE"), (1, u "ERR_FULL"), (1, u "ERR_NO_ROOM"), (1, u "ERR_NO_STAY"), (1, u "MAX_ROOMS"), (1, u "(III)V"), (2, u "book"), (12, u "assign"), (0, u "isAssigned"), (0, u "()Z"), (0, u "roomOf"), (0, u "occupant")] 3

def k2c0 : Code := { maxStack := 4, maxLocals := 4, code := prog_1_method_1_code, exceptionTable := #[], attributes := #[] }
def k2m0 : Method := { name := "<init>", desc := "(III)V", sig := { parameters := [.int, .int, .int], returnType := none }, accessFlags := 1, code := some k2c0 }
def k2c1 : Code := { maxStack := 5, maxLocals := 6, code := prog_1_method_2_code, exceptionTable := #[], attributes := #[] }
def k2m1 : Method := { name := "book", desc := "(III)I", sig := { parameters := [.int, .int, .int], returnType := some .int }, accessFlags := 1, code := some k2c1 }
def k2c2 : Code := { maxStack := 2, maxLocals := 5, code := prog_1_method_13_code, exceptionTable := #[], attributes := #[] }
def k2m2 : Method := { name := "assign", desc := "()I", sig := { parameters := [], returnType := some .int }, accessFlags := 1, code := some k2c2 }
def k2c3 : Code := { maxStack := 1, maxLocals := 1, code := prog_1_method_14_code, exceptionTable := #[], attributes := #[] }
def k2m3 : Method := { name := "isAssigned", desc := "()Z", sig := { parameters := [], returnType := some .boolean }, accessFlags := 1, code := some k2c3 }
def k2c4 : Code := { maxStack := 2, maxLocals := 2, code := prog_1_method_15_code, exceptionTable := #[], attributes := #[] }
def k2m4 : Method := { name := "roomOf", desc := "(I)I", sig := { parameters := [.int], returnType := some .int }, accessFlags := 1, code := some k2c4 }
def k2c5 : Code := { maxStack := 3, maxLocals := 3, code := prog_1_method_16_code, exceptionTable := #[], attributes := #[] }
def k2m5 : Method := { name := "occupant", desc := "(II)I", sig := { parameters := [.int, .int], returnType := some .int }, accessFlags := 1, code := some k2c5 }
def k2c6 : Code := { maxStack := 2, maxLocals := 2, code := prog_1_method_18_code, exceptionTable := #[], attributes := #[] }
def k2m6 : Method := { name := "clampRooms", desc := "(I)I", sig := { parameters := [.int], returnType := some .int }, accessFlags := 2, code := some k2c6 }
def k2c7 : Code := { maxStack := 4, maxLocals := 4, code := prog_1_method_19_code, exceptionTable := #[], attributes := #[] }
def k2m7 : Method := { name := "computeRoomTables", desc := "()V", sig := { parameters := [], returnType := none }, accessFlags := 2, code := some k2c7 }
def k2c8 : Code := { maxStack := 2, maxLocals := 2, code := prog_1_method_20_code, exceptionTable := #[], attributes := #[] }
def k2m8 : Method := { name := "isValidRoom", desc := "(I)Z", sig := { parameters := [.int], returnType := some .boolean }, accessFlags := 2, code := some k2c8 }
def k2c9 : Code := { maxStack := 2, maxLocals := 2, code := prog_1_method_23_code, exceptionTable := #[], attributes := #[] }
def k2m9 : Method := { name := "isValidType", desc := "(I)Z", sig := { parameters := [.int], returnType := some .boolean }, accessFlags := 2, code := some k2c9 }
def k2c10 : Code := { maxStack := 2, maxLocals := 2, code := prog_1_method_24_code, exceptionTable := #[], attributes := #[] }
def k2m10 : Method := { name := "isValidNight", desc := "(I)Z", sig := { parameters := [.int], returnType := some .boolean }, accessFlags := 2, code := some k2c10 }
def k2c11 : Code := { maxStack := 3, maxLocals := 3, code := prog_1_method_25_code, exceptionTable := #[], attributes := #[] }
def k2m11 : Method := { name := "isValidLength", desc := "(II)Z", sig := { parameters := [.int, .int], returnType := some .boolean }, accessFlags := 2, code := some k2c11 }
def k2c12 : Code := { maxStack := 2, maxLocals := 2, code := prog_1_method_26_code, exceptionTable := #[], attributes := #[] }
def k2m12 : Method := { name := "isActiveStay", desc := "(I)Z", sig := { parameters := [.int], returnType := some .boolean }, accessFlags := 2, code := some k2c12 }
def k2c13 : Code := { maxStack := 3, maxLocals := 4, code := prog_1_method_27_code, exceptionTable := #[], attributes := #[] }
def k2m13 : Method := { name := "requestError", desc := "(III)I", sig := { parameters := [.int, .int, .int], returnType := some .int }, accessFlags := 2, code := some k2c13 }
def k2c14 : Code := { maxStack := 3, maxLocals := 2, code := prog_1_method_28_code, exceptionTable := #[], attributes := #[] }
def k2m14 : Method := { name := "resetStays", desc := "()V", sig := { parameters := [], returnType := none }, accessFlags := 2, code := some k2c14 }
def k2c15 : Code := { maxStack := 2, maxLocals := 2, code := prog_1_method_29_code, exceptionTable := #[], attributes := #[] }
def k2m15 : Method := { name := "lowestInactiveSlot", desc := "()I", sig := { parameters := [], returnType := some .int }, accessFlags := 2, code := some k2c15 }
def k2c16 : Code := { maxStack := 3, maxLocals := 5, code := prog_1_method_30_code, exceptionTable := #[], attributes := #[] }
def k2m16 : Method := { name := "storeStay", desc := "(IIII)V", sig := { parameters := [.int, .int, .int, .int], returnType := none }, accessFlags := 2, code := some k2c16 }
def k2c17 : Code := { maxStack := 5, maxLocals := 5, code := prog_1_method_31_code, exceptionTable := #[], attributes := #[] }
def k2m17 : Method := { name := "activateStay", desc := "(IIII)V", sig := { parameters := [.int, .int, .int, .int], returnType := none }, accessFlags := 2, code := some k2c17 }
def k2c18 : Code := { maxStack := 2, maxLocals := 4, code := prog_1_method_34_code, exceptionTable := #[], attributes := #[] }
def k2m18 : Method := { name := "endOf", desc := "(II)I", sig := { parameters := [.int, .int], returnType := some .int }, accessFlags := 2, code := some k2c18 }
def k2c19 : Code := { maxStack := 3, maxLocals := 2, code := prog_1_method_35_code, exceptionTable := #[], attributes := #[] }
def k2m19 : Method := { name := "resetCounts", desc := "()V", sig := { parameters := [], returnType := none }, accessFlags := 2, code := some k2c19 }
def k2c20 : Code := { maxStack := 2, maxLocals := 3, code := prog_1_method_36_code, exceptionTable := #[], attributes := #[] }
def k2m20 : Method := { name := "countIndex", desc := "(II)I", sig := { parameters := [.int, .int], returnType := some .int }, accessFlags := 2, code := some k2c20 }
def k2c21 : Code := { maxStack := 4, maxLocals := 3, code := prog_1_method_38_code, exceptionTable := #[], attributes := #[] }
def k2m21 : Method := { name := "atLeastAt", desc := "(II)I", sig := { parameters := [.int, .int], returnType := some .int }, accessFlags := 2, code := some k2c21 }
def k2c22 : Code := { maxStack := 4, maxLocals := 8, code := prog_1_method_39_code, exceptionTable := #[], attributes := #[] }
def k2m22 : Method := { name := "adjustCoverage", desc := "(II)V", sig := { parameters := [.int, .int], returnType := none }, accessFlags := 2, code := some k2c22 }
def k2c23 : Code := { maxStack := 3, maxLocals := 4, code := prog_1_method_42_code, exceptionTable := #[], attributes := #[] }
def k2m23 : Method := { name := "exclusion", desc := "(III)I", sig := { parameters := [.int, .int, .int], returnType := some .int }, accessFlags := 2, code := some k2c23 }
def k2c24 : Code := { maxStack := 4, maxLocals := 8, code := prog_1_method_43_code, exceptionTable := #[], attributes := #[] }
def k2m24 : Method := { name := "nightFits", desc := "(III)Z", sig := { parameters := [.int, .int, .int], returnType := some .boolean }, accessFlags := 2, code := some k2c24 }
def k2c25 : Code := { maxStack := 4, maxLocals := 7, code := prog_1_method_44_code, exceptionTable := #[], attributes := #[] }
def k2m25 : Method := { name := "fitsWith", desc := "(IIII)Z", sig := { parameters := [.int, .int, .int, .int], returnType := some .boolean }, accessFlags := 2, code := some k2c25 }
def k2c26 : Code := { maxStack := 2, maxLocals := 1, code := prog_1_method_46_code, exceptionTable := #[], attributes := #[] }
def k2m26 : Method := { name := "discardPlan", desc := "()V", sig := { parameters := [], returnType := none }, accessFlags := 2, code := some k2c26 }
def k2c27 : Code := { maxStack := 3, maxLocals := 2, code := prog_1_method_47_code, exceptionTable := #[], attributes := #[] }
def k2m27 : Method := { name := "clearPlan", desc := "()V", sig := { parameters := [], returnType := none }, accessFlags := 2, code := some k2c27 }
def k2c28 : Code := { maxStack := 2, maxLocals := 3, code := prog_1_method_48_code, exceptionTable := #[], attributes := #[] }
def k2m28 : Method := { name := "gridIndex", desc := "(II)I", sig := { parameters := [.int, .int], returnType := some .int }, accessFlags := 2, code := some k2c28 }
def k2c29 : Code := { maxStack := 4, maxLocals := 3, code := prog_1_method_49_code, exceptionTable := #[], attributes := #[] }
def k2m29 : Method := { name := "gridAt", desc := "(II)I", sig := { parameters := [.int, .int], returnType := some .int }, accessFlags := 2, code := some k2c29 }
def k2c30 : Code := { maxStack := 2, maxLocals := 3, code := prog_1_method_50_code, exceptionTable := #[], attributes := #[] }
def k2m30 : Method := { name := "buildOrder", desc := "()V", sig := { parameters := [], returnType := none }, accessFlags := 2, code := some k2c30 }
def k2c31 : Code := { maxStack := 3, maxLocals := 2, code := prog_1_method_51_code, exceptionTable := #[], attributes := #[] }
def k2m31 : Method := { name := "appendToOrder", desc := "(I)V", sig := { parameters := [.int], returnType := none }, accessFlags := 2, code := some k2c31 }
def k2c32 : Code := { maxStack := 5, maxLocals := 6, code := prog_1_method_52_code, exceptionTable := #[], attributes := #[] }
def k2m32 : Method := { name := "placeStay", desc := "(I)Z", sig := { parameters := [.int], returnType := some .boolean }, accessFlags := 2, code := some k2c32 }
def k2c33 : Code := { maxStack := 3, maxLocals := 6, code := prog_1_method_53_code, exceptionTable := #[], attributes := #[] }
def k2m33 : Method := { name := "roomIsFree", desc := "(III)Z", sig := { parameters := [.int, .int, .int], returnType := some .boolean }, accessFlags := 2, code := some k2c33 }
def k2c34 : Code := { maxStack := 4, maxLocals := 7, code := prog_1_method_54_code, exceptionTable := #[], attributes := #[] }
def k2m34 : Method := { name := "markRoom", desc := "(IIII)V", sig := { parameters := [.int, .int, .int, .int], returnType := none }, accessFlags := 2, code := some k2c34 }
/-- RoomPlanner -/
def k2 : Class := { plain "RoomPlanner" (some 0) with
  accessFlags := 49
  interfaces := #[]
  cf := some (fileOf pool2 8 #[] #[{ accessFlags := 1, nameIndex := 5, descriptorIndex := 209, attributes := #[] }, { accessFlags := 1, nameIndex := 212, descriptorIndex := 74, attributes := #[] }, { accessFlags := 1, nameIndex := 225, descriptorIndex := 85, attributes := #[] }, { accessFlags := 1, nameIndex := 226, descriptorIndex := 227, attributes := #[] }, { accessFlags := 1, nameIndex := 228, descriptorIndex := 50, attributes := #[] }, { accessFlags := 1, nameIndex := 229, descriptorIndex := 117, attributes := #[] }, { accessFlags := 2, nameIndex := 49, descriptorIndex := 50, attributes := #[] }, { accessFlags := 2, nameIndex := 53, descriptorIndex := 6, attributes := #[] }, { accessFlags := 2, nameIndex := 135, descriptorIndex := 96, attributes := #[] }, { accessFlags := 2, nameIndex := 110, descriptorIndex := 96, attributes := #[] }, { accessFlags := 2, nameIndex := 113, descriptorIndex := 96, attributes := #[] }, { accessFlags := 2, nameIndex := 147, descriptorIndex := 148, attributes := #[] }, { accessFlags := 2, nameIndex := 95, descriptorIndex := 96, attributes := #[] }, { accessFlags := 2, nameIndex := 73, descriptorIndex := 74, attributes := #[] }, { accessFlags := 2, nameIndex := 56, descriptorIndex := 6, attributes := #[] }, { accessFlags := 2, nameIndex := 84, descriptorIndex := 85, attributes := #[] }, { accessFlags := 2, nameIndex := 103, descriptorIndex := 89, attributes := #[] }, { accessFlags := 2, nameIndex := 88, descriptorIndex := 89, attributes := #[] }, { accessFlags := 2, nameIndex := 154, descriptorIndex := 117, attributes := #[] }, { accessFlags := 2, nameIndex := 59, descriptorIndex := 6, attributes := #[] }, { accessFlags := 2, nameIndex := 151, descriptorIndex := 117, attributes := #[] }, { accessFlags := 2, nameIndex := 160, descriptorIndex := 117, attributes := #[] }, { accessFlags := 2, nameIndex := 99, descriptorIndex := 100, attributes := #[] }, { accessFlags := 2, nameIndex := 169, descriptorIndex := 74, attributes := #[] }, { accessFlags := 2, nameIndex := 172, descriptorIndex := 173, attributes := #[] }, { accessFlags := 2, nameIndex := 80, descriptorIndex := 81, attributes := #[] }, { accessFlags := 2, nameIndex := 92, descriptorIndex := 6, attributes := #[] }, { accessFlags := 2, nameIndex := 62, descriptorIndex := 6, attributes := #[] }, { accessFlags := 2, nameIndex := 176, descriptorIndex := 117, attributes := #[] }, { accessFlags := 2, nameIndex := 138, descriptorIndex := 117, attributes := #[] }, { accessFlags := 2, nameIndex := 126, descriptorIndex := 6, attributes := #[] }, { accessFlags := 2, nameIndex := 179, descriptorIndex := 107, attributes := #[] }, { accessFlags := 2, nameIndex := 132, descriptorIndex := 96, attributes := #[] }, { accessFlags := 2, nameIndex := 182, descriptorIndex := 173, attributes := #[] }, { accessFlags := 2, nameIndex := 185, descriptorIndex := 89, attributes := #[] }] 49 2 #[] #[{ accessFlags := 25, nameIndex := 186, descriptorIndex := 70, attributes := #[] }, { accessFlags := 25, nameIndex := 189, descriptorIndex := 70, attributes := #[] }, { accessFlags := 25, nameIndex := 191, descriptorIndex := 70, attributes := #[] }, { accessFlags := 25, nameIndex := 192, descriptorIndex := 70, attributes := #[] }, { accessFlags := 25, nameIndex := 194, descriptorIndex := 70, attributes := #[] }, { accessFlags := 25, nameIndex := 196, descriptorIndex := 70, attributes := #[] }, { accessFlags := 25, nameIndex := 198, descriptorIndex := 70, attributes := #[] }, { accessFlags := 25, nameIndex := 199, descriptorIndex := 70, attributes := #[] }, { accessFlags := 25, nameIndex := 201, descriptorIndex := 70, attributes := #[] }, { accessFlags := 25, nameIndex := 203, descriptorIndex := 70, attributes := #[] }, { accessFlags := 25, nameIndex := 205, descriptorIndex := 70, attributes := #[] }, { accessFlags := 26, nameIndex := 207, descriptorIndex := 70, attributes := #[] }, { accessFlags := 18, nameIndex := 11, descriptorIndex := 12, attributes := #[] }, { accessFlags := 18, nameIndex := 15, descriptorIndex := 12, attributes := #[] }, { accessFlags := 18, nameIndex := 18, descriptorIndex := 12, attributes := #[] }, { accessFlags := 2, nameIndex := 144, descriptorIndex := 70, attributes := #[] }, { accessFlags := 18, nameIndex := 21, descriptorIndex := 22, attributes := #[] }, { accessFlags := 18, nameIndex := 25, descriptorIndex := 12, attributes := #[] }, { accessFlags := 18, nameIndex := 28, descriptorIndex := 12, attributes := #[] }, { accessFlags := 18, nameIndex := 31, descriptorIndex := 12, attributes := #[] }, { accessFlags := 2, nameIndex := 77, descriptorIndex := 70, attributes := #[] }, { accessFlags := 18, nameIndex := 34, descriptorIndex := 12, attributes := #[] }, { accessFlags := 18, nameIndex := 37, descriptorIndex := 12, attributes := #[] }, { accessFlags := 2, nameIndex := 65, descriptorIndex := 66, attributes := #[] }, { accessFlags := 18, nameIndex := 40, descriptorIndex := 12, attributes := #[] }, { accessFlags := 18, nameIndex := 43, descriptorIndex := 12, attributes := #[] }, { accessFlags := 18, nameIndex := 46, descriptorIndex := 12, attributes := #[] }, { accessFlags := 2, nameIndex := 129, descriptorIndex := 70, attributes := #[] }, { accessFlags := 2, nameIndex := 69, descriptorIndex := 70, attributes := #[] }])
  fields := #[{ name := "NUM_TYPES", type := .int, accessFlags := 25, slot := 0, constantValue := 0 }, { name := "HORIZON", type := .int, accessFlags := 25, slot := 1, constantValue := 0 }, { name := "MAX_STAYS", type := .int, accessFlags := 25, slot := 2, constantValue := 0 }, { name := "MAX_ROOMS_PER_TYPE", type := .int, accessFlags := 25, slot := 3, constantValue := 0 }, { name := "OK", type := .int, accessFlags := 25, slot := 4, constantValue := 0 }, { name := "NONE", type := .int, accessFlags := 25, slot := 5, constantValue := 0 }, { name := "ERR_TYPE", type := .int, accessFlags := 25, slot := 6, constantValue := 0 }, { name := "ERR_RANGE", type := .int, accessFlags := 25, slot := 7, constantValue := 0 }, { name := "ERR_FULL", type := .int, accessFlags := 25, slot := 8, constantValue := 0 }, { name := "ERR_NO_ROOM", type := .int, accessFlags := 25, slot := 9, constantValue := 0 }, { name := "ERR_NO_STAY", type := .int, accessFlags := 25, slot := 10, constantValue := 0 }, { name := "MAX_ROOMS", type := .int, accessFlags := 26, slot := 11, constantValue := 0 }, { name := "roomsOfType", type := (.array .int), accessFlags := 18, slot := 0, constantValue := 0 }, { name := "roomsAtLeast", type := (.array .int), accessFlags := 18, slot := 1, constantValue := 0 }, { name := "firstRoomOfType", type := (.array .int), accessFlags := 18, slot := 2, constantValue := 0 }, { name := "totalRooms", type := .int, accessFlags := 2, slot := 3, constantValue := 0 }, { name := "slotActive", type := (.array .boolean), accessFlags := 18, slot := 4, constantValue := 0 }, { name := "slotType", type := (.array .int), accessFlags := 18, slot := 5, constantValue := 0 }, { name := "slotArrive", type := (.array .int), accessFlags := 18, slot := 6, constantValue := 0 }, { name := "slotNights", type := (.array .int), accessFlags := 18, slot := 7, constantValue := 0 }, { name := "activeStays", type := .int, accessFlags := 2, slot := 8, constantValue := 0 }, { name := "exactCount", type := (.array .int), accessFlags := 18, slot := 9, constantValue := 0 }, { name := "atLeastCount", type := (.array .int), accessFlags := 18, slot := 10, constantValue := 0 }, { name := "planCurrent", type := .boolean, accessFlags := 2, slot := 11, constantValue := 0 }, { name := "planRoom", type := (.array .int), accessFlags := 18, slot := 12, constantValue := 0 }, { name := "planGrid", type := (.array .int), accessFlags := 18, slot := 13, constantValue := 0 }, { name := "planOrder", type := (.array .int), accessFlags := 18, slot := 14, constantValue := 0 }, { name := "planOrderLength", type := .int, accessFlags := 2, slot := 15, constantValue := 0 }, { name := "planUnplaced", type := .int, accessFlags := 2, slot := 16, constantValue := 0 }]
  methods := #[k2m0, k2m1, k2m2, k2m3, k2m4, k2m5, k2m6, k2m7, k2m8, k2m9, k2m10, k2m11, k2m12, k2m13, k2m14, k2m15, k2m16, k2m17, k2m18, k2m19, k2m20, k2m21, k2m22, k2m23, k2m24, k2m25, k2m26, k2m27, k2m28, k2m29, k2m30, k2m31, k2m32, k2m33, k2m34]
  instanceTypes := #[(.array .int), (.array .int), (.array .int), .int, (.array .boolean), (.array .int), (.array .int), (.array .int), .int, (.array .int), (.array .int), .boolean, (.array .int), (.array .int), (.array .int), .int, .int]
  staticTypes := #[.int, .int, .int, .int, .int, .int, .int, .int, .int, .int, .int, .int]
  resolved := Array.replicate 233 none
  statics := none }

def pool3 : Array CpInfo := pool [(1, u "java/lang/Cloneable"), (0, .class_ 1), (0, u "java/lang/Object"), (0, .class_ 3)] 3

/-- java/lang/Cloneable -/
def k3 : Class := { plain "java/lang/Cloneable" (some 0) with
  accessFlags := 1537
  interfaces := #[]
  cf := some (fileOf pool3 2 #[] #[] 1537 4 #[] #[])
  fields := #[]
  methods := #[]
  instanceTypes := #[]
  staticTypes := #[]
  resolved := Array.replicate 8 none
  statics := none }

def pool4 : Array CpInfo := pool [(1, u "java/io/Serializable"), (0, .class_ 1), (0, u "java/lang/Object"), (0, .class_ 3)] 3

/-- java/io/Serializable -/
def k4 : Class := { plain "java/io/Serializable" (some 0) with
  accessFlags := 1537
  interfaces := #[]
  cf := some (fileOf pool4 2 #[] #[] 1537 4 #[] #[])
  fields := #[]
  methods := #[]
  instanceTypes := #[]
  staticTypes := #[]
  resolved := Array.replicate 8 none
  statics := none }

/-- the primitive boolean -/
def k5 : Class := { plain "boolean" none with kind := .primitive 'Z', accessFlags := 0x411 }
/-- [Z -/
def k6 : Class := { plain "[Z" (some 0) with kind := .array 5 .boolean, interfaces := #[3, 4], accessFlags := 1041 }

/-- the primitive byte -/
def k7 : Class := { plain "byte" none with kind := .primitive 'B', accessFlags := 0x411 }
/-- [B -/
def k8 : Class := { plain "[B" (some 0) with kind := .array 7 .byte, interfaces := #[3, 4], accessFlags := 1041 }

/-- the primitive int -/
def k9 : Class := { plain "int" none with kind := .primitive 'I', accessFlags := 0x411 }
/-- [I -/
def k10 : Class := { plain "[I" (some 0) with kind := .array 9 .int, interfaces := #[3, 4], accessFlags := 1041 }

def heap : Heap := #[]
def classes : Array Class := #[k0, k1, k2, k3, k4, k5, k6, k7, k8, k9, k10]
def interned : List (Array UInt16 × Addr) := []
def slotsUsed : Nat := 0
def theMethod : MethodId := ⟨1, 1⟩
def args0 : Array Value := #[.int 1, .int 2, .int 3, .int 4, .int 5, .int 6]
def aboutOver (below : List Frame) : State where
  vm := { classes := classes, interned := interned.toArray }
  heap := heap
  slotsUsed := slotsUsed
  threads := #[{ frames := .invoking theMethod args0 :: below }]
def below0 : List Frame := [.native { method := ⟨0, 0⟩, args := #[] }]
def about1 : State := aboutOver below0
def p0 : Program := .bare "" "" ""
def e0 : Env := launch0.env 0 0 0
theorem w_frames : about1.frames = Frame.invoking theMethod args0 :: below0 := rfl
set_option maxRecDepth 65536 in
theorem w_args : argsFit about1.vm theMethod args0 = true := by decide +kernel
set_option maxRecDepth 65536 in
theorem w_heap : heapFits about1 = true := by decide +kernel
set_option maxRecDepth 65536 in
theorem w_runnable : about1.curStatus? = some .runnable := by decide +kernel
set_option maxRecDepth 65536 in
theorem w_alone : about1.alone = true := by decide +kernel
set_option maxRecDepth 65536 in
theorem w_named : about1.methodNamed? x = some theMethod := by decide +kernel
set_option maxRecDepth 65536 in
theorem w_hears : about1.hears theMethod below0 = true := by decide +kernel
set_option maxRecDepth 65536 in
theorem w_ripe : about1.ripe theMethod args0 below0 = true := by decide +kernel
theorem w_running : about1.status = .running := rfl
set_option maxRecDepth 65536 in
theorem w_room : about1.hasRoom e0.platform room_1 = true :=
  launch0.hasRoom_least _ room_1 (by decide +kernel) (by decide +kernel) (by decide +kernel) (by decide +kernel) (by decide +kernel) (by decide +kernel)
theorem allAtoms_all (ts : List Jvm.Cond) (a : Array Jvm.Value) (st : Jvm.State) : (allAtoms ts).before a st = ts.all (fun c => c.before a st) := by
  induction ts with
  | nil => rfl
  | cons c t ih =>
    show (Jvm.Cond.and c (allAtoms t)).before a st = _
    rw [Jvm.Cond.before_and, ih, List.all_cons]
def words1 : List Jvm.Cond := Jvm.Cond.code x code maxLocals ret :: tables_1
/-- a 'code' word, met by the world's own term for the bytes: nothing is compared byte by byte -/
theorem code_word {y : MethodName} {bytes : ByteArray} {mx : Nat} {rt : Option FieldType} {a : Array Value} {s : State} {m : MethodId} {meth : Method} {c : Code} (h1 : s.methodNamed? y = some m) (h2 : s.vm.method? m = some meth) (h3 : meth.code = some c) (h4 : c.code = bytes)
    (h5 : (c.maxLocals == mx && c.exceptionTable.isEmpty && decide (c.maxStack ≤ mostOperands) && decide (meth.sig.returnType = rt) && !meth.locks && decide (parseMethodDescriptor y.desc = some meth.sig)) = true) : (Jvm.Cond.code y bytes mx rt).before a s = true := by
  simp only [Bool.and_eq_true, beq_iff_eq, Bool.not_eq_true', decide_eq_true_eq] at h5
  obtain ⟨⟨⟨⟨⟨g1, g2⟩, g3⟩, g4⟩, g5⟩, g6⟩ := h5
  simp [Cond.before, Cond.holds, Cond.value, h1, h2, h3, h4, g1, g2, g3, g4, g5, g6]
def isCode : Jvm.Cond → Bool
  | .code _ _ _ _ => true
  | _ => false
theorem all_split {L : List Jvm.Cond} {P : Jvm.Cond → Bool} (h1 : L.all (fun c => isCode c || P c) = true) (h2 : ∀ c ∈ L.filter isCode, P c = true) : L.all P = true := by
  refine List.all_eq_true.mpr fun c hc => ?_
  have h := List.all_eq_true.mp h1 c hc
  rcases Bool.eq_false_or_eq_true (isCode c) with hi | hi
  · exact h2 c (List.mem_filter.mpr ⟨hc, hi⟩)
  · simpa [hi] using h
set_option maxRecDepth 65536 in
theorem w_c0 : (Jvm.Cond.code x code maxLocals ret).before args0 about1 = true := code_word (m := ⟨1, 1⟩) (meth := k1m1) (c := k1c1) (by decide +kernel) rfl rfl rfl (by decide +kernel)
set_option maxRecDepth 65536 in
theorem w_c1 : (Jvm.Cond.code ({ cls := "RoomPlanner", name := "<init>", desc := "(III)V" } : Jvm.MethodName) prog_1_method_1_code (4 : Nat) (Option.none : Option Jvm.ClassFile.FieldType)).before args0 about1 = true := code_word (m := ⟨2, 0⟩) (meth := k2m0) (c := k2c0) (by decide +kernel) rfl rfl rfl (by decide +kernel)
set_option maxRecDepth 65536 in
theorem w_c2 : (Jvm.Cond.code ({ cls := "java/lang/Object", name := "<init>", desc := "()V" } : Jvm.MethodName) object_method_1_code (1 : Nat) (Option.none : Option Jvm.ClassFile.FieldType)).before args0 about1 = true := code_word (m := ⟨0, 0⟩) (meth := k0m0) (c := k0c0) (by decide +kernel) rfl rfl rfl (by decide +kernel)
set_option maxRecDepth 65536 in
theorem w_c3 : (Jvm.Cond.code ({ cls := "RoomPlanner", name := "clampRooms", desc := "(I)I" } : Jvm.MethodName) prog_1_method_18_code (2 : Nat) (Option.some Jvm.ClassFile.FieldType.int)).before args0 about1 = true := code_word (m := ⟨2, 6⟩) (meth := k2m6) (c := k2c6) (by decide +kernel) rfl rfl rfl (by decide +kernel)
set_option maxRecDepth 65536 in
theorem w_c4 : (Jvm.Cond.code ({ cls := "RoomPlanner", name := "computeRoomTables", desc := "()V" } : Jvm.MethodName) prog_1_method_19_code (4 : Nat) (Option.none : Option Jvm.ClassFile.FieldType)).before args0 about1 = true := code_word (m := ⟨2, 7⟩) (meth := k2m7) (c := k2c7) (by decide +kernel) rfl rfl rfl (by decide +kernel)
set_option maxRecDepth 65536 in
theorem w_c5 : (Jvm.Cond.code ({ cls := "RoomPlanner", name := "resetStays", desc := "()V" } : Jvm.MethodName) prog_1_method_28_code (2 : Nat) (Option.none : Option Jvm.ClassFile.FieldType)).before args0 about1 = true := code_word (m := ⟨2, 14⟩) (meth := k2m14) (c := k2c14) (by decide +kernel) rfl rfl rfl (by decide +kernel)
set_option maxRecDepth 65536 in
theorem w_c6 : (Jvm.Cond.code ({ cls := "RoomPlanner", name := "resetCounts", desc := "()V" } : Jvm.MethodName) prog_1_method_35_code (2 : Nat) (Option.none : Option Jvm.ClassFile.FieldType)).before args0 about1 = true := code_word (m := ⟨2, 19⟩) (meth := k2m19) (c := k2c19) (by decide +kernel) rfl rfl rfl (by decide +kernel)
set_option maxRecDepth 65536 in
theorem w_c7 : (Jvm.Cond.code ({ cls := "RoomPlanner", name := "clearPlan", desc := "()V" } : Jvm.MethodName) prog_1_method_47_code (2 : Nat) (Option.none : Option Jvm.ClassFile.FieldType)).before args0 about1 = true := code_word (m := ⟨2, 27⟩) (meth := k2m27) (c := k2c27) (by decide +kernel) rfl rfl rfl (by decide +kernel)
set_option maxRecDepth 65536 in
theorem w_c8 : (Jvm.Cond.code ({ cls := "RoomPlanner", name := "book", desc := "(III)I" } : Jvm.MethodName) prog_1_method_2_code (6 : Nat) (Option.some Jvm.ClassFile.FieldType.int)).before args0 about1 = true := code_word (m := ⟨2, 1⟩) (meth := k2m1) (c := k2c1) (by decide +kernel) rfl rfl rfl (by decide +kernel)
set_option maxRecDepth 65536 in
theorem w_c9 : (Jvm.Cond.code ({ cls := "RoomPlanner", name := "requestError", desc := "(III)I" } : Jvm.MethodName) prog_1_method_27_code (4 : Nat) (Option.some Jvm.ClassFile.FieldType.int)).before args0 about1 = true := code_word (m := ⟨2, 13⟩) (meth := k2m13) (c := k2c13) (by decide +kernel) rfl rfl rfl (by decide +kernel)
set_option maxRecDepth 65536 in
theorem w_c10 : (Jvm.Cond.code ({ cls := "RoomPlanner", name := "isValidType", desc := "(I)Z" } : Jvm.MethodName) prog_1_method_23_code (2 : Nat) (Option.some Jvm.ClassFile.FieldType.boolean)).before args0 about1 = true := code_word (m := ⟨2, 9⟩) (meth := k2m9) (c := k2c9) (by decide +kernel) rfl rfl rfl (by decide +kernel)
set_option maxRecDepth 65536 in
theorem w_c11 : (Jvm.Cond.code ({ cls := "RoomPlanner", name := "isValidNight", desc := "(I)Z" } : Jvm.MethodName) prog_1_method_24_code (2 : Nat) (Option.some Jvm.ClassFile.FieldType.boolean)).before args0 about1 = true := code_word (m := ⟨2, 10⟩) (meth := k2m10) (c := k2c10) (by decide +kernel) rfl rfl rfl (by decide +kernel)
set_option maxRecDepth 65536 in
theorem w_c12 : (Jvm.Cond.code ({ cls := "RoomPlanner", name := "isValidLength", desc := "(II)Z" } : Jvm.MethodName) prog_1_method_25_code (3 : Nat) (Option.some Jvm.ClassFile.FieldType.boolean)).before args0 about1 = true := code_word (m := ⟨2, 11⟩) (meth := k2m11) (c := k2c11) (by decide +kernel) rfl rfl rfl (by decide +kernel)
set_option maxRecDepth 65536 in
theorem w_c13 : (Jvm.Cond.code ({ cls := "RoomPlanner", name := "fitsWith", desc := "(IIII)Z" } : Jvm.MethodName) prog_1_method_44_code (7 : Nat) (Option.some Jvm.ClassFile.FieldType.boolean)).before args0 about1 = true := code_word (m := ⟨2, 25⟩) (meth := k2m25) (c := k2c25) (by decide +kernel) rfl rfl rfl (by decide +kernel)
set_option maxRecDepth 65536 in
theorem w_c14 : (Jvm.Cond.code ({ cls := "RoomPlanner", name := "endOf", desc := "(II)I" } : Jvm.MethodName) prog_1_method_34_code (4 : Nat) (Option.some Jvm.ClassFile.FieldType.int)).before args0 about1 = true := code_word (m := ⟨2, 18⟩) (meth := k2m18) (c := k2c18) (by decide +kernel) rfl rfl rfl (by decide +kernel)
set_option maxRecDepth 65536 in
theorem w_c15 : (Jvm.Cond.code ({ cls := "RoomPlanner", name := "nightFits", desc := "(III)Z" } : Jvm.MethodName) prog_1_method_43_code (8 : Nat) (Option.some Jvm.ClassFile.FieldType.boolean)).before args0 about1 = true := code_word (m := ⟨2, 24⟩) (meth := k2m24) (c := k2c24) (by decide +kernel) rfl rfl rfl (by decide +kernel)
set_option maxRecDepth 65536 in
theorem w_c16 : (Jvm.Cond.code ({ cls := "RoomPlanner", name := "atLeastAt", desc := "(II)I" } : Jvm.MethodName) prog_1_method_38_code (3 : Nat) (Option.some Jvm.ClassFile.FieldType.int)).before args0 about1 = true := code_word (m := ⟨2, 21⟩) (meth := k2m21) (c := k2c21) (by decide +kernel) rfl rfl rfl (by decide +kernel)
set_option maxRecDepth 65536 in
theorem w_c17 : (Jvm.Cond.code ({ cls := "RoomPlanner", name := "countIndex", desc := "(II)I" } : Jvm.MethodName) prog_1_method_36_code (3 : Nat) (Option.some Jvm.ClassFile.FieldType.int)).before args0 about1 = true := code_word (m := ⟨2, 20⟩) (meth := k2m20) (c := k2c20) (by decide +kernel) rfl rfl rfl (by decide +kernel)
set_option maxRecDepth 65536 in
theorem w_c18 : (Jvm.Cond.code ({ cls := "RoomPlanner", name := "exclusion", desc := "(III)I" } : Jvm.MethodName) prog_1_method_42_code (4 : Nat) (Option.some Jvm.ClassFile.FieldType.int)).before args0 about1 = true := code_word (m := ⟨2, 23⟩) (meth := k2m23) (c := k2c23) (by decide +kernel) rfl rfl rfl (by decide +kernel)
set_option maxRecDepth 65536 in
theorem w_c19 : (Jvm.Cond.code ({ cls := "RoomPlanner", name := "isActiveStay", desc := "(I)Z" } : Jvm.MethodName) prog_1_method_26_code (2 : Nat) (Option.some Jvm.ClassFile.FieldType.boolean)).before args0 about1 = true := code_word (m := ⟨2, 12⟩) (meth := k2m12) (c := k2c12) (by decide +kernel) rfl rfl rfl (by decide +kernel)
set_option maxRecDepth 65536 in
theorem w_c20 : (Jvm.Cond.code ({ cls := "RoomPlanner", name := "lowestInactiveSlot", desc := "()I" } : Jvm.MethodName) prog_1_method_29_code (2 : Nat) (Option.some Jvm.ClassFile.FieldType.int)).before args0 about1 = true := code_word (m := ⟨2, 15⟩) (meth := k2m15) (c := k2c15) (by decide +kernel) rfl rfl rfl (by decide +kernel)
set_option maxRecDepth 65536 in
theorem w_c21 : (Jvm.Cond.code ({ cls := "RoomPlanner", name := "activateStay", desc := "(IIII)V" } : Jvm.MethodName) prog_1_method_31_code (5 : Nat) (Option.none : Option Jvm.ClassFile.FieldType)).before args0 about1 = true := code_word (m := ⟨2, 17⟩) (meth := k2m17) (c := k2c17) (by decide +kernel) rfl rfl rfl (by decide +kernel)
set_option maxRecDepth 65536 in
theorem w_c22 : (Jvm.Cond.code ({ cls := "RoomPlanner", name := "storeStay", desc := "(IIII)V" } : Jvm.MethodName) prog_1_method_30_code (5 : Nat) (Option.none : Option Jvm.ClassFile.FieldType)).before args0 about1 = true := code_word (m := ⟨2, 16⟩) (meth := k2m16) (c := k2c16) (by decide +kernel) rfl rfl rfl (by decide +kernel)
set_option maxRecDepth 65536 in
theorem w_c23 : (Jvm.Cond.code ({ cls := "RoomPlanner", name := "adjustCoverage", desc := "(II)V" } : Jvm.MethodName) prog_1_method_39_code (8 : Nat) (Option.none : Option Jvm.ClassFile.FieldType)).before args0 about1 = true := code_word (m := ⟨2, 22⟩) (meth := k2m22) (c := k2c22) (by decide +kernel) rfl rfl rfl (by decide +kernel)
set_option maxRecDepth 65536 in
theorem w_c24 : (Jvm.Cond.code ({ cls := "RoomPlanner", name := "discardPlan", desc := "()V" } : Jvm.MethodName) prog_1_method_46_code (1 : Nat) (Option.none : Option Jvm.ClassFile.FieldType)).before args0 about1 = true := code_word (m := ⟨2, 26⟩) (meth := k2m26) (c := k2c26) (by decide +kernel) rfl rfl rfl (by decide +kernel)
set_option maxRecDepth 65536 in
theorem w_c25 : (Jvm.Cond.code ({ cls := "RoomPlanner", name := "isAssigned", desc := "()Z" } : Jvm.MethodName) prog_1_method_14_code (1 : Nat) (Option.some Jvm.ClassFile.FieldType.boolean)).before args0 about1 = true := code_word (m := ⟨2, 3⟩) (meth := k2m3) (c := k2c3) (by decide +kernel) rfl rfl rfl (by decide +kernel)
set_option maxRecDepth 65536 in
theorem w_c26 : (Jvm.Cond.code ({ cls := "RoomPlanner", name := "assign", desc := "()I" } : Jvm.MethodName) prog_1_method_13_code (5 : Nat) (Option.some Jvm.ClassFile.FieldType.int)).before args0 about1 = true := code_word (m := ⟨2, 2⟩) (meth := k2m2) (c := k2c2) (by decide +kernel) rfl rfl rfl (by decide +kernel)
set_option maxRecDepth 65536 in
theorem w_c27 : (Jvm.Cond.code ({ cls := "RoomPlanner", name := "buildOrder", desc := "()V" } : Jvm.MethodName) prog_1_method_50_code (3 : Nat) (Option.none : Option Jvm.ClassFile.FieldType)).before args0 about1 = true := code_word (m := ⟨2, 30⟩) (meth := k2m30) (c := k2c30) (by decide +kernel) rfl rfl rfl (by decide +kernel)
set_option maxRecDepth 65536 in
theorem w_c28 : (Jvm.Cond.code ({ cls := "RoomPlanner", name := "appendToOrder", desc := "(I)V" } : Jvm.MethodName) prog_1_method_51_code (2 : Nat) (Option.none : Option Jvm.ClassFile.FieldType)).before args0 about1 = true := code_word (m := ⟨2, 31⟩) (meth := k2m31) (c := k2c31) (by decide +kernel) rfl rfl rfl (by decide +kernel)
set_option maxRecDepth 65536 in
theorem w_c29 : (Jvm.Cond.code ({ cls := "RoomPlanner", name := "placeStay", desc := "(I)Z" } : Jvm.MethodName) prog_1_method_52_code (6 : Nat) (Option.some Jvm.ClassFile.FieldType.boolean)).before args0 about1 = true := code_word (m := ⟨2, 32⟩) (meth := k2m32) (c := k2c32) (by decide +kernel) rfl rfl rfl (by decide +kernel)
set_option maxRecDepth 65536 in
theorem w_c30 : (Jvm.Cond.code ({ cls := "RoomPlanner", name := "roomIsFree", desc := "(III)Z" } : Jvm.MethodName) prog_1_method_53_code (6 : Nat) (Option.some Jvm.ClassFile.FieldType.boolean)).before args0 about1 = true := code_word (m := ⟨2, 33⟩) (meth := k2m33) (c := k2c33) (by decide +kernel) rfl rfl rfl (by decide +kernel)
set_option maxRecDepth 65536 in
theorem w_c31 : (Jvm.Cond.code ({ cls := "RoomPlanner", name := "gridAt", desc := "(II)I" } : Jvm.MethodName) prog_1_method_49_code (3 : Nat) (Option.some Jvm.ClassFile.FieldType.int)).before args0 about1 = true := code_word (m := ⟨2, 29⟩) (meth := k2m29) (c := k2c29) (by decide +kernel) rfl rfl rfl (by decide +kernel)
set_option maxRecDepth 65536 in
theorem w_c32 : (Jvm.Cond.code ({ cls := "RoomPlanner", name := "gridIndex", desc := "(II)I" } : Jvm.MethodName) prog_1_method_48_code (3 : Nat) (Option.some Jvm.ClassFile.FieldType.int)).before args0 about1 = true := code_word (m := ⟨2, 28⟩) (meth := k2m28) (c := k2c28) (by decide +kernel) rfl rfl rfl (by decide +kernel)
set_option maxRecDepth 65536 in
theorem w_c33 : (Jvm.Cond.code ({ cls := "RoomPlanner", name := "markRoom", desc := "(IIII)V" } : Jvm.MethodName) prog_1_method_54_code (7 : Nat) (Option.none : Option Jvm.ClassFile.FieldType)).before args0 about1 = true := code_word (m := ⟨2, 34⟩) (meth := k2m34) (c := k2c34) (by decide +kernel) rfl rfl rfl (by decide +kernel)
set_option maxRecDepth 65536 in
theorem w_c34 : (Jvm.Cond.code ({ cls := "RoomPlanner", name := "roomOf", desc := "(I)I" } : Jvm.MethodName) prog_1_method_15_code (2 : Nat) (Option.some Jvm.ClassFile.FieldType.int)).before args0 about1 = true := code_word (m := ⟨2, 4⟩) (meth := k2m4) (c := k2c4) (by decide +kernel) rfl rfl rfl (by decide +kernel)
set_option maxRecDepth 65536 in
theorem w_c35 : (Jvm.Cond.code ({ cls := "RoomPlanner", name := "occupant", desc := "(II)I" } : Jvm.MethodName) prog_1_method_16_code (3 : Nat) (Option.some Jvm.ClassFile.FieldType.int)).before args0 about1 = true := code_word (m := ⟨2, 5⟩) (meth := k2m5) (c := k2c5) (by decide +kernel) rfl rfl rfl (by decide +kernel)
set_option maxRecDepth 65536 in
theorem w_c36 : (Jvm.Cond.code ({ cls := "RoomPlanner", name := "isValidRoom", desc := "(I)Z" } : Jvm.MethodName) prog_1_method_20_code (2 : Nat) (Option.some Jvm.ClassFile.FieldType.boolean)).before args0 about1 = true := code_word (m := ⟨2, 8⟩) (meth := k2m8) (c := k2c8) (by decide +kernel) rfl rfl rfl (by decide +kernel)
def codes1 : List Jvm.Cond := [Jvm.Cond.code x code maxLocals ret, Jvm.Cond.code ({ cls := "RoomPlanner", name := "<init>", desc := "(III)V" } : Jvm.MethodName) prog_1_method_1_code (4 : Nat) (Option.none : Option Jvm.ClassFile.FieldType), Jvm.Cond.code ({ cls := "java/lang/Object", name := "<init>", desc := "()V" } : Jvm.MethodName) object_method_1_code (1 : Nat) (Option.none : Option Jvm.ClassFile.FieldType), Jvm.Cond.code ({ cls := "RoomPlanner", name := "clampRooms", desc := "(I)I" } : Jvm.MethodName) prog_1_method_18_code (2 : Nat) (Option.some Jvm.ClassFile.FieldType.int), Jvm.Cond.code ({ cls := "RoomPlanner", name := "computeRoomTables", desc := "()V" } : Jvm.MethodName) prog_1_method_19_code (4 : Nat) (Option.none : Option Jvm.ClassFile.FieldType), Jvm.Cond.code ({ cls := "RoomPlanner", name := "resetStays", desc := "()V" } : Jvm.MethodName) prog_1_method_28_code (2 : Nat) (Option.none : Option Jvm.ClassFile.FieldType), Jvm.Cond.code ({ cls := "RoomPlanner", name := "resetCounts", desc := "()V" } : Jvm.MethodName) prog_1_method_35_code (2 : Nat) (Option.none : Option Jvm.ClassFile.FieldType), Jvm.Cond.code ({ cls := "RoomPlanner", name := "clearPlan", desc := "()V" } : Jvm.MethodName) prog_1_method_47_code (2 : Nat) (Option.none : Option Jvm.ClassFile.FieldType), Jvm.Cond.code ({ cls := "RoomPlanner", name := "book", desc := "(III)I" } : Jvm.MethodName) prog_1_method_2_code (6 : Nat) (Option.some Jvm.ClassFile.FieldType.int), Jvm.Cond.code ({ cls := "RoomPlanner", name := "requestError", desc := "(III)I" } : Jvm.MethodName) prog_1_method_27_code (4 : Nat) (Option.some Jvm.ClassFile.FieldType.int), Jvm.Cond.code ({ cls := "RoomPlanner", name := "isValidType", desc := "(I)Z" } : Jvm.MethodName) prog_1_method_23_code (2 : Nat) (Option.some Jvm.ClassFile.FieldType.boolean), Jvm.Cond.code ({ cls := "RoomPlanner", name := "isValidNight", desc := "(I)Z" } : Jvm.MethodName) prog_1_method_24_code (2 : Nat) (Option.some Jvm.ClassFile.FieldType.boolean), Jvm.Cond.code ({ cls := "RoomPlanner", name := "isValidLength", desc := "(II)Z" } : Jvm.MethodName) prog_1_method_25_code (3 : Nat) (Option.some Jvm.ClassFile.FieldType.boolean), Jvm.Cond.code ({ cls := "RoomPlanner", name := "fitsWith", desc := "(IIII)Z" } : Jvm.MethodName) prog_1_method_44_code (7 : Nat) (Option.some Jvm.ClassFile.FieldType.boolean), Jvm.Cond.code ({ cls := "RoomPlanner", name := "endOf", desc := "(II)I" } : Jvm.MethodName) prog_1_method_34_code (4 : Nat) (Option.some Jvm.ClassFile.FieldType.int), Jvm.Cond.code ({ cls := "RoomPlanner", name := "nightFits", desc := "(III)Z" } : Jvm.MethodName) prog_1_method_43_code (8 : Nat) (Option.some Jvm.ClassFile.FieldType.boolean), Jvm.Cond.code ({ cls := "RoomPlanner", name := "atLeastAt", desc := "(II)I" } : Jvm.MethodName) prog_1_method_38_code (3 : Nat) (Option.some Jvm.ClassFile.FieldType.int), Jvm.Cond.code ({ cls := "RoomPlanner", name := "countIndex", desc := "(II)I" } : Jvm.MethodName) prog_1_method_36_code (3 : Nat) (Option.some Jvm.ClassFile.FieldType.int), Jvm.Cond.code ({ cls := "RoomPlanner", name := "exclusion", desc := "(III)I" } : Jvm.MethodName) prog_1_method_42_code (4 : Nat) (Option.some Jvm.ClassFile.FieldType.int), Jvm.Cond.code ({ cls := "RoomPlanner", name := "isActiveStay", desc := "(I)Z" } : Jvm.MethodName) prog_1_method_26_code (2 : Nat) (Option.some Jvm.ClassFile.FieldType.boolean), Jvm.Cond.code ({ cls := "RoomPlanner", name := "lowestInactiveSlot", desc := "()I" } : Jvm.MethodName) prog_1_method_29_code (2 : Nat) (Option.some Jvm.ClassFile.FieldType.int), Jvm.Cond.code ({ cls := "RoomPlanner", name := "activateStay", desc := "(IIII)V" } : Jvm.MethodName) prog_1_method_31_code (5 : Nat) (Option.none : Option Jvm.ClassFile.FieldType), Jvm.Cond.code ({ cls := "RoomPlanner", name := "storeStay", desc := "(IIII)V" } : Jvm.MethodName) prog_1_method_30_code (5 : Nat) (Option.none : Option Jvm.ClassFile.FieldType), Jvm.Cond.code ({ cls := "RoomPlanner", name := "adjustCoverage", desc := "(II)V" } : Jvm.MethodName) prog_1_method_39_code (8 : Nat) (Option.none : Option Jvm.ClassFile.FieldType), Jvm.Cond.code ({ cls := "RoomPlanner", name := "discardPlan", desc := "()V" } : Jvm.MethodName) prog_1_method_46_code (1 : Nat) (Option.none : Option Jvm.ClassFile.FieldType), Jvm.Cond.code ({ cls := "RoomPlanner", name := "isAssigned", desc := "()Z" } : Jvm.MethodName) prog_1_method_14_code (1 : Nat) (Option.some Jvm.ClassFile.FieldType.boolean), Jvm.Cond.code ({ cls := "RoomPlanner", name := "assign", desc := "()I" } : Jvm.MethodName) prog_1_method_13_code (5 : Nat) (Option.some Jvm.ClassFile.FieldType.int), Jvm.Cond.code ({ cls := "RoomPlanner", name := "buildOrder", desc := "()V" } : Jvm.MethodName) prog_1_method_50_code (3 : Nat) (Option.none : Option Jvm.ClassFile.FieldType), Jvm.Cond.code ({ cls := "RoomPlanner", name := "appendToOrder", desc := "(I)V" } : Jvm.MethodName) prog_1_method_51_code (2 : Nat) (Option.none : Option Jvm.ClassFile.FieldType), Jvm.Cond.code ({ cls := "RoomPlanner", name := "placeStay", desc := "(I)Z" } : Jvm.MethodName) prog_1_method_52_code (6 : Nat) (Option.some Jvm.ClassFile.FieldType.boolean), Jvm.Cond.code ({ cls := "RoomPlanner", name := "roomIsFree", desc := "(III)Z" } : Jvm.MethodName) prog_1_method_53_code (6 : Nat) (Option.some Jvm.ClassFile.FieldType.boolean), Jvm.Cond.code ({ cls := "RoomPlanner", name := "gridAt", desc := "(II)I" } : Jvm.MethodName) prog_1_method_49_code (3 : Nat) (Option.some Jvm.ClassFile.FieldType.int), Jvm.Cond.code ({ cls := "RoomPlanner", name := "gridIndex", desc := "(II)I" } : Jvm.MethodName) prog_1_method_48_code (3 : Nat) (Option.some Jvm.ClassFile.FieldType.int), Jvm.Cond.code ({ cls := "RoomPlanner", name := "markRoom", desc := "(IIII)V" } : Jvm.MethodName) prog_1_method_54_code (7 : Nat) (Option.none : Option Jvm.ClassFile.FieldType), Jvm.Cond.code ({ cls := "RoomPlanner", name := "roomOf", desc := "(I)I" } : Jvm.MethodName) prog_1_method_15_code (2 : Nat) (Option.some Jvm.ClassFile.FieldType.int), Jvm.Cond.code ({ cls := "RoomPlanner", name := "occupant", desc := "(II)I" } : Jvm.MethodName) prog_1_method_16_code (3 : Nat) (Option.some Jvm.ClassFile.FieldType.int), Jvm.Cond.code ({ cls := "RoomPlanner", name := "isValidRoom", desc := "(I)Z" } : Jvm.MethodName) prog_1_method_20_code (2 : Nat) (Option.some Jvm.ClassFile.FieldType.boolean)]
set_option maxRecDepth 65536 in
theorem codes_eq : words1.filter isCode = codes1 := rfl
theorem w_codes : ∀ c ∈ words1.filter isCode, c.before args0 about1 = true := by
  rw [codes_eq]
  intro c hc
  simp only [codes1, List.mem_cons, List.not_mem_nil, or_false] at hc
  rcases hc with rfl | rfl | rfl | rfl | rfl | rfl | rfl | rfl | rfl | rfl | rfl | rfl | rfl | rfl | rfl | rfl | rfl | rfl | rfl | rfl | rfl | rfl | rfl | rfl | rfl | rfl | rfl | rfl | rfl | rfl | rfl | rfl | rfl | rfl | rfl | rfl | rfl
  · exact w_c0
  · exact w_c1
  · exact w_c2
  · exact w_c3
  · exact w_c4
  · exact w_c5
  · exact w_c6
  · exact w_c7
  · exact w_c8
  · exact w_c9
  · exact w_c10
  · exact w_c11
  · exact w_c12
  · exact w_c13
  · exact w_c14
  · exact w_c15
  · exact w_c16
  · exact w_c17
  · exact w_c18
  · exact w_c19
  · exact w_c20
  · exact w_c21
  · exact w_c22
  · exact w_c23
  · exact w_c24
  · exact w_c25
  · exact w_c26
  · exact w_c27
  · exact w_c28
  · exact w_c29
  · exact w_c30
  · exact w_c31
  · exact w_c32
  · exact w_c33
  · exact w_c34
  · exact w_c35
  · exact w_c36
set_option maxRecDepth 65536 in
theorem w_t1 : (words1.take 24).all (fun c => isCode c || c.before args0 about1) = true := by decide +kernel
set_option maxRecDepth 65536 in
theorem w_t2 : ((words1.drop 24).take 24).all (fun c => isCode c || c.before args0 about1) = true := by decide +kernel
set_option maxRecDepth 65536 in
theorem w_t3 : (((words1.drop 24).drop 24).take 24).all (fun c => isCode c || c.before args0 about1) = true := by decide +kernel
set_option maxRecDepth 65536 in
theorem w_t4 : ((((words1.drop 24).drop 24).drop 24).take 24).all (fun c => isCode c || c.before args0 about1) = true := by decide +kernel
set_option maxRecDepth 65536 in
theorem w_t5 : (((((words1.drop 24).drop 24).drop 24).drop 24).take 24).all (fun c => isCode c || c.before args0 about1) = true := by decide +kernel
set_option maxRecDepth 65536 in
theorem w_t6 : ((((((words1.drop 24).drop 24).drop 24).drop 24).drop 24).take 24).all (fun c => isCode c || c.before args0 about1) = true := by decide +kernel
set_option maxRecDepth 65536 in
theorem w_t7 : (((((((words1.drop 24).drop 24).drop 24).drop 24).drop 24).drop 24).take 24).all (fun c => isCode c || c.before args0 about1) = true := by decide +kernel
set_option maxRecDepth 65536 in
theorem w_t8 : (((((((words1.drop 24).drop 24).drop 24).drop 24).drop 24).drop 24).drop 24).all (fun c => isCode c || c.before args0 about1) = true := by decide +kernel
theorem w_tables : (allAtoms (Jvm.Cond.code x code maxLocals ret :: tables_1)).before args0 about1 = true := by
  rw [allAtoms_all]
  show words1.all (fun c => c.before args0 about1) = true
  refine all_split ?_ w_codes
  rw [← List.take_append_drop 24 words1, List.all_append, w_t1, ← List.take_append_drop 24 (words1.drop 24), List.all_append, w_t2, ← List.take_append_drop 24 ((words1.drop 24).drop 24), List.all_append, w_t3, ← List.take_append_drop 24 (((words1.drop 24).drop 24).drop 24), List.all_append, w_t4, ← List.take_append_drop 24 ((((words1.drop 24).drop 24).drop 24).drop 24), List.all_append, w_t5, ← List.take_append_drop 24 (((((words1.drop 24).drop 24).drop 24).drop 24).drop 24), List.all_append, w_t6, ← List.take_append_drop 24 ((((((words1.drop 24).drop 24).drop 24).drop 24).drop 24).drop 24), List.all_append, w_t7, w_t8]
  rfl
set_option maxRecDepth 65536 in
theorem w_case : (Jvm.Cond.and given_1 narrow_1).before args0 about1 = true := by decide +kernel
theorem w_applies : (headSpec (Jvm.Cond.code x code maxLocals ret :: tables_1) room_1).applies x e0.platform about1 = true :=
  (Spec.applies_iff w_frames).mpr ⟨w_running, w_runnable, w_alone, w_named, w_hears, w_ripe, w_room, w_tables⟩
theorem atStart : AtStart classFile x code maxLocals ret World_1 tables_1 room_1 Calls_1 rest_1 Pre_1 launch0 p0 e0 about1 theMethod args0 below0 :=
  ⟨lists_1, trivial, launch0.admits_env _ _ _, launch0.least_env, fairChoices_fair.cas, fairChoices_fair.clock, w_frames, w_args, w_heap, w_applies, trivial, trivial, w_case⟩
end start1
theorem witness_1 : WitnessClaimed_1 := ⟨start1.p0, start1.e0, start1.about1, start1.theMethod, start1.args0, start1.below0, start1.atStart⟩
end Jvm.Pilot.@@N@@
