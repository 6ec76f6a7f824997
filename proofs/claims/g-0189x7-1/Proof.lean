import JvmDerived
import JvmDerived.Pilot.@@N@@Statement
import JvmDerived.Pilot.@@N@@Code
set_option linter.unusedVariables false
set_option linter.unusedSimpArgs false
namespace Jvm.Own
open Jvm Jvm.ClassFile Sem Op Lib Jvm.Free Jvm.Stand Jvm.LawKit Jvm.RoadKit Bundle

/-! A plain machine: the few instructions that these classes use, over a heap of plain lists. -/
/-- an object (class number, fields in order) | an int array (false) or boolean array (true) | a long array -/
abbrev ACell := (Nat × List Value) ⊕ ((Bool × List Int32) ⊕ List Int64)
abbrev AHeap := List ACell
/-- instruction, length, variables forgotten ahead of it, link number, constant -/
abbrev It := Instr × Nat × List Bool × Nat × Int
/-- a field: name, descriptor, type, final -/
abbrev FD := String × String × FieldType × Bool
/-- a class: name, number of its slots, its fields -/
abbrev CD := String × Nat × List FD
/-- a method: name, bytes, variables, return type; kind (0 static, 1 constructor, 2 private, 3 virtual), parameters, class number, frames, words; code -/
abbrev MD := MethodName × ByteArray × Nat × Option FieldType × Nat × Nat × Nat × Nat × Nat × List (Nat × It)
/-- classes, methods, number of cells that are only read -/
abbrev PD := List CD × List MD × Nat
abbrev PD.cls (P : PD) : List CD := P.1
abbrev PD.mth (P : PD) : List MD := P.2.1
abbrev PD.nr (P : PD) : Nat := P.2.2
abbrev MD.name (d : MD) : MethodName := d.1
abbrev MD.bytes (d : MD) : ByteArray := d.2.1
abbrev MD.maxL (d : MD) : Nat := d.2.2.1
abbrev MD.ret (d : MD) : Option FieldType := d.2.2.2.1
abbrev MD.kind (d : MD) : Nat := d.2.2.2.2.1
abbrev MD.npar (d : MD) : Nat := d.2.2.2.2.2.1
abbrev MD.cid (d : MD) : Nat := d.2.2.2.2.2.2.1
abbrev MD.rf (d : MD) : Nat := d.2.2.2.2.2.2.2.1
abbrev MD.rw (d : MD) : Nat := d.2.2.2.2.2.2.2.2.1
abbrev MD.code (d : MD) : List (Nat × It) := d.2.2.2.2.2.2.2.2.2

def rdA {α : Type} (L : List α) (j : Int32) : Option α := if j < 0 then none else L[j.toNatClampNeg]?
def wrA {α : Type} (L : List α) (j : Int32) (x : α) : Option (List α) := if j < 0 then none else if j.toNatClampNeg < L.length then some (L.set j.toNatClampNeg x) else none
def getL (L : List Slot) (k : Nat) : Option Value := match L[k]? with | some (.val v) => some v | _ => none
def isC2 : Option Slot → Bool | some (.val v) => v.category == 2 | _ => false
def isSec : Option Slot → Bool | some .second => true | _ => false
def free1 : Option Slot → Bool | some .unset => true | some (.val v) => v.category == 1 | _ => false
def st1 (L : List Slot) (k : Nat) (v : Value) : Option (List Slot) :=
  if free1 L[k]? && (k == 0 || !isC2 L[k - 1]?) && !isSec L[k + 1]? then some (L.set k (.val v)) else none
def free2 : Option Slot → Option Slot → Bool | some .unset, some .unset => true | some (.val v), some .second => v.category == 2 | _, _ => false
def st2 (L : List Slot) (k : Nat) (v : Value) : Option (List Slot) :=
  if free2 L[k]? L[k + 1]? && (k == 0 || !isC2 L[k - 1]?) && !isSec L[k + 2]? then some ((L.set k (.val v)).set (k + 1) .second) else none
def forget : List Bool → List Slot → List Slot
  | [], L => L
  | _ :: _, [] => []
  | true :: r, _ :: L => .unset :: forget r L
  | false :: r, s :: L => s :: forget r L
def catSum : List Value → Nat
  | [] => 0
  | v :: r => v.category + catSum r
def entA : List Value → List Slot
  | [] => []
  | v :: r => if v.category = 2 then .val v :: .second :: entA r else .val v :: entA r
def entL (as : List Value) (n : Nat) : List Slot := entA as ++ List.replicate (n - (entA as).length) .unset
def putOk : FieldType → Value → Bool
  | .int, .int _ => true
  | .long, .long _ => true
  | .boolean, .int x => (x == 0) || (x == 1)
  | .array _, .ref _ => true
  | _, _ => false
def dflt : FieldType → Value
  | .long => .long 0
  | .array _ => .null
  | _ => .int 0
def dfOk : FieldType → Bool
  | .int => true
  | .boolean => true
  | .long => true
  | .array _ => true
  | _ => false
def tgt (pc : Nat) (o : Int) : Option Nat := if 0 ≤ (pc : Int) + o then some ((pc : Int) + o).toNat else none
def fetch : List (Nat × It) → Nat → Option It
  | [], _ => none
  | (q, i) :: r, pc => if q = pc then some i else fetch r pc
/-- one instruction that neither branches nor calls nor returns -/
def xI (P : PD) (ini : Bool) (cid : Nat) (i : Instr) (a : Nat) (b : Int) (L : List Slot) (S : List Value) (H : AHeap) : Option (List Slot × List Value × AHeap) :=
  match i with
  | .aload_n k => match getL L k.val with | some (.ref x) => some (L, .ref x :: S, H) | _ => none
  | .aload k => match getL L k with | some (.ref x) => some (L, .ref x :: S, H) | _ => none
  | .iload_n k => match getL L k.val with | some (.int x) => some (L, .int x :: S, H) | _ => none
  | .iload k => match getL L k with | some (.int x) => some (L, .int x :: S, H) | _ => none
  | .lload_n k => match getL L k.val with | some (.long x) => some (L, .long x :: S, H) | _ => none
  | .lload k => match getL L k with | some (.long x) => some (L, .long x :: S, H) | _ => none
  | .istore_n k => match S with | .int x :: S' => (st1 L k.val (.int x)).map fun L' => (L', S', H) | _ => none
  | .istore k => match S with | .int x :: S' => (st1 L k (.int x)).map fun L' => (L', S', H) | _ => none
  | .astore_n k => match S with | .ref x :: S' => (st1 L k.val (.ref x)).map fun L' => (L', S', H) | _ => none
  | .astore k => match S with | .ref x :: S' => (st1 L k (.ref x)).map fun L' => (L', S', H) | _ => none
  | .lstore_n k => match S with | .long x :: S' => (st2 L k.val (.long x)).map fun L' => (L', S', H) | _ => none
  | .lstore k => match S with | .long x :: S' => (st2 L k (.long x)).map fun L' => (L', S', H) | _ => none
  | .iinc k d => match getL L k with | some (.int x) => (st1 L k (.int (x + Int32.ofInt d))).map fun L' => (L', S, H) | _ => none
  | .iconst d => some (L, .int (Int32.ofInt d) :: S, H)
  | .bipush d => some (L, .int (Int8.ofInt d).toInt32 :: S, H)
  | .sipush d => some (L, .int (Int16.ofInt d).toInt32 :: S, H)
  | .lconst k => some (L, .long (Int64.ofNat k) :: S, H)
  | .ldc _ => some (L, .int (Int32.ofInt b) :: S, H)
  | .ldc2_w _ => some (L, .long (Int64.ofInt b) :: S, H)
  | .iadd => match S with | .int y :: .int x :: S' => some (L, .int (x + y) :: S', H) | _ => none
  | .isub => match S with | .int y :: .int x :: S' => some (L, .int (x - y) :: S', H) | _ => none
  | .imul => match S with | .int y :: .int x :: S' => some (L, .int (x * y) :: S', H) | _ => none
  | .iand => match S with | .int y :: .int x :: S' => some (L, .int (x &&& y) :: S', H) | _ => none
  | .ior => match S with | .int y :: .int x :: S' => some (L, .int (x ||| y) :: S', H) | _ => none
  | .ixor => match S with | .int y :: .int x :: S' => some (L, .int (x ^^^ y) :: S', H) | _ => none
  | .ishl => match S with | .int y :: .int x :: S' => some (L, .int (x <<< (y &&& 31)) :: S', H) | _ => none
  | .ishr => match S with | .int y :: .int x :: S' => some (L, .int (x >>> (y &&& 31)) :: S', H) | _ => none
  | .iushr => match S with | .int y :: .int x :: S' => some (L, .int (XT.ushr x y) :: S', H) | _ => none
  | .idiv => match S with | .int y :: .int x :: S' => if y = 0 then none else some (L, .int (x / y) :: S', H) | _ => none
  | .irem => match S with | .int y :: .int x :: S' => if y = 0 then none else some (L, .int (x % y) :: S', H) | _ => none
  | .ladd => match S with | .long y :: .long x :: S' => some (L, .long (x + y) :: S', H) | _ => none
  | .lsub => match S with | .long y :: .long x :: S' => some (L, .long (x - y) :: S', H) | _ => none
  | .lmul => match S with | .long y :: .long x :: S' => some (L, .long (x * y) :: S', H) | _ => none
  | .land => match S with | .long y :: .long x :: S' => some (L, .long (x &&& y) :: S', H) | _ => none
  | .lor => match S with | .long y :: .long x :: S' => some (L, .long (x ||| y) :: S', H) | _ => none
  | .lxor => match S with | .long y :: .long x :: S' => some (L, .long (x ^^^ y) :: S', H) | _ => none
  | .lshl => match S with | .int y :: .long x :: S' => some (L, .long (x <<< (y.toInt64 &&& 63)) :: S', H) | _ => none
  | .lshr => match S with | .int y :: .long x :: S' => some (L, .long (x >>> (y.toInt64 &&& 63)) :: S', H) | _ => none
  | .lushr => match S with | .int y :: .long x :: S' => some (L, .long (XT.ushrL x y) :: S', H) | _ => none
  | .ldiv => match S with | .long y :: .long x :: S' => if y = 0 then none else some (L, .long (x / y) :: S', H) | _ => none
  | .lrem => match S with | .long y :: .long x :: S' => if y = 0 then none else some (L, .long (x % y) :: S', H) | _ => none
  | .lcmp => match S with | .long y :: .long x :: S' => some (L, .int (XT.cmpL x y) :: S', H) | _ => none
  | .i2l => match S with | .int x :: S' => some (L, .long x.toInt64 :: S', H) | _ => none
  | .l2i => match S with | .long x :: S' => some (L, .int x.toInt32 :: S', H) | _ => none
  | .dup => match S with
    | .int x :: S' => some (L, .int x :: .int x :: S', H)
    | .ref x :: S' => some (L, .ref x :: .ref x :: S', H)
    | _ => none
  | .dup2 => match S with
    | .int x :: .ref y :: S' => some (L, .int x :: .ref y :: .int x :: .ref y :: S', H)
    | .long x :: S' => some (L, .long x :: .long x :: S', H)
    | _ => none
  | .pop => match S with | .int _ :: S' => some (L, S', H) | _ => none
  | .getfield _ => match S with
    | .ref o :: S' => match H[o]? with
      | some (.inl (c, fs)) => if c = cid then match fs[a]? with
        | some (.int x) => some (L, .int x :: S', H)
        | some (.long x) => some (L, .long x :: S', H)
        | some (.ref x) => some (L, .ref x :: S', H)
        | _ => none
        else none
      | _ => none
    | _ => none
  | .putfield _ => match S with
    | v :: .ref o :: S' => match H[o]? with
      | some (.inl (c, fs)) => if c = cid ∧ P.nr ≤ o then match (P.cls[c]?).bind fun cd => cd.2.2[a]? with
        | some (_, _, ty, fin) => if putOk ty v && (!fin || ini) then some (L, S', H.set o (.inl (c, fs.set a v))) else none
        | none => none
        else none
      | _ => none
    | _ => none
  | .iaload => match S with
    | .int j :: .ref o :: S' => match H[o]? with
      | some (.inr (.inl (false, A))) => (rdA A j).map fun x => (L, .int x :: S', H)
      | _ => none
    | _ => none
  | .baload => match S with
    | .int j :: .ref o :: S' => match H[o]? with
      | some (.inr (.inl (true, A))) => (rdA A j).map fun x => (L, .int x :: S', H)
      | _ => none
    | _ => none
  | .laload => match S with
    | .int j :: .ref o :: S' => match H[o]? with
      | some (.inr (.inr A)) => (rdA A j).map fun x => (L, .long x :: S', H)
      | _ => none
    | _ => none
  | .iastore => match S with
    | .int x :: .int j :: .ref o :: S' => match H[o]? with
      | some (.inr (.inl (false, A))) => if P.nr ≤ o then (wrA A j x).map fun A' => (L, S', H.set o (.inr (.inl (false, A')))) else none
      | _ => none
    | _ => none
  | .bastore => match S with
    | .int x :: .int j :: .ref o :: S' => match H[o]? with
      | some (.inr (.inl (true, A))) => if P.nr ≤ o then (wrA A j (x &&& 1)).map fun A' => (L, S', H.set o (.inr (.inl (true, A')))) else none
      | _ => none
    | _ => none
  | .lastore => match S with
    | .long x :: .int j :: .ref o :: S' => match H[o]? with
      | some (.inr (.inr A)) => if P.nr ≤ o then (wrA A j x).map fun A' => (L, S', H.set o (.inr (.inr A'))) else none
      | _ => none
    | _ => none
  | .arraylength => match S with
    | .ref o :: S' => match H[o]? with
      | some (.inr (.inl (_, A))) => some (L, .int A.length.toInt32 :: S', H)
      | _ => none
    | _ => none
  | _ => none
/-- one instruction that makes a cell: how many slots it takes stands last -/
def xN (P : PD) (i : Instr) (a : Nat) (S : List Value) (H : AHeap) : Option (List Value × AHeap × Nat) :=
  match i with
  | .new _ => match P.cls[a]? with
    | some cd => some (.ref H.length :: S, H ++ [.inl (a, cd.2.2.map fun f => dflt f.2.2.1)], cd.2.1)
    | none => none
  | .newarray t => match S with
    | .int n :: S' => if n < 0 ∨ 100000 < n.toNatClampNeg then none else match t with
      | .int => some (.ref H.length :: S', H ++ [.inr (.inl (false, List.replicate n.toNatClampNeg 0))], n.toNatClampNeg)
      | .boolean => some (.ref H.length :: S', H ++ [.inr (.inl (true, List.replicate n.toNatClampNeg 0))], n.toNatClampNeg)
      | .long => some (.ref H.length :: S', H ++ [.inr (.inr (List.replicate n.toNatClampNeg 0))], n.toNatClampNeg)
      | _ => none
    | _ => none
  | _ => none
/-- the words that a call from d to y asks -/
def fitsRoom (d y : MD) (rest : List Value) : Bool := decide (y.rf + 1 ≤ d.rf) && decide (catSum rest + (y.maxL + 11) + y.rw ≤ d.rw)
/-- the arguments of a call, first to last, and what lies under them -/
def argsOf (n : Nat) (S : List Value) : Option (List Value × List Value) := if n ≤ S.length then some ((S.take n).reverse, S.drop n) else none
def recvOk (P : PD) (H : AHeap) (y : MD) (as : List Value) : Bool :=
  if y.kind = 0 then true else match as with
    | .ref o :: _ => match H[o]? with
      | some (.inl (c, _)) => decide (c = y.cid)
      | _ => false
    | _ => false
def nargs (y : MD) : Nat := if y.kind = 0 then y.npar else y.npar + 1
def invKind (i : Instr) (k : Nat) : Bool := match i with
  | .invokestatic _ => k == 0
  | .invokespecial _ => k == 1
  | .invokevirtual _ => k == 2 || k == 3
  | _ => false
/-- what a method returns of an int on its stack -/
def retV (r : Option FieldType) (x : Int32) : Option Value := match r with
  | some .int => some (.int x)
  | some .boolean => some (.int (x &&& 1))
  | _ => none
def isInv : Instr → Bool
  | .invokestatic _ => true
  | .invokespecial _ => true
  | .invokevirtual _ => true
  | _ => false
def isNew : Instr → Bool
  | .new _ => true
  | .newarray _ => true
  | _ => false
/-- what a run answers: what it returns, the heap, how many cells and slots it has made -/
abbrev Res := Option Value × AHeap × Nat × Nat
def addR (r : Res) (kc ks : Nat) : Res := (r.1, r.2.1, r.2.2.1 + kc, r.2.2.2 + ks)
/-- n instructions at the most, from pc of method mi to its return -/
def exe (P : PD) : Nat → Nat → Nat → List Slot → List Value → AHeap → Option Res
  | 0, _, _, _, _, _ => none
  | n + 1, mi, pc, L0, S, H => match P.mth[mi]? with
    | none => none
    | some d => match fetch d.code pc with
      | none => none
      | some (i, len, er, a, b) =>
        let L := forget er L0
        match i with
        | .goto o => match tgt pc o with
          | some q => exe P n mi q L S H
          | none => none
        | .if_icmp cd o => match S with
          | .int y :: .int x :: S' => if if_icmp.holds cd x y = true then match tgt pc o with
              | some q => exe P n mi q L S' H
              | none => none
            else exe P n mi (pc + 3) L S' H
          | _ => none
        | .ifCond cd o => match S with
          | .int x :: S' => if ifCond.holds cd x = true then match tgt pc o with
              | some q => exe P n mi q L S' H
              | none => none
            else exe P n mi (pc + 3) L S' H
          | _ => none
        | .ifnonnull o => match S with
          | .ref _ :: S' => match tgt pc o with
            | some q => exe P n mi q L S' H
            | none => none
          | _ => none
        | .ireturn => match S with
          | [.int x] => match retV d.ret x with
            | some v => some (some v, H, 0, 0)
            | none => none
          | _ => none
        | .lreturn => match S with
          | [.long x] => if d.ret = some .long then some (some (.long x), H, 0, 0) else none
          | _ => none
        | .return_ => match S with
          | [] => if d.ret = none then some (none, H, 0, 0) else none
          | _ => none
        | i => if isInv i = true then
            if b = -1 then match i, S with
              | .invokespecial _, .ref _ :: S' => if 1 ≤ d.rf ∧ catSum S' + 12 ≤ d.rw then exe P n mi (pc + 3) L S' H else none
              | _, _ => none
            else match P.mth[a]? with
              | none => none
              | some y => match argsOf (nargs y) S with
                | none => none
                | some (as, rest) =>
                  if decide (0 < a) && invKind i y.kind && recvOk P H y as && fitsRoom d y rest && decide ((entA as).length ≤ y.maxL) then
                    match exe P n a 0 (entL as y.maxL) [] H with
                    | some (v, H1, kc, ks) => (exe P n mi (pc + 3) L (v.toList ++ rest) H1).map fun r => addR r kc ks
                    | none => none
                  else none
          else if isNew i = true then match xN P i a S H with
            | some (S', H', ks) => (exe P n mi (pc + len) L S' H').map fun r => addR r 1 ks
            | none => none
          else match xI P (d.name.name == "<init>") d.cid i a b L S H with
            | some (L', S', H') => exe P n mi (pc + len) L' S' H'
            | none => none
end Jvm.Own
namespace Jvm.Own
open Jvm Jvm.ClassFile Sem Op Lib Jvm.Free Jvm.Stand Jvm.LawKit Jvm.RoadKit Bundle

/-! The words that the machine's program rests on -/
def fWord (C : String) (f : FD) : Jvm.Cond := if f.2.2.2 then .laysFinal C C f.1 f.2.1 else .lays C C f.1 f.2.1
def cWords (cd : CD) : List Jvm.Cond := .instantiable cd.1 cd.2.1 :: .initialized cd.1 :: cd.2.2.map (fWord cd.1)
def mWords (y : MD) : List Jvm.Cond := .code y.name y.bytes y.maxL y.ret :: .initialized y.name.cls ::
  (if y.kind = 0 then [.static y.name] else if y.kind = 1 then [.instanceMethod y.name] else if y.kind = 2 then [.instanceMethod y.name, .privateMethod y.name]
   else [.declares y.name, .selects y.name.cls y.name y.name, .instanceMethod y.name])
def fieldOf (P : PD) (c a : Nat) : Option FD := (P.cls[c]?).bind fun cd => cd.2.2[a]?
def fLink (P : PD) (d : MD) (k a : Nat) : List Jvm.Cond := match fieldOf P d.cid a with | some f => [.fieldLink d.name.cls k d.name.cls f.1 f.2.1] | none => []
def mLink (P : PD) (d : MD) (k a : Nat) (b : Int) : List Jvm.Cond :=
  if b = -1 then [.methodLink d.name.cls k Lib.objectInit, .instanceMethod Lib.objectInit, .code Lib.objectInit ⟨#[0xb1]⟩ 1 none]
  else match P.mth[a]? with | some y => [.methodLink d.name.cls k y.name] | none => []
def iWords (P : PD) (d : MD) (x : Nat × It) : List Jvm.Cond := match x with
  | (_, .getfield k, _, _, a, _) => fLink P d k a
  | (_, .putfield k, _, _, a, _) => fLink P d k a
  | (_, .ldc k, _, _, _, b) => [.constant d.name.cls k (Int32.ofInt b)]
  | (_, .ldc2_w k, _, _, _, b) => [.constantLong d.name.cls k (Int64.ofInt b)]
  | (_, .new k, _, _, a, _) => match P.cls[a]? with | some cd => [.classLink d.name.cls k cd.1] | none => []
  | (_, .newarray t, _, _, _, _) => [.arrayClass (newarray.typeOf t)]
  | (_, .invokestatic k, _, _, a, b) => mLink P d k a b
  | (_, .invokespecial k, _, _, a, b) => mLink P d k a b
  | (_, .invokevirtual k, _, _, a, b) => mLink P d k a b
  | _ => []
def wordsOf (P : PD) : List Jvm.Cond := P.cls.flatMap cWords ++ (P.mth.drop 1).flatMap mWords ++ P.mth.flatMap fun d => d.code.flatMap (iWords P d)
/-! What can be looked up in the program itself -/
def nodup : List String → Bool
  | [] => true
  | x :: r => !r.contains x && nodup r
def fChk (f : FD) : Bool := decide (parseFieldDescriptor f.2.1 = some f.2.2.1) && dfOk f.2.2.1
def cChk (cd : CD) : Bool := nodup (cd.2.2.map fun f => f.1) && cd.2.2.all fChk
def sigChk (y : MD) : Bool := match parseMethodDescriptor y.name.desc with
  | some g => decide (g.parameters.length = y.npar)
  | none => false
def lenOk (i : Instr) (n : Nat) : Bool := match i with
  | .aload _ | .iload _ | .lload _ | .istore _ | .astore _ | .lstore _ | .bipush _ | .ldc _ | .newarray _ => n == 2
  | .iinc _ _ | .sipush _ | .ldc2_w _ | .getfield _ | .putfield _ | .new _ | .goto _ | .if_icmp _ _ | .ifCond _ _ | .ifnonnull _ | .invokestatic _ | .invokespecial _ | .invokevirtual _ => n == 3
  | _ => n == 1
def codeChk (y : MD) : Bool := y.code.all fun x => decide (decode y.bytes x.1 = .ok (x.2.1, x.2.2.1)) && lenOk x.2.1 x.2.2.1
def clsChk (P : PD) (y : MD) : Bool := match P.cls[y.cid]? with | some cd => cd.1 == y.name.cls | none => y.kind == 0
def mChk (P : PD) (y : MD) : Bool := plainName y.name.cls && sigChk y && codeChk y && clsChk P y && decide (y.name.cls ≠ "java/lang/invoke/MethodHandle") && decide (y.name.cls ≠ "java/lang/invoke/VarHandle") && (y.kind != 1 || (y.name.name == "<init>" && decide (y.ret = none)))
def chk (P : PD) : Bool := P.cls.all cChk && P.mth.all (mChk P)

/-! Plain and real values -/
def VR (ρ : List Addr) : Value → Value → Prop
  | .ref k, w => ∃ a, ρ[k]? = some a ∧ w = .ref a
  | v, w => w = v
def SR (ρ : List Addr) : List Value → List Value → Prop
  | [], ws => ws = []
  | v :: vs, ws => ∃ w ws', ws = w :: ws' ∧ VR ρ v w ∧ SR ρ vs ws'
def OV (ρ : List Addr) : Option Value → Option Value → Prop
  | none, w => w = none
  | some v, w => ∃ u, w = some u ∧ VR ρ v u
def WFc (A : Array Slot) : Prop := (∀ (i : Nat) w, A[i]? = some (.val w) → w.category = 2 → A[i + 1]? = some .second) ∧ ∀ (i : Nat), A[i]? = some .second → ∃ j w, i = j + 1 ∧ A[j]? = some (.val w) ∧ w.category = 2
def SlR (ρ : List Addr) : Slot → Option Slot → Prop
  | .unset, _ => True
  | .second, o => o = some .second
  | .val v, o => ∃ w, VR ρ v w ∧ o = some (.val w)
def LR (ρ : List Addr) (L : List Slot) (A : Array Slot) : Prop := A.size = L.length ∧ WFc A ∧ ∀ (i : Nat) s, L[i]? = some s → SlR ρ s A[i]?
theorem VR.mono {ρ t : List Addr} {v w : Value} (h : VR ρ v w) : VR (ρ ++ t) v w := by
  cases v <;> first | exact h | skip
  obtain ⟨a, h1, h2⟩ := h
  exact ⟨a, by rw [List.getElem?_append_left (List.getElem?_eq_some_iff.mp h1).1]; exact h1, h2⟩
theorem SR.mono {ρ t : List Addr} : ∀ {v w : List Value}, SR ρ v w → SR (ρ ++ t) v w
  | [], _, h => h
  | _ :: _, _, ⟨w, ws, h1, h2, h3⟩ => ⟨w, ws, h1, h2.mono, SR.mono h3⟩
theorem SlR.mono {ρ t : List Addr} {s : Slot} {o : Option Slot} (h : SlR ρ s o) : SlR (ρ ++ t) s o := by
  cases s with
  | unset => trivial
  | second => exact h
  | val v => obtain ⟨w, h1, h2⟩ := h; exact ⟨w, h1.mono, h2⟩
theorem LR.mono {ρ t : List Addr} {L : List Slot} {A : Array Slot} (h : LR ρ L A) : LR (ρ ++ t) L A := ⟨h.1, h.2.1, fun i s q => (h.2.2 i s q).mono⟩
theorem VR.cat {ρ : List Addr} {v w : Value} (h : VR ρ v w) : w.category = v.category := by
  cases v <;> first | (obtain ⟨a, -, rfl⟩ := h; rfl) | (cases h; rfl)
theorem SR.cat {ρ : List Addr} : ∀ {v w : List Value}, SR ρ v w → (w.map fun v => v.category).sum = catSum v
  | [], _, h => by cases h; rfl
  | _ :: _, _, ⟨w, ws, h1, h2, h3⟩ => by subst h1; simp [catSum, h2.cat, SR.cat h3]
theorem SR.len {ρ : List Addr} : ∀ {v w : List Value}, SR ρ v w → w.length = v.length
  | [], _, h => by cases h; rfl
  | _ :: _, _, ⟨w, ws, h1, h2, h3⟩ => by subst h1; simp [SR.len h3]
theorem SR.app {ρ : List Addr} : ∀ {v w v' w' : List Value}, SR ρ v w → SR ρ v' w' → SR ρ (v ++ v') (w ++ w')
  | [], _, _, _, h, h' => by cases h; exact h'
  | _ :: _, _, _, _, ⟨w, ws, h1, h2, h3⟩, h' => by subst h1; exact ⟨w, ws ++ _, rfl, h2, SR.app h3 h'⟩
theorem SR.rev {ρ : List Addr} : ∀ {v w : List Value}, SR ρ v w → SR ρ v.reverse w.reverse
  | [], _, h => by cases h; exact rfl
  | _ :: _, _, ⟨w, ws, h1, h2, h3⟩ => by subst h1; simp only [List.reverse_cons]; exact (SR.rev h3).app ⟨w, [], rfl, h2, rfl⟩
theorem SR.take {ρ : List Addr} : ∀ (n : Nat) {v w : List Value}, SR ρ v w → SR ρ (v.take n) (w.take n)
  | 0, _, _, _ => rfl
  | n + 1, [], _, h => by cases h; exact rfl
  | n + 1, _ :: _, _, ⟨w, ws, h1, h2, h3⟩ => by subst h1; exact ⟨w, _, rfl, h2, SR.take n h3⟩
theorem SR.drop {ρ : List Addr} : ∀ (n : Nat) {v w : List Value}, SR ρ v w → SR ρ (v.drop n) (w.drop n)
  | 0, _, _, h => h
  | n + 1, [], _, h => by cases h; exact rfl
  | n + 1, _ :: _, _, ⟨w, ws, h1, h2, h3⟩ => by subst h1; exact SR.drop n h3
theorem OV.list {ρ : List Addr} {v w : Option Value} (h : OV ρ v w) : SR ρ v.toList w.toList := by
  cases v with
  | none => cases h; exact rfl
  | some v => obtain ⟨u, rfl, h⟩ := h; exact ⟨u, [], rfl, h, rfl⟩
theorem LR.get {ρ : List Addr} {L : List Slot} {A : Array Slot} (h : LR ρ L A) {k : Nat} {v : Value} (g : getL L k = some v) : ∃ w, VR ρ v w ∧ A[k]? = some (.val w) := by
  unfold getL at g
  split at g
  · rename_i u q
    cases g
    exact h.2.2 k _ q
  · cases g
theorem forget_get : ∀ (er : List Bool) (L : List Slot) (i : Nat) (s : Slot), (forget er L)[i]? = some s → s = .unset ∨ L[i]? = some s
  | [], L, i, s, h => Or.inr h
  | _ :: _, [], i, s, h => by simp [forget] at h
  | true :: r, t :: L, 0, s, h => by simp [forget] at h; exact Or.inl h.symm
  | false :: r, t :: L, 0, s, h => by simp [forget] at h; exact Or.inr (by simp [h])
  | true :: r, t :: L, i + 1, s, h => by simp [forget] at h; simpa using forget_get r L i s h
  | false :: r, t :: L, i + 1, s, h => by simp [forget] at h; simpa using forget_get r L i s h
theorem forget_len : ∀ (er : List Bool) (L : List Slot), (forget er L).length = L.length
  | [], _ => rfl
  | _ :: _, [] => rfl
  | true :: r, _ :: L => by simp [forget, forget_len r L]
  | false :: r, _ :: L => by simp [forget, forget_len r L]
theorem LR.forget {ρ : List Addr} {A : Array Slot} (er : List Bool) {L : List Slot} (h : LR ρ L A) : LR ρ (forget er L) A :=
  ⟨by rw [forget_len]; exact h.1, h.2.1, fun i s q => by
    rcases forget_get er L i s q with rfl | z
    · trivial
    · exact h.2.2 i s z⟩
/-! Stores -/
theorem setAt_ok {A : Array Slot} {i : Nat} (h : i < A.size) (x : Slot) : setAt A i x = some (A.setIfInBounds i x) := by simp [setAt, h]
theorem get_set (A : Array Slot) (i j : Nat) (x : Slot) : (A.setIfInBounds i x)[j]? = if i = j then (if i < A.size then some x else none) else A[j]? := by
  rw [Array.getElem?_setIfInBounds]
theorem sl_unset {A : Array Slot} {k : Nat} {w : Value} (h : A[k]? = some .unset) : storeLocals A k w = storeSelf A k w := by
  unfold storeLocals; rw [h]; rfl
theorem sl_second {A : Array Slot} {k : Nat} {w : Value} (h : A[k]? = some .second) (hk : k - 1 < A.size) : storeLocals A k w = storeSelf (A.setIfInBounds (k - 1) .unset) k w := by
  unfold storeLocals; rw [h]
  show (setAt A (k - 1) .unset).bind _ = _
  rw [setAt_ok hk]; rfl
theorem sl_val2 {A : Array Slot} {k : Nat} {w u : Value} (h : A[k]? = some (.val u)) (hu : u.category = 2) (hk : k + 1 < A.size) : storeLocals A k w = storeSelf (A.setIfInBounds (k + 1) .unset) k w := by
  unfold storeLocals; rw [h]
  show (if u.category = 2 then (setAt A (k + 1) .unset).bind _ else _) = _
  rw [if_pos hu, setAt_ok hk]; rfl
theorem sl_val1 {A : Array Slot} {k : Nat} {w u : Value} (h : A[k]? = some (.val u)) (hu : ¬ u.category = 2) : storeLocals A k w = storeSelf A k w := by
  unfold storeLocals; rw [h]
  show (if u.category = 2 then (setAt A (k + 1) .unset).bind _ else _) = _
  rw [if_neg hu]
theorem ss_1 {A : Array Slot} {k : Nat} {w : Value} (hk : k < A.size) (hw : ¬ w.category = 2) : storeSelf A k w = some (A.setIfInBounds k (.val w)) := by
  unfold storeSelf; rw [setAt_ok hk]
  show (if w.category = 2 then _ else _) = _
  rw [if_neg hw]
theorem ss_2c {A : Array Slot} {k : Nat} {w u : Value} (hk : k < A.size) (hk1 : k + 1 < A.size) (hk2 : k + 2 < A.size) (hw : w.category = 2) (h : (A.setIfInBounds k (.val w))[k + 1]? = some (.val u)) (hu : u.category = 2) : storeSelf A k w = some (((A.setIfInBounds k (.val w)).setIfInBounds (k + 2) .unset).setIfInBounds (k + 1) .second) := by
  unfold storeSelf; rw [setAt_ok hk]
  show (if w.category = 2 then _ else _) = _
  rw [if_pos hw, h]
  show (if u.category = 2 then (setAt _ (k + 2) .unset).bind _ else _) = _
  rw [if_pos hu, setAt_ok (by simpa using hk2)]
  exact setAt_ok (by simpa using hk1) _
theorem ss_2 {A : Array Slot} {k : Nat} {w : Value} {o : Slot} (hk : k < A.size) (hk1 : k + 1 < A.size) (hw : w.category = 2) (h : (A.setIfInBounds k (.val w))[k + 1]? = some o) (ho : ¬ ∃ u, o = .val u ∧ u.category = 2) : storeSelf A k w = some ((A.setIfInBounds k (.val w)).setIfInBounds (k + 1) .second) := by
  unfold storeSelf; rw [setAt_ok hk]
  show (if w.category = 2 then _ else _) = _
  rw [if_pos hw, h]
  cases o with
  | unset => exact setAt_ok (by simpa using hk1) _
  | second => exact setAt_ok (by simpa using hk1) _
  | val u =>
    show (if u.category = 2 then _ else _) = _
    rw [if_neg fun z => ho ⟨u, rfl, z⟩]
    exact setAt_ok (by simpa using hk1) _
theorem store1_sim {ρ : List Addr} {L : List Slot} {A : Array Slot} (h : LR ρ L A) {k : Nat} {v w : Value} {L' : List Slot} (hs : st1 L k v = some L') (hv : VR ρ v w) (hc : w.category = 1) : ∃ A', storeLocals A k w = some A' ∧ LR ρ L' A' := by
  unfold st1 at hs
  split at hs
  · rename_i q
    cases hs
    simp only [Bool.and_eq_true] at q
    obtain ⟨⟨q1, q2⟩, q3⟩ := q
    obtain ⟨hA, ⟨w1, w2⟩, hl⟩ := h
    have hk : k < L.length := by
      rcases Nat.lt_or_ge k L.length with z | z
      · exact z
      · rw [List.getElem?_eq_none z] at q1; cases q1
    have hkA : k < A.size := hA ▸ hk
    obtain ⟨sl, hsl⟩ : ∃ sl, A[k]? = some sl := ⟨A[k], Array.getElem?_eq_getElem hkA⟩
    have hc2 : ¬ w.category = 2 := by rw [hc]; decide
    classical
    have key : ∃ A', storeLocals A k w = some A' ∧ A'.size = A.size ∧ (∀ j, A'[j]? = if j = k then some (.val w) else if (sl = .second ∧ j + 1 = k) ∨ ((∃ u, sl = .val u ∧ u.category = 2) ∧ j = k + 1) then some .unset else A[j]?) := by
      cases sl with
      | unset =>
        refine ⟨A.setIfInBounds k (.val w), by rw [sl_unset hsl]; exact ss_1 hkA hc2, by simp, fun j => ?_⟩
        rw [get_set]
        by_cases e : k = j
        · subst e; simp [hkA]
        · have e' : ¬ j = k := fun z => e z.symm
          simp [e, e']
      | second =>
        obtain ⟨j0, u, rfl, g1, g2⟩ := w2 k hsl
        refine ⟨(A.setIfInBounds j0 .unset).setIfInBounds (j0 + 1) (.val w), by rw [sl_second hsl (show j0 + 1 - 1 < A.size by omega)]; exact ss_1 (by simpa using hkA) hc2, by simp, fun j => ?_⟩
        rw [get_set, get_set]
        by_cases e : j0 + 1 = j
        · subst e; simp [hkA]
        · by_cases e2 : j0 = j
          · subst e2; simp; omega
          · have e' : ¬ j = j0 + 1 := fun z => e z.symm
            have e2' : ¬ j = j0 := fun z => e2 z.symm
            simp [e, e', e2, e2']
      | val u =>
        by_cases hu : u.category = 2
        · have g := w1 k u hsl hu
          have hk1 : k + 1 < A.size := (Array.getElem?_eq_some_iff.mp g).1
          refine ⟨(A.setIfInBounds (k + 1) .unset).setIfInBounds k (.val w), by rw [sl_val2 hsl hu hk1]; exact ss_1 (by simpa using hkA) hc2, by simp, fun j => ?_⟩
          rw [get_set, get_set]
          by_cases e : k = j
          · subst e; simp [hkA]
          · have e' : ¬ j = k := fun z => e z.symm
            by_cases e2 : k + 1 = j
            · subst e2; simp [hk1, hu]
            · have e2' : ¬ j = k + 1 := fun z => e2 z.symm
              simp [e, e', e2, e2']
        · refine ⟨A.setIfInBounds k (.val w), by rw [sl_val1 hsl hu]; exact ss_1 hkA hc2, by simp, fun j => ?_⟩
          rw [get_set]
          by_cases e : k = j
          · subst e; simp [hkA]
          · have e' : ¬ j = k := fun z => e z.symm
            simp [e, e', hu]
    obtain ⟨A', k1, k2, k3⟩ := key
    refine ⟨A', k1, by rw [k2, hA]; simp, ⟨fun i u g1 g2 => ?_, fun i g1 => ?_⟩, fun i s g => ?_⟩
    · rw [k3] at g1
      split at g1
      · cases g1; exact absurd g2 hc2
      · rename_i e1
        split at g1
        · cases g1
        · rename_i e2
          have g3 := w1 i u g1 g2
          rw [k3]
          split
          · rename_i e3
            have : sl = .second := by rw [← e3] at hsl; exact Option.some.inj (hsl.symm.trans g3)
            exact absurd (Or.inl ⟨this, e3⟩) e2
          · rename_i e3
            split
            · rename_i e4
              rcases e4 with ⟨z1, z2⟩ | ⟨⟨u', z1, z2⟩, z3⟩
              · exfalso
                have : k = i + 1 + 1 := z2.symm
                subst this
                rw [z1] at hsl
                obtain ⟨j0, u0, y1, y2, y3⟩ := w2 _ hsl
                have : j0 = i + 1 := by omega
                subst this
                rw [g3] at y2; cases y2
              · exact absurd (by omega) e1
            · exact g3
    · rw [k3] at g1
      split at g1
      · cases g1
      · rename_i e1
        split at g1
        · cases g1
        · rename_i e2
          obtain ⟨j, u, z1, z2, z3⟩ := w2 i g1
          refine ⟨j, u, z1, ?_, z3⟩
          rw [k3]
          split
          · rename_i e3
            subst e3
            have : sl = .val u := Option.some.inj (hsl.symm.trans z2)
            exact absurd (Or.inr ⟨⟨u, this, z3⟩, z1⟩) e2
          · split
            · rename_i e3 e4
              rcases e4 with ⟨y1, y2⟩ | ⟨⟨u', y1, y2⟩, y3⟩
              · exact absurd (z1.trans y2) e1
              · subst y3
                have g5 := w1 k u' (y1 ▸ hsl) y2
                rw [z2] at g5; cases g5
            · exact z2
    · rw [List.getElem?_set] at g
      split at g
      · rename_i e
        subst e
        cases g
        exact ⟨w, hv, by rw [k3]; simp⟩
      · rename_i e
        have e' : ¬ i = k := fun z => e z.symm
        have g2 := hl i s g
        rw [k3, if_neg e']
        split
        · rename_i e4
          cases s with
          | unset => trivial
          | second =>
            exfalso
            have g2' : A[i]? = some .second := g2
            rcases e4 with ⟨y1, y2⟩ | ⟨⟨u', y1, y2⟩, y3⟩
            · obtain ⟨j0, u0, x1, x2, x3⟩ := w2 k (y1 ▸ hsl)
              have : i = j0 := by omega
              subst this
              rw [x2] at g2'; cases g2'
            · subst y3
              rw [g] at q3
              simp [isSec] at q3
          | val v0 =>
            exfalso
            obtain ⟨w0, x1, x2⟩ := g2
            rcases e4 with ⟨y1, y2⟩ | ⟨⟨u', y1, y2⟩, y3⟩
            · obtain ⟨j0, u0, z1, z2, z3⟩ := w2 k (y1 ▸ hsl)
              have : i = j0 := by omega
              subst this
              have hw0 : w0 = u0 := by rw [x2] at z2; cases z2; rfl
              have hcat : v0.category = 2 := by rw [← x1.cat, hw0]; exact z3
              subst y2
              have : L[i + 1 - 1]? = some (.val v0) := g
              rw [this] at q2
              simp [isC2, hcat] at q2
            · subst y3
              have g5 := w1 k u' (y1 ▸ hsl) y2
              rw [x2] at g5; cases g5
        · exact g2
  · cases hs
end Jvm.Own
namespace Jvm.Own
open Jvm Jvm.ClassFile Sem Op Lib Jvm.Free Jvm.Stand Jvm.LawKit Jvm.RoadKit Bundle
theorem store2_sim {ρ : List Addr} {L : List Slot} {A : Array Slot} (h : LR ρ L A) {k : Nat} {v w : Value} {L' : List Slot} (hs : st2 L k v = some L') (hv : VR ρ v w) (hc : w.category = 2) : ∃ A', storeLocals A k w = some A' ∧ LR ρ L' A' := by
  unfold st2 at hs
  split at hs
  · rename_i q
    cases hs
    simp only [Bool.and_eq_true] at q
    obtain ⟨⟨q1, q2⟩, q3⟩ := q
    obtain ⟨hA, ⟨w1, w2⟩, hl⟩ := h
    have hk1 : k + 1 < L.length := by
      rcases Nat.lt_or_ge (k + 1) L.length with z | z
      · exact z
      · rw [List.getElem?_eq_none z] at q1
        cases h0 : L[k]? with
        | none => rw [h0] at q1; cases q1
        | some s0 => rw [h0] at q1; cases s0 <;> cases q1
    have hk : k < L.length := by omega
    have hkA : k < A.size := hA ▸ hk
    have hkA1 : k + 1 < A.size := hA ▸ hk1
    obtain ⟨sl, hsl⟩ : ∃ sl, A[k]? = some sl := ⟨A[k], Array.getElem?_eq_getElem hkA⟩
    obtain ⟨sm, hsm⟩ : ∃ sm, A[k + 1]? = some sm := ⟨A[k + 1], Array.getElem?_eq_getElem hkA1⟩
    have n1 : ¬ k = k + 1 := by omega
    have n2 : ¬ k + 2 = k + 1 := by omega
    have n3 : ¬ k + 2 = k := by omega
    classical
    have key : ∃ A', storeLocals A k w = some A' ∧ A'.size = A.size ∧ (∀ j, A'[j]? = if j = k then some (.val w) else if j = k + 1 then some .second else if (sl = .second ∧ j + 1 = k) ∨ ((∃ u, sm = .val u ∧ u.category = 2) ∧ j = k + 2) then some .unset else A[j]?) := by
      by_cases hm : ∃ u, sm = .val u ∧ u.category = 2
      · obtain ⟨u, rfl, hu⟩ := hm
        have g := w1 (k + 1) u hsm hu
        have hk2 : k + 2 < A.size := (Array.getElem?_eq_some_iff.mp g).1
        cases sl with
        | unset =>
          refine ⟨((A.setIfInBounds k (.val w)).setIfInBounds (k + 2) .unset).setIfInBounds (k + 1) .second, ?_, by simp, fun j => ?_⟩
          · rw [sl_unset hsl]; exact ss_2c hkA hkA1 hk2 hc (by rw [get_set, if_neg n1]; exact hsm) hu
          · rw [get_set, get_set, get_set]
            by_cases e0 : j = k
            · subst e0; simp [hkA]
            · by_cases e1 : j = k + 1
              · subst e1; simp [hkA1]
              · by_cases e2 : j = k + 2
                · subst e2; simp [hk2, hu]
                · have e0' : ¬ k = j := fun z => e0 z.symm
                  have e1' : ¬ k + 1 = j := fun z => e1 z.symm
                  have e2' : ¬ k + 2 = j := fun z => e2 z.symm
                  simp [e0, e1, e2, e0', e1', e2']
        | second =>
          obtain ⟨j0, u0, rfl, g1, g2⟩ := w2 k hsl
          have hj0 : j0 < A.size := by omega
          refine ⟨(((A.setIfInBounds j0 .unset).setIfInBounds (j0 + 1) (.val w)).setIfInBounds (j0 + 1 + 2) .unset).setIfInBounds (j0 + 1 + 1) .second, ?_, by simp, fun j => ?_⟩
          · have m1 : ¬ j0 + 1 = j0 + 1 + 1 := by omega
            have m2 : ¬ j0 = j0 + 1 + 1 := by omega
            rw [sl_second hsl (show j0 + 1 - 1 < A.size by omega)]
            exact ss_2c (by simpa using hkA) (by simpa using hkA1) (by simpa using hk2) hc (by rw [get_set, if_neg m1, get_set, if_neg (by omega)]; exact hsm) hu
          · rw [get_set, get_set, get_set, get_set]
            by_cases e0 : j = j0 + 1
            · subst e0; simp [hkA]
            · by_cases e1 : j = j0 + 1 + 1
              · subst e1; simp [hkA1]
              · by_cases e2 : j = j0 + 1 + 2
                · subst e2; simp [hk2, hu]
                · by_cases e3 : j = j0
                  · subst e3
                    rw [if_neg (by omega), if_neg (by omega), if_neg (by omega), if_pos rfl, if_pos hj0, if_neg (by omega), if_neg (by omega), if_pos (Or.inl ⟨rfl, rfl⟩)]
                  · have e0' : ¬ j0 + 1 = j := fun z => e0 z.symm
                    have e1' : ¬ j0 + 1 + 1 = j := fun z => e1 z.symm
                    have e2' : ¬ j0 + 1 + 2 = j := fun z => e2 z.symm
                    have e3' : ¬ j0 = j := fun z => e3 z.symm
                    simp [e0, e1, e2, e3, e0', e1', e2', e3']
        | val u1 =>
          have hu1 : ¬ u1.category = 2 := fun z => by have := w1 k u1 hsl z; rw [hsm] at this; cases this
          refine ⟨((A.setIfInBounds k (.val w)).setIfInBounds (k + 2) .unset).setIfInBounds (k + 1) .second, ?_, by simp, fun j => ?_⟩
          · rw [sl_val1 hsl hu1]; exact ss_2c hkA hkA1 hk2 hc (by rw [get_set, if_neg n1]; exact hsm) hu
          · rw [get_set, get_set, get_set]
            by_cases e0 : j = k
            · subst e0; simp [hkA]
            · by_cases e1 : j = k + 1
              · subst e1; simp [hkA1]
              · by_cases e2 : j = k + 2
                · subst e2; simp [hk2, hu]
                · have e0' : ¬ k = j := fun z => e0 z.symm
                  have e1' : ¬ k + 1 = j := fun z => e1 z.symm
                  have e2' : ¬ k + 2 = j := fun z => e2 z.symm
                  simp [e0, e1, e2, e0', e1', e2']
      · cases sl with
        | unset =>
          refine ⟨(A.setIfInBounds k (.val w)).setIfInBounds (k + 1) .second, ?_, by simp, fun j => ?_⟩
          · rw [sl_unset hsl]; exact ss_2 hkA hkA1 hc (by rw [get_set, if_neg n1]; exact hsm) hm
          · rw [get_set, get_set]
            by_cases e0 : j = k
            · subst e0; simp [hkA]
            · by_cases e1 : j = k + 1
              · subst e1; simp [hkA1]
              · have e0' : ¬ k = j := fun z => e0 z.symm
                have e1' : ¬ k + 1 = j := fun z => e1 z.symm
                simp [e0, e1, e0', e1', hm]
        | second =>
          obtain ⟨j0, u0, rfl, g1, g2⟩ := w2 k hsl
          have hj0 : j0 < A.size := by omega
          have m1 : ¬ j0 + 1 = j0 + 1 + 1 := by omega
          have m2 : ¬ j0 = j0 + 1 + 1 := by omega
          refine ⟨((A.setIfInBounds j0 .unset).setIfInBounds (j0 + 1) (.val w)).setIfInBounds (j0 + 1 + 1) .second, ?_, by simp, fun j => ?_⟩
          · rw [sl_second hsl (show j0 + 1 - 1 < A.size by omega)]
            exact ss_2 (by simpa using hkA) (by simpa using hkA1) hc (by rw [get_set, if_neg m1, get_set, if_neg (by omega)]; exact hsm) hm
          · rw [get_set, get_set, get_set]
            by_cases e0 : j = j0 + 1
            · subst e0; simp [hkA]
            · by_cases e1 : j = j0 + 1 + 1
              · subst e1; simp [hkA1]
              · by_cases e3 : j = j0
                · subst e3
                  rw [if_neg (by omega), if_neg (by omega), if_pos rfl, if_pos hj0, if_neg (by omega), if_neg (by omega), if_pos (Or.inl ⟨rfl, rfl⟩)]
                · have e0' : ¬ j0 + 1 = j := fun z => e0 z.symm
                  have e1' : ¬ j0 + 1 + 1 = j := fun z => e1 z.symm
                  have e3' : ¬ j0 = j := fun z => e3 z.symm
                  simp [e0, e1, e3, e0', e1', e3', hm]
        | val u1 =>
          by_cases hu1 : u1.category = 2
          · refine ⟨((A.setIfInBounds (k + 1) .unset).setIfInBounds k (.val w)).setIfInBounds (k + 1) .second, ?_, by simp, fun j => ?_⟩
            · rw [sl_val2 hsl hu1 hkA1]
              exact ss_2 (o := .unset) (by simpa using hkA) (by simpa using hkA1) hc (by rw [get_set, if_neg n1, get_set, if_pos rfl, if_pos hkA1]) (by rintro ⟨u, z, -⟩; cases z)
            · rw [get_set, get_set, get_set]
              by_cases e0 : j = k
              · subst e0; simp [hkA]
              · by_cases e1 : j = k + 1
                · subst e1; simp [hkA1]
                · have e0' : ¬ k = j := fun z => e0 z.symm
                  have e1' : ¬ k + 1 = j := fun z => e1 z.symm
                  simp [e0, e1, e0', e1', hm]
          · refine ⟨(A.setIfInBounds k (.val w)).setIfInBounds (k + 1) .second, ?_, by simp, fun j => ?_⟩
            · rw [sl_val1 hsl hu1]; exact ss_2 hkA hkA1 hc (by rw [get_set, if_neg n1]; exact hsm) hm
            · rw [get_set, get_set]
              by_cases e0 : j = k
              · subst e0; simp [hkA]
              · by_cases e1 : j = k + 1
                · subst e1; simp [hkA1]
                · have e0' : ¬ k = j := fun z => e0 z.symm
                  have e1' : ¬ k + 1 = j := fun z => e1 z.symm
                  simp [e0, e1, e0', e1', hm]
    obtain ⟨A', k1, k2, k3⟩ := key
    refine ⟨A', k1, by rw [k2, hA]; simp, ⟨fun i u g1 g2 => ?_, fun i g1 => ?_⟩, fun i s g => ?_⟩
    · by_cases e1 : i = k
      · subst e1; rw [k3]; simp
      · have g1' := g1
        rw [k3, if_neg e1] at g1'
        split at g1'
        · cases g1'
        · rename_i e2
          split at g1'
          · cases g1'
          · rename_i e4
            have g3 := w1 i u g1' g2
            rw [k3]
            have c1 : ¬ i + 1 = k := fun e3 => by
              have : sl = .second := by rw [← e3] at hsl; exact Option.some.inj (hsl.symm.trans g3)
              exact e4 (Or.inl ⟨this, e3⟩)
            have c2 : ¬ i + 1 = k + 1 := by omega
            have c3 : ¬ ((sl = .second ∧ i + 1 + 1 = k) ∨ ((∃ u, sm = .val u ∧ u.category = 2) ∧ i + 1 = k + 2)) := fun z => by
              rcases z with ⟨z1, z2⟩ | ⟨z1, z2⟩
              · subst z2
                rw [z1] at hsl
                obtain ⟨j0, u0, y1, y2, y3⟩ := w2 _ hsl
                have : j0 = i + 1 := by omega
                subst this
                rw [g3] at y2; cases y2
              · omega
            rw [if_neg c1, if_neg c2, if_neg c3]
            exact g3
    · rw [k3] at g1
      split at g1
      · cases g1
      · rename_i e1
        split at g1
        · rename_i e2
          exact ⟨k, w, e2, by rw [k3]; simp, hc⟩
        · rename_i e2
          split at g1
          · cases g1
          · rename_i e4
            obtain ⟨j, u, z1, z2, z3⟩ := w2 i g1
            refine ⟨j, u, z1, ?_, z3⟩
            rw [k3]
            have c1 : ¬ j = k := by omega
            have c2 : ¬ j = k + 1 := fun e => by
              subst e
              exact e4 (Or.inr ⟨⟨u, Option.some.inj (hsm.symm.trans z2), z3⟩, by omega⟩)
            have c3 : ¬ ((sl = .second ∧ j + 1 = k) ∨ ((∃ u, sm = .val u ∧ u.category = 2) ∧ j = k + 2)) := fun z => by
              rcases z with ⟨y1, y2⟩ | ⟨⟨u', y1, y2⟩, y3⟩
              · exact e1 (z1.trans y2)
              · subst y3
                have g5 := w1 (k + 1) u' (y1 ▸ hsm) y2
                rw [z2] at g5; cases g5
            rw [if_neg c1, if_neg c2, if_neg c3]
            exact z2
    · rw [List.getElem?_set] at g
      split at g
      · rename_i e
        subst e
        have : k + 1 < (L.set k (.val v)).length := by simp [hk1]
        rw [if_pos this] at g
        cases g
        show A'[k + 1]? = some .second
        rw [k3]; simp
      · rename_i e
        have e' : ¬ i = k + 1 := fun z => e z.symm
        rw [List.getElem?_set] at g
        split at g
        · rename_i e0
          subst e0
          cases g
          exact ⟨w, hv, by rw [k3]; simp⟩
        · rename_i e0
          have e0' : ¬ i = k := fun z => e0 z.symm
          have g2 := hl i s g
          rw [k3, if_neg e0', if_neg e']
          split
          · rename_i e4
            cases s with
            | unset => trivial
            | second =>
              exfalso
              have g2' : A[i]? = some .second := g2
              rcases e4 with ⟨y1, y2⟩ | ⟨⟨u', y1, y2⟩, y3⟩
              · obtain ⟨j0, u0, x1, x2, x3⟩ := w2 k (y1 ▸ hsl)
                have : i = j0 := by omega
                subst this
                rw [x2] at g2'; cases g2'
              · subst y3
                rw [g] at q3
                simp [isSec] at q3
            | val v0 =>
              exfalso
              obtain ⟨w0, x1, x2⟩ := g2
              rcases e4 with ⟨y1, y2⟩ | ⟨⟨u', y1, y2⟩, y3⟩
              · obtain ⟨j0, u0, z1, z2, z3⟩ := w2 k (y1 ▸ hsl)
                have : i = j0 := by omega
                subst this
                have hw0 : w0 = u0 := by rw [x2] at z2; cases z2; rfl
                have hcat : v0.category = 2 := by rw [← x1.cat, hw0]; exact z3
                subst y2
                have : L[i + 1 - 1]? = some (.val v0) := g
                rw [this] at q2
                simp [isC2, hcat] at q2
              · subst y3
                have g5 := w1 (k + 1) u' (y1 ▸ hsm) y2
                rw [x2] at g5; cases g5
          · exact g2
  · cases hs
/-! The frame with which a method is entered -/
theorem entA_app (ws : List Value) : ∀ acc : Array Slot, ws.foldl (fun acc v => if v.category = 2 then (acc.push (.val v)).push .second else acc.push (.val v)) acc = acc ++ (entA ws).toArray := by
  induction ws with
  | nil => intro acc; simp [entA]
  | cons v r ih =>
    intro acc
    rw [List.foldl_cons, ih]
    show _ = acc ++ (if v.category = 2 then .val v :: .second :: entA r else .val v :: entA r).toArray
    by_cases h : v.category = 2
    · rw [if_pos h, if_pos h]; simp
    · rw [if_neg h, if_neg h]; simp
theorem argsToLocals_eq (ws : List Value) (n : Nat) : argsToLocals ws.toArray n = (entL ws n).toArray := by
  unfold argsToLocals entL
  have h := entA_app ws #[]
  simp only [List.foldl_toArray', List.size_toArray] at *
  simp [h]
theorem entA_len {ρ : List Addr} : ∀ {v w : List Value}, SR ρ v w → (entA w).length = (entA v).length
  | [], _, h => by cases h; rfl
  | _ :: _, _, ⟨w, ws, h1, h2, h3⟩ => by
    subst h1
    unfold entA
    rw [h2.cat]
    split <;> simp [entA_len h3]
theorem entA_rel {ρ : List Addr} : ∀ {v w : List Value}, SR ρ v w → ∀ (m i : Nat) (s : Slot), (entA v ++ List.replicate m .unset)[i]? = some s → SlR ρ s (entA w ++ List.replicate m .unset)[i]?
  | [], _, h, m, i, s, q => by
    cases h
    simp only [entA, List.nil_append] at q ⊢
    rw [List.getElem?_replicate] at q
    split at q
    · cases q; trivial
    · cases q
  | v :: vs, _, ⟨w, ws, h1, h2, h3⟩, m, i, s, q => by
    subst h1
    unfold entA at q ⊢
    rw [h2.cat]
    split
    · rename_i c
      rw [if_pos c] at q
      match i, q with
      | 0, q => simp at q; subst q; exact ⟨w, h2, by simp⟩
      | 1, q => simp at q; subst q; simp [SlR]
      | i + 2, q => simp at q ⊢; exact entA_rel h3 m i s q
    · rename_i c
      rw [if_neg c] at q
      match i, q with
      | 0, q => simp at q; subst q; exact ⟨w, h2, by simp⟩
      | i + 1, q => simp at q ⊢; exact entA_rel h3 m i s q
theorem entA_wf : ∀ (ws : List Value) (m : Nat), (∀ (i : Nat) w, (entA ws ++ List.replicate m .unset)[i]? = some (.val w) → w.category = 2 → (entA ws ++ List.replicate m .unset)[i + 1]? = some .second) ∧
    ∀ (i : Nat), (entA ws ++ List.replicate m .unset)[i]? = some .second → ∃ j w, i = j + 1 ∧ (entA ws ++ List.replicate m .unset)[j]? = some (.val w) ∧ w.category = 2
  | [], m => by
    constructor
    · intro i w q
      simp only [entA, List.nil_append, List.getElem?_replicate] at q
      split at q <;> cases q
    · intro i q
      simp only [entA, List.nil_append, List.getElem?_replicate] at q
      split at q <;> cases q
  | v :: vs, m => by
    obtain ⟨h1, h2⟩ := entA_wf vs m
    unfold entA
    split
    · rename_i c
      constructor
      · intro i w q
        match i, q with
        | 0, q => intro _; simp
        | 1, q => simp at q
        | i + 2, q => simp at q ⊢; exact h1 i w q
      · intro i q
        match i, q with
        | 0, q => simp at q
        | 1, q => exact ⟨0, v, rfl, by simp, c⟩
        | i + 2, q =>
          simp at q
          obtain ⟨j, w, e, g1, g2⟩ := h2 i q
          exact ⟨j + 2, w, by omega, by simpa using g1, g2⟩
    · rename_i c
      constructor
      · intro i w q
        match i, q with
        | 0, q => intro z; simp at q; subst q; exact absurd z c
        | i + 1, q => simp at q ⊢; exact h1 i w q
      · intro i q
        match i, q with
        | 0, q => simp at q
        | i + 1, q =>
          simp at q
          obtain ⟨j, w, e, g1, g2⟩ := h2 i q
          exact ⟨j + 1, w, by omega, by simpa using g1, g2⟩
theorem LR.enter {ρ : List Addr} {v w : List Value} (h : SR ρ v w) {n : Nat} (hn : (entA v).length ≤ n) : LR ρ (entL v n) (argsToLocals w.toArray n) ∧ (argsToLocals w.toArray n).size = n := by
  rw [argsToLocals_eq]
  have hl := entA_len h
  refine ⟨⟨by simp [entL, hl], ?_, fun i s q => ?_⟩, by simp [entL, hl]; omega⟩
  · obtain ⟨h1, h2⟩ := entA_wf w (n - (entA w).length)
    exact ⟨fun i u q c => by simpa [entL] using h1 i u (by simpa [entL] using q) c, fun i q => by
      obtain ⟨j, u, e, g1, g2⟩ := h2 i (by simpa [entL] using q)
      exact ⟨j, u, e, by simpa [entL] using g1, g2⟩⟩
  · unfold entL at q ⊢
    rw [hl]
    simpa using entA_rel h _ i s q
end Jvm.Own
namespace Jvm.RoadKit
open Sem ClassFile Op Lib Jvm.Stand Jvm.Free Jvm.LawKit
section New
variable {p : Program} {l : Launch} {e : Env} {R : Room} {s : State} {m : MethodId} {args : Array Value} {below : List Frame} {meth : Method} {c : Code} {T : State} {locs : List Loc} {cells slots : Nat}
theorem retI (X : Stand p l e R s m args below meth c T locs cells slots) (hx : p.tables.exec = Jvm.exec) {pc : Nat} {Ls : Array Slot} {z : Int32} {rest : List Value} (hret : meth.sig.returnType = some .int) (hd : decode c.code pc = .ok (.ireturn, 1)) {fs : List Frame}
    (hl : ∀ (f : JFrame) (acts : List Action), f.method = m → f.locked = none → f.entered = [] → (doReturn e (T.setTop f) acts (some (.int z))).1 = T.setFrames fs) : Steps p.tables e below (T.setTop (mkF m pc Ls (.int z :: rest))) (T.setFrames fs) := by
  have hm' : T.vm.method? m = some meth := X.method'
  have hn : narrow .int (.int z) = .int z := rfl
  show Steps p.tables e below (T.setTop { method := m, pc := pc, locals := Ls, stack := _ :: rest, locked := none }) _
  jvm_step X.here [X.here.top, hx, hd, hm', hret, hn]
  first | (intro acts; rw [hl _ acts rfl rfl rfl]) | rw [hl _ _ rfl rfl rfl]
  exact Steps.refl _
end New
end Jvm.RoadKit
namespace Jvm.Own
open Jvm Jvm.ClassFile Sem Op Lib Jvm.Free Jvm.Stand Jvm.LawKit Jvm.RoadKit Bundle
/-! The plain heap and the real one -/
def tyA (b : Bool) : FieldType := if b then .boolean else .int
def CR (P : PD) (Z : State) (h : Heap) (ρ : List Addr) (a : Addr) : ACell → Prop
  | .inl (c, fs) => ∃ cd, P.cls[c]? = some cd ∧ Exa Z h a cd.1 ∧ fs.length = cd.2.2.length ∧ ∀ (i : Nat) v fd, fs[i]? = some v → cd.2.2[i]? = some fd → ∃ w, VR ρ v w ∧ Fld Z h a cd.1 fd.1 fd.2.1 w
  | .inr (.inl (b, L)) => ∃ cl, Arr Z h a cl (tyA b) ∧ cl.slots.size = L.length ∧ L.length < 2 ^ 31 ∧ ∀ (i : Nat) x, L[i]? = some x → cl.slots[i]? = some (.int x)
  | .inr (.inr L) => ∃ cl, Arr Z h a cl .long ∧ cl.slots.size = L.length ∧ L.length < 2 ^ 31 ∧ ∀ (i : Nat) x, L[i]? = some x → cl.slots[i]? = some (.long x)
def HR (P : PD) (Z : State) (n0 : Nat) (h : Heap) (ρ : List Addr) (H : AHeap) : Prop :=
  n0 ≤ h.size ∧ ρ.length = H.length ∧ (∀ (i j : Nat) a, ρ[i]? = some a → ρ[j]? = some a → i = j) ∧ (∀ (k : Nat) a, ρ[k]? = some a → P.nr ≤ k → n0 ≤ a) ∧ ∀ (k : Nat) a c, ρ[k]? = some a → H[k]? = some c → CR P Z h ρ a c
section Heaps
variable {P : PD} {Z : State} {n0 : Nat} {h h' : Heap} {ρ : List Addr} {H : AHeap} {a : Addr} {k : Nat} {a0 : Array Value}
theorem CR.lt {c : ACell} (q : CR P Z h ρ a c) : a < h.size := by
  match c, q with
  | .inl (_, _), q => obtain ⟨cd, -, E, -⟩ := q; exact E.lt
  | .inr (.inl (_, _)), q => obtain ⟨cl, A, -⟩ := q; exact A.lt
  | .inr (.inr _), q => obtain ⟨cl, A, -⟩ := q; exact A.lt
theorem HR.at (q : HR P Z n0 h ρ H) {c : ACell} (hc : H[k]? = some c) : ∃ a, ρ[k]? = some a ∧ CR P Z h ρ a c := by
  obtain ⟨-, q1, -, -, q4⟩ := q
  have hk : k < ρ.length := by rw [q1]; exact (List.getElem?_eq_some_iff.mp hc).1
  exact ⟨ρ[k], List.getElem?_eq_getElem hk, q4 k _ c (List.getElem?_eq_getElem hk) hc⟩
theorem HR.lt (q : HR P Z n0 h ρ H) (hk : ρ[k]? = some a) : a < h.size := by
  obtain ⟨-, q1, -, -, q4⟩ := q
  have hk' : k < H.length := by rw [← q1]; exact (List.getElem?_eq_some_iff.mp hk).1
  exact (q4 k a _ hk (List.getElem?_eq_getElem hk')).lt
theorem CR.grow {t : List Addr} {c : ACell} (E : Ext h h') (q : CR P Z h ρ a c) : CR P Z h' (ρ ++ t) a c := by
  match c, q with
  | .inl (_, _), ⟨cd, q1, q2, q3, q4⟩ => exact ⟨cd, q1, q2.ext E, q3, fun i v fd g1 g2 => by obtain ⟨w, z1, z2⟩ := q4 i v fd g1 g2; exact ⟨w, z1.mono, z2.ext E⟩⟩
  | .inr (.inl (_, _)), ⟨cl, q1, q2⟩ => exact ⟨cl, q1.ext E, q2⟩
  | .inr (.inr _), ⟨cl, q1, q2⟩ => exact ⟨cl, q1.ext E, q2⟩
theorem HR.push {c : ACell} (q : HR P Z n0 h ρ H) (E : Ext h h') (hc : CR P Z h' (ρ ++ [h.size]) h.size c) : HR P Z n0 h' (ρ ++ [h.size]) (H ++ [c]) := by
  have q0 := q
  obtain ⟨q1, q2, q3, q4, q5⟩ := q
  have old : ∀ (i : Nat) b, (ρ ++ [h.size])[i]? = some b → (ρ[i]? = some b ∧ b < h.size) ∨ (i = ρ.length ∧ b = h.size) := fun i b g => by
    rw [List.getElem?_append] at g
    split at g
    · exact Or.inl ⟨g, q0.lt g⟩
    · rename_i z
      right
      have : i - ρ.length = 0 := by
        rcases Nat.eq_zero_or_pos (i - ρ.length) with y | y
        · exact y
        · rw [List.getElem?_eq_none (by simp; omega)] at g; cases g
      rw [this] at g
      simp at g
      exact ⟨by omega, g.symm⟩
  refine ⟨Nat.le_trans q1 E.1, by simp [q2], fun i j b g1 g2 => ?_, fun i b g1 g2 => ?_, fun i b c' g1 g2 => ?_⟩
  · rcases old i b g1 with ⟨y1, y2⟩ | ⟨y1, y2⟩ <;> rcases old j b g2 with ⟨z1, z2⟩ | ⟨z1, z2⟩
    · exact q3 i j b y1 z1
    · exact absurd (z2 ▸ y2) (Nat.lt_irrefl _)
    · exact absurd (y2 ▸ z2) (Nat.lt_irrefl _)
    · rw [y1, z1]
  · rcases old i b g1 with ⟨y1, y2⟩ | ⟨y1, y2⟩
    · exact q4 i b y1 g2
    · rw [y2]; exact q1
  · rcases old i b g1 with ⟨y1, y2⟩ | ⟨y1, y2⟩
    · have hi : i < H.length := by rw [← q2]; exact (List.getElem?_eq_some_iff.mp y1).1
      rw [List.getElem?_append_left hi] at g2
      exact (q5 i b c' y1 g2).grow E
    · subst y1 y2
      rw [q2] at g2
      simp at g2
      subst g2
      exact hc
theorem CR.other {v : Value} {sl : Nat} {b : Addr} {c : ACell} (W : Wr h h' a sl v) (ne : b ≠ a) (q : CR P Z h ρ b c) : CR P Z h' ρ b c := by
  match c, q with
  | .inl (_, _), ⟨cd, q1, q2, q3, q4⟩ => exact ⟨cd, q1, q2.wr W, q3, fun i v fd g1 g2 => by obtain ⟨w, z1, z2⟩ := q4 i v fd g1 g2; exact ⟨w, z1, z2.other W (Or.inl ne)⟩⟩
  | .inr (.inl (_, _)), ⟨cl, q1, q2⟩ => exact ⟨cl, q1.other W ne, q2⟩
  | .inr (.inr _), ⟨cl, q1, q2⟩ => exact ⟨cl, q1.other W ne, q2⟩
theorem HR.set {v : Value} {sl : Nat} {c : ACell} (q : HR P Z n0 h ρ H) (hk : ρ[k]? = some a) (W : Wr h h' a sl v) (hc : CR P Z h' ρ a c) : HR P Z n0 h' ρ (H.set k c) := by
  obtain ⟨q1, q2, q3, q4, q5⟩ := q
  refine ⟨by rw [W.size]; exact q1, by simp [q2], q3, q4, fun i b c' g1 g2 => ?_⟩
  rw [List.getElem?_set] at g2
  split at g2
  · rename_i e
    subst e
    split at g2
    · cases g2
      rw [hk] at g1; cases g1
      exact hc
    · cases g2
  · rename_i e
    exact (q5 i b c' g1 g2).other W fun z => e (q3 k i a hk (z ▸ g1))
theorem nodup_ne : ∀ {l : List String}, nodup l = true → ∀ {i j : Nat} {x y : String}, l[i]? = some x → l[j]? = some y → i ≠ j → x ≠ y
  | [], _, i, j, x, y, h1, _, _ => by simp at h1
  | z :: r, hn, i, j, x, y, h1, h2, ne => by
    simp only [nodup, Bool.and_eq_true, Bool.not_eq_true', List.contains_eq_mem, decide_eq_false_iff_not] at hn
    match i, j, h1, h2, ne with
    | 0, 0, _, _, ne => exact absurd rfl ne
    | 0, j + 1, h1, h2, _ => simp at h1 h2; subst h1; exact fun e => hn.1 (e ▸ List.mem_of_getElem? h2)
    | i + 1, 0, h1, h2, _ => simp at h1 h2; subst h2; exact fun e => hn.1 (e ▸ List.mem_of_getElem? h1)
    | i + 1, j + 1, h1, h2, ne => simp at h1 h2; exact nodup_ne hn.2 h1 h2 (fun e => ne (by rw [e]))
theorem laid_of {C : String} {f : FD} (w : (fWord C f).before a0 Z = true) : Laid Z a0 C C f.1 f.2.1 := by
  unfold fWord at w
  split at w
  · exact Or.inr w
  · exact Or.inl w
theorem HR.putF {c j : Nat} {fs : List Value} {cd : CD} {fd : FD} {v w : Value} (q : HR P Z n0 h ρ H) (hk : ρ[k]? = some a) (hc : H[k]? = some (.inl (c, fs))) (hcd : P.cls[c]? = some cd) (hfd : cd.2.2[j]? = some fd)
    (hck : cChk cd = true) (hl : ∀ f ∈ cd.2.2, (fWord cd.1 f).before a0 Z = true) (W : Wr h h' a (RoadKit.slotOf Z cd.1 fd.1 fd.2.1) w) (hv : VR ρ v w) : HR P Z n0 h' ρ (H.set k (.inl (c, fs.set j v))) := by
  obtain ⟨a', ha, cr⟩ := q.at hc
  rw [hk] at ha; cases ha
  obtain ⟨cd', q1, q2, q3, q4⟩ := cr
  rw [hcd] at q1; cases q1
  refine q.set hk W ⟨cd, hcd, q2.wr W, by simp [q3], fun i v0 fd' g1 g2 => ?_⟩
  simp only [cChk, Bool.and_eq_true, List.all_eq_true] at hck
  obtain ⟨n1, n2⟩ := hck
  by_cases e : j = i
  · subst e
    rw [hfd] at g2; cases g2
    rw [List.getElem?_set] at g1
    split at g1
    · split at g1
      · cases g1
        rename_i z
        obtain ⟨w0, -, F⟩ := q4 j _ fd (List.getElem?_eq_getElem z) hfd
        exact ⟨w, hv, F.same W⟩
      · cases g1
    · rename_i z; exact absurd rfl z
  · rw [List.getElem?_set_ne e] at g1
    obtain ⟨w0, z1, F⟩ := q4 i v0 fd' g1 g2
    refine ⟨w0, z1, F.other W (Or.inr ?_)⟩
    have m1 := List.mem_of_getElem? hfd
    have m2 := List.mem_of_getElem? g2
    have f1 := n2 fd m1
    have f2 := n2 fd' m2
    simp only [fChk, Bool.and_eq_true, decide_eq_true_eq] at f1 f2
    refine slot_ne (laid_of (hl fd' m2)) (laid_of (hl fd m1)) ?_ f2.1 f1.1
    exact nodup_ne n1 (i := i) (j := j) (by simp [g2]) (by simp [hfd]) (fun z => e z.symm)
theorem HR.wrI {b : Bool} {L : List Int32} {i : Nat} {x : Int32} (q : HR P Z n0 h ρ H) (hk : ρ[k]? = some a) (hc : H[k]? = some (.inr (.inl (b, L)))) (W : Wr h h' a i (.int x)) : HR P Z n0 h' ρ (H.set k (.inr (.inl (b, L.set i x)))) := by
  obtain ⟨a', ha, cr⟩ := q.at hc
  rw [hk] at ha; cases ha
  obtain ⟨cl, A, q2, q3, q4⟩ := cr
  have lt : i < cl.slots.size := by
    obtain ⟨cl', z1, -, z3, -⟩ := W
    rw [A.1] at z1; cases z1
    exact z3
  refine q.set hk W ⟨_, A.same W, by simp [sz_set, q2], by simpa using q3, fun j y g => ?_⟩
  rw [List.getElem?_set] at g
  split at g
  · rename_i e
    subst e
    split at g
    · cases g; simp [Cell.setSlot, lt]
    · cases g
  · rename_i e
    have := q4 j y g
    simp [Cell.setSlot, Array.getElem?_setIfInBounds, e, this]
theorem HR.wrJ {L : List Int64} {i : Nat} {x : Int64} (q : HR P Z n0 h ρ H) (hk : ρ[k]? = some a) (hc : H[k]? = some (.inr (.inr L))) (W : Wr h h' a i (.long x)) : HR P Z n0 h' ρ (H.set k (.inr (.inr (L.set i x)))) := by
  obtain ⟨a', ha, cr⟩ := q.at hc
  rw [hk] at ha; cases ha
  obtain ⟨cl, A, q2, q3, q4⟩ := cr
  have lt : i < cl.slots.size := by
    obtain ⟨cl', z1, -, z3, -⟩ := W
    rw [A.1] at z1; cases z1
    exact z3
  refine q.set hk W ⟨_, A.same W, by simp [sz_set, q2], by simpa using q3, fun j y g => ?_⟩
  rw [List.getElem?_set] at g
  split at g
  · rename_i e
    subst e
    split at g
    · cases g; simp [Cell.setSlot, lt]
    · cases g
  · rename_i e
    have := q4 j y g
    simp [Cell.setSlot, Array.getElem?_setIfInBounds, e, this]
end Heaps
theorem SR.int {ρ : List Addr} {x : Int32} {S Sc : List Value} (h : SR ρ (.int x :: S) Sc) : ∃ Sc', Sc = .int x :: Sc' ∧ SR ρ S Sc' := by
  obtain ⟨w, ws, h1, h2, h3⟩ := h
  exact ⟨ws, by rw [h1, show w = .int x from h2], h3⟩
theorem SR.long {ρ : List Addr} {x : Int64} {S Sc : List Value} (h : SR ρ (.long x :: S) Sc) : ∃ Sc', Sc = .long x :: Sc' ∧ SR ρ S Sc' := by
  obtain ⟨w, ws, h1, h2, h3⟩ := h
  exact ⟨ws, by rw [h1, show w = .long x from h2], h3⟩
theorem SR.ref {ρ : List Addr} {x : Nat} {S Sc : List Value} (h : SR ρ (.ref x :: S) Sc) : ∃ a Sc', ρ[x]? = some a ∧ Sc = .ref a :: Sc' ∧ SR ρ S Sc' := by
  obtain ⟨w, ws, h1, ⟨a, h2, h4⟩, h3⟩ := h
  exact ⟨a, ws, h2, by rw [h1, h4], h3⟩
theorem rdA_spec {α : Type} {L : List α} {j : Int32} {x : α} (h : rdA L j = some x) : ¬ j < 0 ∧ L[j.toNatClampNeg]? = some x := by
  unfold rdA at h
  split at h
  · cases h
  · rename_i q; exact ⟨q, h⟩
theorem wrA_spec {α : Type} {L L' : List α} {j : Int32} {x : α} (h : wrA L j x = some L') : ¬ j < 0 ∧ j.toNatClampNeg < L.length ∧ L' = L.set j.toNatClampNeg x := by
  unfold wrA at h
  split at h
  · cases h
  · rename_i q
    split at h
    · rename_i z; cases h; exact ⟨q, z, rfl⟩
    · cases h
end Jvm.Own
namespace Jvm.Own
open Jvm Jvm.ClassFile Sem Op Lib Jvm.Free Jvm.Stand Jvm.LawKit Jvm.RoadKit Bundle
theorem st1_len {L L' : List Slot} {k : Nat} {v : Value} (h : st1 L k v = some L') : L'.length = L.length := by
  unfold st1 at h
  split at h
  · cases h; simp
  · cases h
theorem st2_len {L L' : List Slot} {k : Nat} {v : Value} (h : st2 L k v = some L') : L'.length = L.length := by
  unfold st2 at h
  split at h
  · cases h; simp
  · cases h
theorem lrem_mod (x y : Int64) : x - (x / y) * y = x % y := by
  apply Int64.toInt_inj.mp
  have h1 := Int64.le_toInt (x % y)
  have h2 := Int64.toInt_lt (x % y)
  rw [Int64.toInt_sub, Int64.toInt_mul, Int64.toInt_div, Int.bmod_mul_bmod, Int.sub_bmod_bmod, Int.mul_comm (x.toInt.tdiv y.toInt), ← Int.tmod_def, ← Int64.toInt_mod]
  exact Int.bmod_eq_of_le_mul_two (by omega) (by omega)
theorem putOk_sim {ρ : List Addr} {ty : FieldType} {v w : Value} (h : putOk ty v = true) (hv : VR ρ v w) : narrow ty w = w ∧ fits ty w = true := by
  cases ty <;> cases v <;> first | (simp [putOk] at h; done) | skip
  · cases hv; exact ⟨rfl, rfl⟩
  · cases hv; exact ⟨rfl, rfl⟩
  · rename_i x
    cases hv
    simp only [putOk, Bool.or_eq_true, beq_iff_eq] at h
    rcases h with rfl | rfl
    · exact ⟨rfl, rfl⟩
    · exact ⟨rfl, rfl⟩
  · obtain ⟨a, -, rfl⟩ := hv; exact ⟨rfl, rfl⟩
theorem dflt_sim {ρ : List Addr} {ty : FieldType} (h : dfOk ty = true) : VR ρ (dflt ty) (defaultValue ty) := by
  cases ty <;> first | (simp [dfOk] at h; done) | exact rfl
theorem fieldOf_spec {P : PD} {c a : Nat} {cd : CD} {f : FD} (h1 : P.cls[c]? = some cd) (h2 : cd.2.2[a]? = some f) : fieldOf P c a = some f := by simp [fieldOf, h1, h2]
theorem in_wordsOf {P : PD} {d : MD} {x : Nat × It} {w : Jvm.Cond} (hd : d ∈ P.mth) (hx : x ∈ d.code) (hw : w ∈ iWords P d x) : w ∈ wordsOf P :=
  List.mem_append_right _ (List.mem_flatMap.mpr ⟨d, hd, List.mem_flatMap.mpr ⟨x, hx, hw⟩⟩)
theorem in_wordsC {P : PD} {cd : CD} {w : Jvm.Cond} (hd : cd ∈ P.cls) (hw : w ∈ cWords cd) : w ∈ wordsOf P :=
  List.mem_append_left _ (List.mem_append_left _ (List.mem_flatMap.mpr ⟨cd, hd, hw⟩))
theorem in_wordsM {P : PD} {y : MD} {j : Nat} {w : Jvm.Cond} (hd : P.mth[j]? = some y) (hj : 0 < j) (hw : w ∈ mWords y) : w ∈ wordsOf P := by
  refine List.mem_append_left _ (List.mem_append_right _ (List.mem_flatMap.mpr ⟨y, ?_, hw⟩))
  have : (P.mth.drop 1)[j - 1]? = some y := by rw [List.getElem?_drop]; rw [show 1 + (j - 1) = j by omega]; exact hd
  exact List.mem_of_getElem? this
theorem fWord_in {cd : CD} {f : FD} (h : f ∈ cd.2.2) : fWord cd.1 f ∈ cWords cd := List.mem_cons_of_mem _ (List.mem_cons_of_mem _ (List.mem_map.mpr ⟨f, h, rfl⟩))
theorem cChk_of {P : PD} (hP : chk P = true) {cd : CD} (h : cd ∈ P.cls) : cChk cd = true := by
  simp only [chk, Bool.and_eq_true, List.all_eq_true] at hP
  exact hP.1 cd h
theorem mChk_of {P : PD} (hP : chk P = true) {d : MD} (h : d ∈ P.mth) : mChk P d = true := by
  simp only [chk, Bool.and_eq_true, List.all_eq_true] at hP
  exact hP.2 d h
theorem cid_of {P : PD} (hP : chk P = true) {d : MD} (h : d ∈ P.mth) {cd : CD} (hc : P.cls[d.cid]? = some cd) : cd.1 = d.name.cls := by
  have := mChk_of hP h
  simp only [mChk, Bool.and_eq_true] at this
  have h4 := this.1.1.1.2
  unfold clsChk at h4
  rw [hc] at h4
  simpa using h4
section Step
variable {P : PD} {Z : State} {n0 : Nat} {a0 : Array Value} {l : Launch} {p : Program} {e : Env} {R : Room} {s : State} {m : MethodId} {args : Array Value} {below : List Frame} {meth : Method} {c : Code} {T : State} {locs : List Loc} {cells slots : Nat} {d : MD}
def Nxt (P : PD) (Z : State) (n0 : Nat) (l : Launch) (p : Program) (e : Env) (R : Room) (s : State) (m : MethodId) (args : Array Value) (below : List Frame) (meth : Method) (c : Code) (T : State) (cells slots : Nat) (ρ : List Addr) (g : JFrame) (pc' : Nat) (L L' : List Slot) (S' : List Value) (H1 : AHeap) : Prop :=
  ∃ T' locs' A' Sc', Stand p l e R s m args below meth c T' locs' cells slots ∧ L'.length = L.length ∧ LR ρ L' A' ∧ SR ρ S' Sc' ∧ HR P Z n0 T'.heap ρ H1 ∧ Fr n0 locs' ∧
    ∀ target, Steps p.tables e below (T'.setTop (mkF m pc' A' Sc')) target → Steps p.tables e below (T.setTop g) target
theorem Nxt.pure {ρ : List Addr} {H : AHeap} {g : JFrame} {pc' : Nat} {L L' : List Slot} {S' Sc' : List Value} {A' : Array Slot} (X : Stand p l e R s m args below meth c T locs cells slots) (hl : L'.length = L.length) (hL : LR ρ L' A') (hS : SR ρ S' Sc') (hH : HR P Z n0 T.heap ρ H) (hF : Fr n0 locs)
    (k : ∀ target, Steps p.tables e below (T.setTop (mkF m pc' A' Sc')) target → Steps p.tables e below (T.setTop g) target) : Nxt P Z n0 l p e R s m args below meth c T cells slots ρ g pc' L L' S' H :=
  ⟨T, locs, A', Sc', X, hl, hL, hS, hH, hF, k⟩
theorem Nxt.mem {ρ : List Addr} {H1 : AHeap} {g : JFrame} {pc' : Nat} {L L' : List Slot} {S' Sc' : List Value} {A' : Array Slot} {T' : State} {locs' : List Loc} (X : Stand p l e R s m args below meth c T' locs' cells slots) (hl : L'.length = L.length) (hL : LR ρ L' A') (hS : SR ρ S' Sc') (hH : HR P Z n0 T'.heap ρ H1) (hF : Fr n0 locs')
    (k : ∀ target, Steps p.tables e below (T'.setTop (mkF m pc' A' Sc')) target → Steps p.tables e below (T.setTop g) target) : Nxt P Z n0 l p e R s m args below meth c T cells slots ρ g pc' L L' S' H1 :=
  ⟨T', locs', A', Sc', X, hl, hL, hS, hH, hF, k⟩
set_option maxHeartbeats 4000000 in
theorem stepX (X : Stand p l e R s m args below meth c T locs cells slots) (hx : p.tables.exec = Jvm.exec) (hZ : Z.Warmed39 s.vm) (hown : s.vm.findClass d.name.cls = some m.cls) (hnm : meth.name = d.name.name) (hP : chk P = true) (hW : ∀ w ∈ wordsOf P, w.before a0 Z = true) (hdm : d ∈ P.mth)
    {pc len a : Nat} {er : List Bool} {b : Int} {i : Instr} (hit : (pc, i, len, er, a, b) ∈ d.code) (hd : decode c.code pc = .ok (i, len)) (hlen : lenOk i len = true) {ρ : List Addr} {L L' : List Slot} {S S' Sc : List Value} {H H1 : AHeap} {A : Array Slot}
    (hL : LR ρ L A) (hS : SR ρ S Sc) (hH : HR P Z n0 T.heap ρ H) (hF : Fr n0 locs) (h : xI P (d.name.name == "<init>") d.cid i a b L S H = some (L', S', H1)) :
    Nxt P Z n0 l p e R s m args below meth c T cells slots ρ (mkF m pc A Sc) (pc + len) L L' S' H1 := by
  have hWi : ∀ w ∈ iWords P d (pc, i, len, er, a, b), w.before a0 Z = true := fun w q => hW w (in_wordsOf hdm hit q)
  cases i with
  | aload_n k =>
    obtain rfl : len = 1 := by simpa [lenOk] using hlen
    simp only [xI] at h
    split at h
    · rename_i x q
      cases h
      obtain ⟨w, hv, hg⟩ := hL.get q
      obtain ⟨ad, h1, rfl⟩ := hv
      exact Nxt.pure X rfl hL ⟨_, _, rfl, ⟨ad, h1, rfl⟩, hS⟩ hH hF (fun t z => XS.aloadN (g := mkF m pc A Sc) X.here hx rfl hd hg rfl z)
    · cases h
  | aload k =>
    obtain rfl : len = 2 := by simpa [lenOk] using hlen
    simp only [xI] at h
    split at h
    · rename_i x q
      cases h
      obtain ⟨w, hv, hg⟩ := hL.get q
      obtain ⟨ad, h1, rfl⟩ := hv
      exact Nxt.pure X rfl hL ⟨_, _, rfl, ⟨ad, h1, rfl⟩, hS⟩ hH hF (fun t z => XS.aload (g := mkF m pc A Sc) X.here hx rfl hd hg rfl z)
    · cases h
  | iload_n k =>
    obtain rfl : len = 1 := by simpa [lenOk] using hlen
    simp only [xI] at h
    split at h
    · rename_i x q
      cases h
      obtain ⟨w, hv, hg⟩ := hL.get q
      obtain rfl : w = .int _ := hv
      exact Nxt.pure X rfl hL ⟨_, _, rfl, rfl, hS⟩ hH hF (fun t z => XS.iloadN (g := mkF m pc A Sc) X.here hx rfl hd hg z)
    · cases h
  | iload k =>
    obtain rfl : len = 2 := by simpa [lenOk] using hlen
    simp only [xI] at h
    split at h
    · rename_i x q
      cases h
      obtain ⟨w, hv, hg⟩ := hL.get q
      obtain rfl : w = .int _ := hv
      exact Nxt.pure X rfl hL ⟨_, _, rfl, rfl, hS⟩ hH hF (fun t z => XS.iload (g := mkF m pc A Sc) X.here hx rfl hd hg z)
    · cases h
  | lload_n k =>
    obtain rfl : len = 1 := by simpa [lenOk] using hlen
    simp only [xI] at h
    split at h
    · rename_i x q
      cases h
      obtain ⟨w, hv, hg⟩ := hL.get q
      obtain rfl : w = .long _ := hv
      exact Nxt.pure X rfl hL ⟨_, _, rfl, rfl, hS⟩ hH hF (fun t z => XT.lloadN (g := mkF m pc A Sc) X.here hx rfl hd hg z)
    · cases h
  | lload k =>
    obtain rfl : len = 2 := by simpa [lenOk] using hlen
    simp only [xI] at h
    split at h
    · rename_i x q
      cases h
      obtain ⟨w, hv, hg⟩ := hL.get q
      obtain rfl : w = .long _ := hv
      exact Nxt.pure X rfl hL ⟨_, _, rfl, rfl, hS⟩ hH hF (fun t z => XT.lload (g := mkF m pc A Sc) X.here hx rfl hd hg z)
    · cases h
  | istore_n k =>
    obtain rfl : len = 1 := by simpa [lenOk] using hlen
    simp only [xI] at h
    split at h
    · rename_i x S0
      obtain ⟨L1, q, e1⟩ := Option.map_eq_some_iff.mp h
      cases e1
      obtain ⟨S2, rfl, h2⟩ := hS.int
      obtain ⟨A', z1, z2⟩ := store1_sim hL q (show VR ρ (.int x) (.int x) from rfl) rfl
      exact Nxt.pure X (st1_len q) z2 h2 hH hF (fun t z => XS.istoreN (g := mkF m pc A _) X.here hx rfl hd rfl z1 z)
    · cases h
  | istore k =>
    obtain rfl : len = 2 := by simpa [lenOk] using hlen
    simp only [xI] at h
    split at h
    · rename_i x S0
      obtain ⟨L1, q, e1⟩ := Option.map_eq_some_iff.mp h
      cases e1
      obtain ⟨S2, rfl, h2⟩ := hS.int
      obtain ⟨A', z1, z2⟩ := store1_sim hL q (show VR ρ (.int x) (.int x) from rfl) rfl
      exact Nxt.pure X (st1_len q) z2 h2 hH hF (fun t z => XS.istore (g := mkF m pc A _) X.here hx rfl hd rfl z1 z)
    · cases h
  | astore_n k =>
    obtain rfl : len = 1 := by simpa [lenOk] using hlen
    simp only [xI] at h
    split at h
    · rename_i x S0
      obtain ⟨L1, q, e1⟩ := Option.map_eq_some_iff.mp h
      cases e1
      obtain ⟨ad, S2, h1, rfl, h2⟩ := hS.ref
      obtain ⟨A', z1, z2⟩ := store1_sim hL q (show VR ρ (.ref x) (.ref ad) from ⟨ad, h1, rfl⟩) rfl
      exact Nxt.pure X (st1_len q) z2 h2 hH hF (fun t z => XS.astoreN (g := mkF m pc A _) X.here hx rfl hd rfl rfl z1 z)
    · cases h
  | astore k =>
    obtain rfl : len = 2 := by simpa [lenOk] using hlen
    simp only [xI] at h
    split at h
    · rename_i x S0
      obtain ⟨L1, q, e1⟩ := Option.map_eq_some_iff.mp h
      cases e1
      obtain ⟨ad, S2, h1, rfl, h2⟩ := hS.ref
      obtain ⟨A', z1, z2⟩ := store1_sim hL q (show VR ρ (.ref x) (.ref ad) from ⟨ad, h1, rfl⟩) rfl
      exact Nxt.pure X (st1_len q) z2 h2 hH hF (fun t z => XS.astore (g := mkF m pc A _) X.here hx rfl hd rfl rfl z1 z)
    · cases h
  | lstore_n k =>
    obtain rfl : len = 1 := by simpa [lenOk] using hlen
    simp only [xI] at h
    split at h
    · rename_i x S0
      obtain ⟨L1, q, e1⟩ := Option.map_eq_some_iff.mp h
      cases e1
      obtain ⟨S2, rfl, h2⟩ := hS.long
      obtain ⟨A', z1, z2⟩ := store2_sim hL q (show VR ρ (.long x) (.long x) from rfl) rfl
      exact Nxt.pure X (st2_len q) z2 h2 hH hF (fun t z => XT.lstoreN (g := mkF m pc A _) X.here hx rfl hd rfl z1 z)
    · cases h
  | lstore k =>
    obtain rfl : len = 2 := by simpa [lenOk] using hlen
    simp only [xI] at h
    split at h
    · rename_i x S0
      obtain ⟨L1, q, e1⟩ := Option.map_eq_some_iff.mp h
      cases e1
      obtain ⟨S2, rfl, h2⟩ := hS.long
      obtain ⟨A', z1, z2⟩ := store2_sim hL q (show VR ρ (.long x) (.long x) from rfl) rfl
      exact Nxt.pure X (st2_len q) z2 h2 hH hF (fun t z => XT.lstore (g := mkF m pc A _) X.here hx rfl hd rfl z1 z)
    · cases h
  | iinc k dd =>
    obtain rfl : len = 3 := by simpa [lenOk] using hlen
    simp only [xI] at h
    split at h
    · rename_i x q0
      obtain ⟨L1, q, e1⟩ := Option.map_eq_some_iff.mp h
      cases e1
      obtain ⟨w, hv, hg⟩ := hL.get q0
      obtain rfl : w = .int _ := hv
      obtain ⟨A', z1, z2⟩ := store1_sim hL q (show VR ρ (.int (x + Int32.ofInt dd)) (.int (x + Int32.ofInt dd)) from rfl) rfl
      exact Nxt.pure X (st1_len q) z2 hS hH hF (fun t z => XS.iinc (g := mkF m pc A Sc) X.here hx rfl hd hg z1 z)
    · cases h
  | iconst v =>
    obtain rfl : len = 1 := by simpa [lenOk] using hlen
    simp only [xI] at h
    cases h
    exact Nxt.pure X rfl hL ⟨_, _, rfl, rfl, hS⟩ hH hF (fun t z => XS.iconst (g := mkF m pc A Sc) X.here hx rfl hd z)
  | bipush v =>
    obtain rfl : len = 2 := by simpa [lenOk] using hlen
    simp only [xI] at h
    cases h
    exact Nxt.pure X rfl hL ⟨_, _, rfl, rfl, hS⟩ hH hF (fun t z => XS.bipush (g := mkF m pc A Sc) X.here hx rfl hd z)
  | sipush v =>
    obtain rfl : len = 3 := by simpa [lenOk] using hlen
    simp only [xI] at h
    cases h
    exact Nxt.pure X rfl hL ⟨_, _, rfl, rfl, hS⟩ hH hF (fun t z => XS.sipush (g := mkF m pc A Sc) X.here hx rfl hd z)
  | lconst v =>
    obtain rfl : len = 1 := by simpa [lenOk] using hlen
    simp only [xI] at h
    cases h
    exact Nxt.pure X rfl hL ⟨_, _, rfl, rfl, hS⟩ hH hF (fun t z => XT.lconst (g := mkF m pc A Sc) X.here hx rfl hd z)
  | ldc k =>
    obtain rfl : len = 2 := by simpa [lenOk] using hlen
    simp only [xI] at h
    cases h
    have w1 := hWi (.constant d.name.cls k (Int32.ofInt b)) (List.mem_singleton.mpr rfl)
    exact Nxt.pure X rfl hL ⟨_, _, rfl, rfl, hS⟩ hH hF (fun t z => X.ldcInt hx hown (mvT hZ w1) (g := mkF m pc A Sc) rfl hd t z)
  | ldc2_w k =>
    obtain rfl : len = 3 := by simpa [lenOk] using hlen
    simp only [xI] at h
    cases h
    have w1 := hWi (.constantLong d.name.cls k (Int64.ofInt b)) (List.mem_singleton.mpr rfl)
    exact Nxt.pure X rfl hL ⟨_, _, rfl, rfl, hS⟩ hH hF (fun t z => X.ldc2Long hx hown (mvT hZ w1) (g := mkF m pc A Sc) rfl hd t z)
  | iadd =>
    obtain rfl : len = 1 := by simpa [lenOk] using hlen
    simp only [xI] at h
    split at h
    · rename_i y x S0
      cases h
      obtain ⟨S1, rfl, h1⟩ := hS.int
      obtain ⟨S2, rfl, h2⟩ := h1.int
      exact Nxt.pure X rfl hL ⟨_, _, rfl, rfl, h2⟩ hH hF (fun t z => XS.iadd (g := mkF m pc A _) X.here hx rfl hd rfl z)
    · cases h
  | isub =>
    obtain rfl : len = 1 := by simpa [lenOk] using hlen
    simp only [xI] at h
    split at h
    · rename_i y x S0
      cases h
      obtain ⟨S1, rfl, h1⟩ := hS.int
      obtain ⟨S2, rfl, h2⟩ := h1.int
      exact Nxt.pure X rfl hL ⟨_, _, rfl, rfl, h2⟩ hH hF (fun t z => XS.isub (g := mkF m pc A _) X.here hx rfl hd rfl z)
    · cases h
  | imul =>
    obtain rfl : len = 1 := by simpa [lenOk] using hlen
    simp only [xI] at h
    split at h
    · rename_i y x S0
      cases h
      obtain ⟨S1, rfl, h1⟩ := hS.int
      obtain ⟨S2, rfl, h2⟩ := h1.int
      exact Nxt.pure X rfl hL ⟨_, _, rfl, rfl, h2⟩ hH hF (fun t z => XS.imul (g := mkF m pc A _) X.here hx rfl hd rfl z)
    · cases h
  | iand =>
    obtain rfl : len = 1 := by simpa [lenOk] using hlen
    simp only [xI] at h
    split at h
    · rename_i y x S0
      cases h
      obtain ⟨S1, rfl, h1⟩ := hS.int
      obtain ⟨S2, rfl, h2⟩ := h1.int
      exact Nxt.pure X rfl hL ⟨_, _, rfl, rfl, h2⟩ hH hF (fun t z => XS.iand (g := mkF m pc A _) X.here hx rfl hd rfl z)
    · cases h
  | ior =>
    obtain rfl : len = 1 := by simpa [lenOk] using hlen
    simp only [xI] at h
    split at h
    · rename_i y x S0
      cases h
      obtain ⟨S1, rfl, h1⟩ := hS.int
      obtain ⟨S2, rfl, h2⟩ := h1.int
      exact Nxt.pure X rfl hL ⟨_, _, rfl, rfl, h2⟩ hH hF (fun t z => XT.ior (g := mkF m pc A _) X.here hx rfl hd rfl z)
    · cases h
  | ixor =>
    obtain rfl : len = 1 := by simpa [lenOk] using hlen
    simp only [xI] at h
    split at h
    · rename_i y x S0
      cases h
      obtain ⟨S1, rfl, h1⟩ := hS.int
      obtain ⟨S2, rfl, h2⟩ := h1.int
      exact Nxt.pure X rfl hL ⟨_, _, rfl, rfl, h2⟩ hH hF (fun t z => XT.ixor (g := mkF m pc A _) X.here hx rfl hd rfl z)
    · cases h
  | ishl =>
    obtain rfl : len = 1 := by simpa [lenOk] using hlen
    simp only [xI] at h
    split at h
    · rename_i y x S0
      cases h
      obtain ⟨S1, rfl, h1⟩ := hS.int
      obtain ⟨S2, rfl, h2⟩ := h1.int
      exact Nxt.pure X rfl hL ⟨_, _, rfl, rfl, h2⟩ hH hF (fun t z => XT.ishl (g := mkF m pc A _) X.here hx rfl hd rfl z)
    · cases h
  | ishr =>
    obtain rfl : len = 1 := by simpa [lenOk] using hlen
    simp only [xI] at h
    split at h
    · rename_i y x S0
      cases h
      obtain ⟨S1, rfl, h1⟩ := hS.int
      obtain ⟨S2, rfl, h2⟩ := h1.int
      exact Nxt.pure X rfl hL ⟨_, _, rfl, rfl, h2⟩ hH hF (fun t z => XT.ishr (g := mkF m pc A _) X.here hx rfl hd rfl z)
    · cases h
  | iushr =>
    obtain rfl : len = 1 := by simpa [lenOk] using hlen
    simp only [xI] at h
    split at h
    · rename_i y x S0
      cases h
      obtain ⟨S1, rfl, h1⟩ := hS.int
      obtain ⟨S2, rfl, h2⟩ := h1.int
      exact Nxt.pure X rfl hL ⟨_, _, rfl, rfl, h2⟩ hH hF (fun t z => XT.iushr (g := mkF m pc A _) X.here hx rfl hd rfl z)
    · cases h
  | ladd =>
    obtain rfl : len = 1 := by simpa [lenOk] using hlen
    simp only [xI] at h
    split at h
    · rename_i y x S0
      cases h
      obtain ⟨S1, rfl, h1⟩ := hS.long
      obtain ⟨S2, rfl, h2⟩ := h1.long
      exact Nxt.pure X rfl hL ⟨_, _, rfl, rfl, h2⟩ hH hF (fun t z => XT.ladd (g := mkF m pc A _) X.here hx rfl hd rfl z)
    · cases h
  | lsub =>
    obtain rfl : len = 1 := by simpa [lenOk] using hlen
    simp only [xI] at h
    split at h
    · rename_i y x S0
      cases h
      obtain ⟨S1, rfl, h1⟩ := hS.long
      obtain ⟨S2, rfl, h2⟩ := h1.long
      exact Nxt.pure X rfl hL ⟨_, _, rfl, rfl, h2⟩ hH hF (fun t z => XT.lsub (g := mkF m pc A _) X.here hx rfl hd rfl z)
    · cases h
  | lmul =>
    obtain rfl : len = 1 := by simpa [lenOk] using hlen
    simp only [xI] at h
    split at h
    · rename_i y x S0
      cases h
      obtain ⟨S1, rfl, h1⟩ := hS.long
      obtain ⟨S2, rfl, h2⟩ := h1.long
      exact Nxt.pure X rfl hL ⟨_, _, rfl, rfl, h2⟩ hH hF (fun t z => XT.lmul (g := mkF m pc A _) X.here hx rfl hd rfl z)
    · cases h
  | land =>
    obtain rfl : len = 1 := by simpa [lenOk] using hlen
    simp only [xI] at h
    split at h
    · rename_i y x S0
      cases h
      obtain ⟨S1, rfl, h1⟩ := hS.long
      obtain ⟨S2, rfl, h2⟩ := h1.long
      exact Nxt.pure X rfl hL ⟨_, _, rfl, rfl, h2⟩ hH hF (fun t z => XT.land (g := mkF m pc A _) X.here hx rfl hd rfl z)
    · cases h
  | lor =>
    obtain rfl : len = 1 := by simpa [lenOk] using hlen
    simp only [xI] at h
    split at h
    · rename_i y x S0
      cases h
      obtain ⟨S1, rfl, h1⟩ := hS.long
      obtain ⟨S2, rfl, h2⟩ := h1.long
      exact Nxt.pure X rfl hL ⟨_, _, rfl, rfl, h2⟩ hH hF (fun t z => XT.lor (g := mkF m pc A _) X.here hx rfl hd rfl z)
    · cases h
  | lxor =>
    obtain rfl : len = 1 := by simpa [lenOk] using hlen
    simp only [xI] at h
    split at h
    · rename_i y x S0
      cases h
      obtain ⟨S1, rfl, h1⟩ := hS.long
      obtain ⟨S2, rfl, h2⟩ := h1.long
      exact Nxt.pure X rfl hL ⟨_, _, rfl, rfl, h2⟩ hH hF (fun t z => XT.lxor (g := mkF m pc A _) X.here hx rfl hd rfl z)
    · cases h
  | lcmp =>
    obtain rfl : len = 1 := by simpa [lenOk] using hlen
    simp only [xI] at h
    split at h
    · rename_i y x S0
      cases h
      obtain ⟨S1, rfl, h1⟩ := hS.long
      obtain ⟨S2, rfl, h2⟩ := h1.long
      exact Nxt.pure X rfl hL ⟨_, _, rfl, rfl, h2⟩ hH hF (fun t z => XT.lcmp (g := mkF m pc A _) X.here hx rfl hd rfl z)
    · cases h
  | lshl =>
    obtain rfl : len = 1 := by simpa [lenOk] using hlen
    simp only [xI] at h
    split at h
    · rename_i y x S0
      cases h
      obtain ⟨S1, rfl, h1⟩ := hS.int
      obtain ⟨S2, rfl, h2⟩ := h1.long
      exact Nxt.pure X rfl hL ⟨_, _, rfl, rfl, h2⟩ hH hF (fun t z => XT.lshl (g := mkF m pc A _) X.here hx rfl hd rfl z)
    · cases h
  | lshr =>
    obtain rfl : len = 1 := by simpa [lenOk] using hlen
    simp only [xI] at h
    split at h
    · rename_i y x S0
      cases h
      obtain ⟨S1, rfl, h1⟩ := hS.int
      obtain ⟨S2, rfl, h2⟩ := h1.long
      exact Nxt.pure X rfl hL ⟨_, _, rfl, rfl, h2⟩ hH hF (fun t z => XT.lshr (g := mkF m pc A _) X.here hx rfl hd rfl z)
    · cases h
  | lushr =>
    obtain rfl : len = 1 := by simpa [lenOk] using hlen
    simp only [xI] at h
    split at h
    · rename_i y x S0
      cases h
      obtain ⟨S1, rfl, h1⟩ := hS.int
      obtain ⟨S2, rfl, h2⟩ := h1.long
      exact Nxt.pure X rfl hL ⟨_, _, rfl, rfl, h2⟩ hH hF (fun t z => XT.lushr (g := mkF m pc A _) X.here hx rfl hd rfl z)
    · cases h
  | idiv =>
    obtain rfl : len = 1 := by simpa [lenOk] using hlen
    simp only [xI] at h
    split at h
    · rename_i y x S0
      split at h
      · cases h
      · rename_i hy
        cases h
        obtain ⟨S1, rfl, h1⟩ := hS.int
        obtain ⟨S2, rfl, h2⟩ := h1.int
        exact Nxt.pure X rfl hL ⟨_, _, rfl, rfl, h2⟩ hH hF (fun t z => XS.idiv (g := mkF m pc A _) X.here hx rfl hd rfl hy z)
    · cases h
  | irem =>
    obtain rfl : len = 1 := by simpa [lenOk] using hlen
    simp only [xI] at h
    split at h
    · rename_i y x S0
      split at h
      · cases h
      · rename_i hy
        cases h
        obtain ⟨S1, rfl, h1⟩ := hS.int
        obtain ⟨S2, rfl, h2⟩ := h1.int
        exact Nxt.pure X rfl hL ⟨_, _, rfl, rfl, h2⟩ hH hF (fun t z => iremM (g := mkF m pc A _) X hx rfl hd rfl hy z)
    · cases h
  | ldiv =>
    obtain rfl : len = 1 := by simpa [lenOk] using hlen
    simp only [xI] at h
    split at h
    · rename_i y x S0
      split at h
      · cases h
      · rename_i hy
        cases h
        obtain ⟨S1, rfl, h1⟩ := hS.long
        obtain ⟨S2, rfl, h2⟩ := h1.long
        exact Nxt.pure X rfl hL ⟨_, _, rfl, rfl, h2⟩ hH hF (fun t z => XT.ldiv (g := mkF m pc A _) X.here hx rfl hd rfl hy z)
    · cases h
  | lrem =>
    obtain rfl : len = 1 := by simpa [lenOk] using hlen
    simp only [xI] at h
    split at h
    · rename_i y x S0
      split at h
      · cases h
      · rename_i hy
        cases h
        obtain ⟨S1, rfl, h1⟩ := hS.long
        obtain ⟨S2, rfl, h2⟩ := h1.long
        exact Nxt.pure X rfl hL ⟨_, _, rfl, rfl, h2⟩ hH hF (fun t z => XT.lrem (g := mkF m pc A _) X.here hx rfl hd rfl hy (by rw [lrem_mod]; exact z))
    · cases h
  | i2l =>
    obtain rfl : len = 1 := by simpa [lenOk] using hlen
    simp only [xI] at h
    split at h
    · rename_i x S0
      cases h
      obtain ⟨S1, rfl, h1⟩ := hS.int
      exact Nxt.pure X rfl hL ⟨_, _, rfl, rfl, h1⟩ hH hF (fun t z => XT.i2l (g := mkF m pc A _) X.here hx rfl hd rfl z)
    · cases h
  | l2i =>
    obtain rfl : len = 1 := by simpa [lenOk] using hlen
    simp only [xI] at h
    split at h
    · rename_i x S0
      cases h
      obtain ⟨S1, rfl, h1⟩ := hS.long
      exact Nxt.pure X rfl hL ⟨_, _, rfl, rfl, h1⟩ hH hF (fun t z => XT.l2i (g := mkF m pc A _) X.here hx rfl hd rfl z)
    · cases h
  | dup =>
    obtain rfl : len = 1 := by simpa [lenOk] using hlen
    simp only [xI] at h
    split at h
    · rename_i x S0
      cases h
      obtain ⟨S1, rfl, h1⟩ := hS.int
      exact Nxt.pure X rfl hL ⟨_, _, rfl, rfl, _, _, rfl, rfl, h1⟩ hH hF (fun t z => XS.dup (g := mkF m pc A _) X.here hx rfl hd rfl rfl z)
    · rename_i x S0
      cases h
      obtain ⟨ad, S1, g1, rfl, h1⟩ := hS.ref
      exact Nxt.pure X rfl hL ⟨_, _, rfl, ⟨ad, g1, rfl⟩, _, _, rfl, ⟨ad, g1, rfl⟩, h1⟩ hH hF (fun t z => XS.dup (g := mkF m pc A _) X.here hx rfl hd rfl rfl z)
    · cases h
  | dup2 =>
    obtain rfl : len = 1 := by simpa [lenOk] using hlen
    simp only [xI] at h
    split at h
    · rename_i x y S0
      cases h
      obtain ⟨S1, rfl, h1⟩ := hS.int
      obtain ⟨ad, S2, g1, rfl, h2⟩ := h1.ref
      exact Nxt.pure X rfl hL ⟨_, _, rfl, rfl, _, _, rfl, ⟨ad, g1, rfl⟩, _, _, rfl, rfl, _, _, rfl, ⟨ad, g1, rfl⟩, h2⟩ hH hF (fun t z => XT.dup2 (g := mkF m pc A _) X.here hx rfl hd rfl rfl rfl z)
    · rename_i x S0
      cases h
      obtain ⟨S1, rfl, h1⟩ := hS.long
      exact Nxt.pure X rfl hL ⟨_, _, rfl, rfl, _, _, rfl, rfl, h1⟩ hH hF (fun t z => XT.dup2L (g := mkF m pc A _) X.here hx rfl hd rfl z)
    · cases h
  | pop =>
    obtain rfl : len = 1 := by simpa [lenOk] using hlen
    simp only [xI] at h
    split at h
    · rename_i x S0
      cases h
      obtain ⟨S1, rfl, h1⟩ := hS.int
      exact Nxt.pure X rfl hL h1 hH hF (fun t z => XT.pop (g := mkF m pc A _) X.here hx rfl hd rfl rfl z)
    · cases h
  | getfield k =>
    obtain rfl : len = 3 := by simpa [lenOk] using hlen
    simp only [xI] at h
    split at h
    · rename_i o S0
      obtain ⟨ad, S1, g1, rfl, h1⟩ := hS.ref
      split at h
      · rename_i c0 fs hc0
        split at h
        · rename_i ec
          subst ec
          obtain ⟨ad', g2, cd, q1, q2, q3, q4⟩ := hH.at hc0
          rw [g1] at g2; cases g2
          have hcd := cid_of hP hdm q1
          have core : ∀ v, fs[a]? = some v → ∃ w T2, VR ρ v w ∧ Stand p l e R s m args below meth c T2 locs cells slots ∧ T2.heap = T.heap ∧ ∀ target, Steps p.tables e below (T2.setTop (mkF m (pc + 3) A (w :: S1))) target → Steps p.tables e below (T.setTop (mkF m pc A (.ref ad :: S1))) target := fun v hv => by
            have ha : a < cd.2.2.length := by rw [← q3]; exact (List.getElem?_eq_some_iff.mp hv).1
            obtain ⟨w, hvw, F⟩ := q4 a v _ hv (List.getElem?_eq_getElem ha)
            have w1 := hWi (.fieldLink d.name.cls k d.name.cls cd.2.2[a].1 cd.2.2[a].2.1) (by
              show _ ∈ fLink P d k a
              unfold fLink
              rw [fieldOf_spec q1 (List.getElem?_eq_getElem ha)]
              exact List.mem_singleton.mpr rfl)
            rw [hcd] at F
            obtain ⟨T2, X2, e2, st2⟩ := getF X hx hZ hown (host := "") (Or.inl w1) Via.refl rfl F (g := mkF m pc A (.ref ad :: S1)) rfl rfl hd
            exact ⟨w, T2, hvw, X2, e2, st2⟩
          split at h
          · rename_i x hv
            cases h
            obtain ⟨w, T2, hvw, X2, e2, st2⟩ := core _ hv
            exact Nxt.mem X2 rfl hL ⟨_, _, rfl, hvw, h1⟩ (by rw [e2]; exact hH) hF st2
          · rename_i x hv
            cases h
            obtain ⟨w, T2, hvw, X2, e2, st2⟩ := core _ hv
            exact Nxt.mem X2 rfl hL ⟨_, _, rfl, hvw, h1⟩ (by rw [e2]; exact hH) hF st2
          · rename_i x hv
            cases h
            obtain ⟨w, T2, hvw, X2, e2, st2⟩ := core _ hv
            exact Nxt.mem X2 rfl hL ⟨_, _, rfl, hvw, h1⟩ (by rw [e2]; exact hH) hF st2
          · cases h
        · cases h
      · cases h
    · cases h
  | putfield k =>
    obtain rfl : len = 3 := by simpa [lenOk] using hlen
    simp only [xI] at h
    split at h
    · rename_i v o S0
      obtain ⟨w, Sx, rfl, hvw, hS1⟩ := hS
      obtain ⟨ad, S1, g1, rfl, h1⟩ := hS1.ref
      split at h
      · rename_i c0 fs hc0
        split at h
        · rename_i ec
          obtain ⟨ec, enr⟩ := ec
          subst ec
          split at h
          · rename_i nm ds ty fin hf
            split at h
            · rename_i hok
              cases h
              simp only [Bool.and_eq_true] at hok
              obtain ⟨hok, hfin⟩ := hok
              obtain ⟨ad', g2, cd, q1, q2, q3, q4⟩ := hH.at hc0
              rw [g1] at g2; cases g2
              have hcd := cid_of hP hdm q1
              rw [q1] at hf
              have hf' : cd.2.2[a]? = some (nm, ds, ty, fin) := hf
              have ha : a < fs.length := by rw [q3]; exact (List.getElem?_eq_some_iff.mp hf').1
              obtain ⟨w0, -, F⟩ := q4 a _ _ (List.getElem?_eq_getElem ha) hf'
              have w1 := hWi (.fieldLink d.name.cls k d.name.cls nm ds) (by
                show _ ∈ fLink P d k a
                unfold fLink
                rw [fieldOf_spec q1 hf']
                exact List.mem_singleton.mpr rfl)
              have hcm : cd ∈ P.cls := List.mem_of_getElem? q1
              have w2 := hW _ (in_wordsC hcm (fWord_in (List.mem_of_getElem? hf')))
              have w3 := hW (.instantiable cd.1 cd.2.1) (in_wordsC hcm (List.mem_cons_self ..))
              have hck := cChk_of hP hcm
              have hck' := hck
              simp only [cChk, Bool.and_eq_true, List.all_eq_true] at hck'
              have f1 := hck'.2 _ (List.mem_of_getElem? hf')
              simp only [fChk, Bool.and_eq_true, decide_eq_true_eq] at f1
              obtain ⟨p1, p2⟩ := putOk_sim hok hvw
              have Ly : (Jvm.Cond.lays cd.1 cd.1 nm ds).before a0 Z = true ∨ ((Jvm.Cond.laysFinal cd.1 cd.1 nm ds).before a0 Z = true ∧ d.name.cls = cd.1 ∧ meth.name = "<init>") := by
                unfold fWord at w2
                cases fin with
                | false => exact Or.inl w2
                | true => exact Or.inr ⟨w2, hcd.symm, by rw [hnm]; simpa using hfin⟩
              obtain ⟨T2, h2, X2, e2, W2, st2⟩ := putF X hx hZ hown (host := "") (R0 := d.name.cls) (O := cd.1) (Or.inl w1) (by rw [hcd]; exact Via.refl) rfl F q2 Ly w3 f1.1 p1 p2 (g := mkF m pc A (w :: .ref ad :: S1)) rfl rfl hd
              have hH2 := hH.putF (a0 := a0) g1 hc0 q1 hf' hck (fun f hfm => hW _ (in_wordsC hcm (fWord_in hfm))) W2 hvw
              exact Nxt.mem X2 rfl hL h1 (by rw [e2]; exact hH2) (Fr.snoc X2 hF (hH.2.2.2.1 _ _ g1 enr)) st2
            · cases h
          · cases h
        · cases h
      · cases h
    · cases h
  | iaload =>
    obtain rfl : len = 1 := by simpa [lenOk] using hlen
    simp only [xI] at h
    split at h
    · rename_i j o S0
      obtain ⟨S1, rfl, h1⟩ := hS.int
      obtain ⟨ad, S2, g1, rfl, h2⟩ := h1.ref
      split at h
      · rename_i B hc0
        obtain ⟨x, q, e1⟩ := Option.map_eq_some_iff.mp h
        cases e1
        obtain ⟨hj, hat⟩ := rdA_spec q
        obtain ⟨ad', g2, cl, Ar, z1, z2, z3⟩ := hH.at hc0
        rw [g1] at g2; cases g2
        have hin : ¬ (j < 0 ∨ cl.slots.size ≤ j.toNatClampNeg) := by
          have := (List.getElem?_eq_some_iff.mp hat).1
          rintro (y | y)
          · exact hj y
          · omega
        exact Nxt.pure X rfl hL ⟨_, _, rfl, rfl, h2⟩ hH hF (fun t z => X.iaload hx (j := j) (v := .int x) Ar.1 (State.isArrayOf_alike hZ.alike Ar.2.1) Ar.2.2 hin (z3 _ _ hat) (g := mkF m pc A _) rfl rfl hd t z)
      · cases h
    · cases h
  | baload =>
    obtain rfl : len = 1 := by simpa [lenOk] using hlen
    simp only [xI] at h
    split at h
    · rename_i j o S0
      obtain ⟨S1, rfl, h1⟩ := hS.int
      obtain ⟨ad, S2, g1, rfl, h2⟩ := h1.ref
      split at h
      · rename_i B hc0
        obtain ⟨x, q, e1⟩ := Option.map_eq_some_iff.mp h
        cases e1
        obtain ⟨hj, hat⟩ := rdA_spec q
        obtain ⟨ad', g2, cl, Ar, z1, z2, z3⟩ := hH.at hc0
        rw [g1] at g2; cases g2
        have hin : ¬ (j < 0 ∨ cl.slots.size ≤ j.toNatClampNeg) := by
          have := (List.getElem?_eq_some_iff.mp hat).1
          rintro (y | y)
          · exact hj y
          · omega
        exact Nxt.pure X rfl hL ⟨_, _, rfl, rfl, h2⟩ hH hF (fun t z => X.baloadBooleans hx (j := j) (v := .int x) Ar.1 (State.isArrayOf_alike hZ.alike Ar.2.1) Ar.2.2 hin (z3 _ _ hat) (g := mkF m pc A _) rfl rfl hd t z)
      · cases h
    · cases h
  | laload =>
    obtain rfl : len = 1 := by simpa [lenOk] using hlen
    simp only [xI] at h
    split at h
    · rename_i j o S0
      obtain ⟨S1, rfl, h1⟩ := hS.int
      obtain ⟨ad, S2, g1, rfl, h2⟩ := h1.ref
      split at h
      · rename_i B hc0
        obtain ⟨x, q, e1⟩ := Option.map_eq_some_iff.mp h
        cases e1
        obtain ⟨hj, hat⟩ := rdA_spec q
        obtain ⟨ad', g2, cl, Ar, z1, z2, z3⟩ := hH.at hc0
        rw [g1] at g2; cases g2
        have hin : ¬ (j < 0 ∨ cl.slots.size ≤ j.toNatClampNeg) := by
          have := (List.getElem?_eq_some_iff.mp hat).1
          rintro (y | y)
          · exact hj y
          · omega
        exact Nxt.pure X rfl hL ⟨_, _, rfl, rfl, h2⟩ hH hF (fun t z => X.laload hx (j := j) (v := .long x) Ar.1 (State.isArrayOf_alike hZ.alike Ar.2.1) Ar.2.2 hin (z3 _ _ hat) (g := mkF m pc A _) rfl rfl hd t z)
      · cases h
    · cases h
  | iastore =>
    obtain rfl : len = 1 := by simpa [lenOk] using hlen
    simp only [xI] at h
    split at h
    · rename_i x j o S0
      obtain ⟨S1, rfl, h1⟩ := hS.int
      obtain ⟨S2, rfl, h2⟩ := h1.int
      obtain ⟨ad, S3, g1, rfl, h3⟩ := h2.ref
      split at h
      · rename_i B hc0
        split at h
        · rename_i enr
          obtain ⟨B', q, e1⟩ := Option.map_eq_some_iff.mp h
          cases e1
          obtain ⟨hj, hlt, rfl⟩ := wrA_spec q
          obtain ⟨ad', g2, cl, Ar, z1, z2, z3⟩ := hH.at hc0
          rw [g1] at g2; cases g2
          have hin : ¬ (j < 0 ∨ cl.slots.size ≤ j.toNatClampNeg) := by
            rintro (y | y)
            · exact hj y
            · omega
          obtain ⟨T2, h2', X2, e2, W2, st2⟩ := stI X hx hZ rfl Ar (j := j) (x := x) hin (g := mkF m pc A _) rfl rfl hd
          exact Nxt.mem X2 rfl hL h3 (by rw [e2]; exact hH.wrI g1 hc0 W2) (Fr.snoc X2 hF (hH.2.2.2.1 _ _ g1 enr)) st2
        · cases h
      · cases h
    · cases h
  | bastore =>
    obtain rfl : len = 1 := by simpa [lenOk] using hlen
    simp only [xI] at h
    split at h
    · rename_i x j o S0
      obtain ⟨S1, rfl, h1⟩ := hS.int
      obtain ⟨S2, rfl, h2⟩ := h1.int
      obtain ⟨ad, S3, g1, rfl, h3⟩ := h2.ref
      split at h
      · rename_i B hc0
        split at h
        · rename_i enr
          obtain ⟨B', q, e1⟩ := Option.map_eq_some_iff.mp h
          cases e1
          obtain ⟨hj, hlt, rfl⟩ := wrA_spec q
          obtain ⟨ad', g2, cl, Ar, z1, z2, z3⟩ := hH.at hc0
          rw [g1] at g2; cases g2
          have hin : ¬ (j < 0 ∨ cl.slots.size ≤ j.toNatClampNeg) := by
            rintro (y | y)
            · exact hj y
            · omega
          obtain ⟨T2, h2', X2, e2, W2, st2⟩ := stZ X hx hZ rfl Ar (j := j) (x := x) hin (g := mkF m pc A _) rfl rfl hd
          exact Nxt.mem X2 rfl hL h3 (by rw [e2]; exact hH.wrI g1 hc0 W2) (Fr.snoc X2 hF (hH.2.2.2.1 _ _ g1 enr)) st2
        · cases h
      · cases h
    · cases h
  | lastore =>
    obtain rfl : len = 1 := by simpa [lenOk] using hlen
    simp only [xI] at h
    split at h
    · rename_i x j o S0
      obtain ⟨S1, rfl, h1⟩ := hS.long
      obtain ⟨S2, rfl, h2⟩ := h1.int
      obtain ⟨ad, S3, g1, rfl, h3⟩ := h2.ref
      split at h
      · rename_i B hc0
        split at h
        · rename_i enr
          obtain ⟨B', q, e1⟩ := Option.map_eq_some_iff.mp h
          cases e1
          obtain ⟨hj, hlt, rfl⟩ := wrA_spec q
          obtain ⟨ad', g2, cl, Ar, z1, z2, z3⟩ := hH.at hc0
          rw [g1] at g2; cases g2
          have hin : ¬ (j < 0 ∨ cl.slots.size ≤ j.toNatClampNeg) := by
            rintro (y | y)
            · exact hj y
            · omega
          obtain ⟨T2, h2', X2, e2, W2, st2⟩ := stJ X hx hZ rfl Ar (j := j) (x := x) hin (g := mkF m pc A _) rfl rfl hd
          exact Nxt.mem X2 rfl hL h3 (by rw [e2]; exact hH.wrJ g1 hc0 W2) (Fr.snoc X2 hF (hH.2.2.2.1 _ _ g1 enr)) st2
        · cases h
      · cases h
    · cases h
  | arraylength =>
    obtain rfl : len = 1 := by simpa [lenOk] using hlen
    simp only [xI] at h
    split at h
    · rename_i o S0
      obtain ⟨ad, S1, g1, rfl, h1⟩ := hS.ref
      split at h
      · rename_i bb B hc0
        cases h
        obtain ⟨ad', g2, cl, Ar, z1, z2, z3⟩ := hH.at hc0
        rw [g1] at g2; cases g2
        exact Nxt.pure X rfl hL ⟨_, _, rfl, rfl, h1⟩ hH hF (fun t z => X.arraylength hx (cell := cl) Ar.1 (State.isArrayOf_alike hZ.alike Ar.2.1) (g := mkF m pc A _) rfl rfl hd t (by rw [z1]; exact z))
      · cases h
    · cases h
  | _ => simp [xI] at h
set_option maxHeartbeats 4000000 in
theorem stepN (X : Stand p l e R s m args below meth c T locs cells slots) (hx : p.tables.exec = Jvm.exec) (hZ : Z.Warmed39 s.vm) (hown : s.vm.findClass d.name.cls = some m.cls) (hP : chk P = true) (hW : ∀ w ∈ wordsOf P, w.before a0 Z = true) (hdm : d ∈ P.mth)
    {pc len a ks : Nat} {er : List Bool} {b : Int} {i : Instr} (hit : (pc, i, len, er, a, b) ∈ d.code) (hd : decode c.code pc = .ok (i, len)) (hlen : lenOk i len = true) {ρ : List Addr} {S S' Sc : List Value} {H H1 : AHeap} {A : Array Slot}
    (hS : SR ρ S Sc) (hH : HR P Z n0 T.heap ρ H) (h : xN P i a S H = some (S', H1, ks)) (hc : cells + 1 ≤ R.cells) (hl : slots + ks ≤ R.slots) :
    ∃ T' ad Sc', Stand p l e R s m args below meth c T' locs (cells + 1) (slots + ks) ∧ SR (ρ ++ [ad]) S' Sc' ∧ HR P Z n0 T'.heap (ρ ++ [ad]) H1 ∧
      ∀ target, Steps p.tables e below (T'.setTop (mkF m (pc + len) A Sc')) target → Steps p.tables e below (T.setTop (mkF m pc A Sc)) target := by
  have hWi : ∀ w ∈ iWords P d (pc, i, len, er, a, b), w.before a0 Z = true := fun w q => hW w (in_wordsOf hdm hit q)
  cases i with
  | new k =>
    obtain rfl : len = 3 := by simpa [lenOk] using hlen
    simp only [xN] at h
    split at h
    · rename_i cd q1
      cases h
      have hcm : cd ∈ P.cls := List.mem_of_getElem? q1
      have w1 := hWi (.classLink d.name.cls k cd.1) (by simp only [iWords, q1]; exact List.mem_singleton.mpr rfl)
      have w2 := hW (.instantiable cd.1 cd.2.1) (in_wordsC hcm (List.mem_cons_self ..))
      have w3 := hW (.initialized cd.1) (in_wordsC hcm (List.mem_cons_of_mem _ (List.mem_cons_self ..)))
      obtain ⟨T2, h2, X2, e2, E2, A2, D2, -, st2⟩ := newO X hx hZ hown w1 w2 w3 rfl (g := mkF m pc A Sc) rfl hd hc hl
      have hck := cChk_of hP hcm
      simp only [cChk, Bool.and_eq_true, List.all_eq_true] at hck
      have hcr : CR P Z h2 (ρ ++ [T.heap.size]) T.heap.size (.inl (a, cd.2.2.map fun f => dflt f.2.2.1)) := by
        refine ⟨cd, q1, A2, by simp, fun j v fd y1 y2 => ?_⟩
        rw [List.getElem?_map, y2] at y1
        cases y1
        have f1 := hck.2 _ (List.mem_of_getElem? y2)
        simp only [fChk, Bool.and_eq_true, decide_eq_true_eq] at f1
        exact ⟨_, dflt_sim f1.2, D2 (laid_of (hW _ (in_wordsC hcm (fWord_in (List.mem_of_getElem? y2))))) f1.1⟩
      refine ⟨T2, T.heap.size, _, X2, ⟨_, _, rfl, ⟨T.heap.size, ?_, rfl⟩, hS.mono⟩, (by rw [e2]; exact hH.push E2 hcr), st2⟩
      rw [← hH.2.1]; simp
    · cases h
  | newarray t =>
    obtain rfl : len = 2 := by simpa [lenOk] using hlen
    simp only [xN] at h
    split at h
    · rename_i n S0
      obtain ⟨S1, rfl, h1⟩ := hS.int
      split at h
      · cases h
      · rename_i hn
        have hn1 : ¬ n < 0 := fun z => hn (Or.inl z)
        have hn2 : n.toNatClampNeg ≤ 100000 := Nat.le_of_not_lt fun z => hn (Or.inr z)
        have w1 := hWi (.arrayClass (newarray.typeOf t)) (List.mem_singleton.mpr rfl)
        have top : (ρ ++ [T.heap.size])[H.length]? = some T.heap.size := by rw [← hH.2.1]; simp
        split at h
        · cases h
          obtain ⟨T2, h2, cA, X2, e2, E2, A2, st2⟩ := newP X hx hZ w1 rfl (g := mkF m pc A _) rfl hd rfl hn1 (cap := n.toNatClampNeg) (Nat.le_refl _) (by omega) hc hl
          have hcr : CR P Z h2 (ρ ++ [T.heap.size]) T.heap.size ((.inr (.inl (false, List.replicate n.toNatClampNeg 0)) : ACell)) := by
            refine ⟨_, A2, by simp [sz_new], by simp; omega, fun j x y => ?_⟩
            rw [List.getElem?_replicate] at y
            split at y
            · rename_i lt
              cases y
              simp [newA, lt, newarray.typeOf, defaultValue]
            · cases y
          exact ⟨T2, T.heap.size, _, X2, ⟨_, _, rfl, ⟨T.heap.size, top, rfl⟩, h1.mono⟩, (by rw [e2]; exact hH.push E2 hcr), st2⟩
        · cases h
          obtain ⟨T2, h2, cA, X2, e2, E2, A2, st2⟩ := newP X hx hZ w1 rfl (g := mkF m pc A _) rfl hd rfl hn1 (cap := n.toNatClampNeg) (Nat.le_refl _) (by omega) hc hl
          have hcr : CR P Z h2 (ρ ++ [T.heap.size]) T.heap.size ((.inr (.inl (true, List.replicate n.toNatClampNeg 0)) : ACell)) := by
            refine ⟨_, A2, by simp [sz_new], by simp; omega, fun j x y => ?_⟩
            rw [List.getElem?_replicate] at y
            split at y
            · rename_i lt
              cases y
              simp [newA, lt, newarray.typeOf, defaultValue]
            · cases y
          exact ⟨T2, T.heap.size, _, X2, ⟨_, _, rfl, ⟨T.heap.size, top, rfl⟩, h1.mono⟩, (by rw [e2]; exact hH.push E2 hcr), st2⟩
        · cases h
          obtain ⟨T2, h2, cA, X2, e2, E2, A2, st2⟩ := newP X hx hZ w1 rfl (g := mkF m pc A _) rfl hd rfl hn1 (cap := n.toNatClampNeg) (Nat.le_refl _) (by omega) hc hl
          have hcr : CR P Z h2 (ρ ++ [T.heap.size]) T.heap.size ((.inr (.inr (List.replicate n.toNatClampNeg 0)) : ACell)) := by
            refine ⟨_, A2, by simp [sz_new], by simp; omega, fun j x y => ?_⟩
            rw [List.getElem?_replicate] at y
            split at y
            · rename_i lt
              cases y
              simp [newA, lt, newarray.typeOf, defaultValue]
            · cases y
          exact ⟨T2, T.heap.size, _, X2, ⟨_, _, rfl, ⟨T.heap.size, top, rfl⟩, h1.mono⟩, (by rw [e2]; exact hH.push E2 hcr), st2⟩
        · cases h
    · cases h
  | _ => simp [xN] at h
end Step
end Jvm.Own
namespace Jvm.Own
open Jvm Jvm.ClassFile Sem Op Lib Jvm.Free Jvm.Stand Jvm.LawKit Jvm.RoadKit Bundle
theorem fetch_mem : ∀ {l : List (Nat × It)} {pc : Nat} {i : It}, fetch l pc = some i → (pc, i) ∈ l
  | [], _, _, h => by simp [fetch] at h
  | (q, j) :: r, pc, i, h => by
    unfold fetch at h
    split at h
    · rename_i e; cases h; subst e; exact List.mem_cons_self ..
    · exact List.mem_cons_of_mem _ (fetch_mem h)
theorem tgt_spec {pc q : Nat} {o : Int} (h : tgt pc o = some q) : 0 ≤ (pc : Int) + o ∧ ((pc : Int) + o).toNat = q := by
  unfold tgt at h
  split at h
  · rename_i z; cases h; exact ⟨z, rfl⟩
  · cases h
/-- the end of a method's run -/
def Done (P : PD) (Z : State) (n0 : Nat) (p : Program) (e : Env) (below : List Frame) (s : State) (ρ : List Addr) (v : Option Value) (H' : AHeap) (kc ks : Nat) (t0 : State) : Prop :=
  ∃ s₂ v' L' t, Steps p.tables e below t0 s₂ ∧ s₂.status = .running ∧ Ended s₂ below (.returned v') ∧ OV (ρ ++ t) v v' ∧ HR P Z n0 s₂.heap (ρ ++ t) H' ∧ Fr n0 L' ∧ FrameEnd s (.returned v') s₂ L' kc ks
def Cx (P : PD) (Z : State) (p : Program) (R : Room) (s : State) (m : MethodId) (meth : Method) (c : Code) (d : MD) : Prop :=
  p.tables.exec = Jvm.exec ∧ Z.Warmed39 s.vm ∧ c.code = d.bytes ∧ c.maxLocals = d.maxL ∧ s.vm.findClass d.name.cls = some m.cls ∧ meth.name = d.name.name ∧ meth.sig.returnType = d.ret ∧ meth.locks = false ∧ d.rf ≤ R.frames ∧ d.rw ≤ R.locals
/-- what the machine says of a run that has come to pc is what the model does -/
def Says (P : PD) (Z : State) (n0 : Nat) (l : Launch) (n : Nat) : Prop :=
  ∀ (mi pc : Nat) (L : List Slot) (S : List Value) (H : AHeap) (v : Option Value) (H' : AHeap) (kc ks : Nat), exe P n mi pc L S H = some (v, H', kc, ks) → ∀ d, P.mth[mi]? = some d →
    ∀ (p : Program) (e : Env) (R : Room) (s : State) (m : MethodId) (args : Array Value) (below : List Frame) (meth : Method) (c : Code) (T : State) (locs : List Loc) (cells slots : Nat),
      Stand p l e R s m args below meth c T locs cells slots → Cx P Z p R s m meth c d → cells + kc ≤ R.cells → slots + ks ≤ R.slots →
      ∀ (ρ : List Addr) (A : Array Slot) (Sc : List Value), LR ρ L A → L.length = d.maxL → SR ρ S Sc → HR P Z n0 T.heap ρ H → Fr n0 locs →
        Done P Z n0 p e below s ρ v H' (cells + kc) (slots + ks) (T.setTop (mkF m pc A Sc))
def QQ (P : PD) (Z : State) (n0 : Nat) (ρ : List Addr) (v : Option Value) (H1 : AHeap) (v' : Option Value) (h' : Heap) (L : List Loc) : Prop := Fr n0 L ∧ ∃ t, OV (ρ ++ t) v v' ∧ HR P Z n0 h' (ρ ++ t) H1
theorem met_of {P : PD} {Z : State} {n0 : Nat} {l : Launch} {n : Nat} (ih : Says P Z n0 l n) {j : Nat} {y : MD} (hy : P.mth[j]? = some y) (hpn : plainName y.name.cls = true) {as ws : List Value} {H H1 : AHeap} {v : Option Value} {kc ks : Nat} (he : exe P n j 0 (entL as y.maxL) [] H = some (v, H1, kc, ks)) {ρ : List Addr} (hS : SR ρ as ws) (hlen : (entA as).length ≤ y.maxL) {h : Heap} (hH : HR P Z n0 h ρ H) (w0 : List Jvm.Cond) (rm : Room) (r1 : y.rf ≤ rm.frames) (r2 : y.rw ≤ rm.locals) (r3 : kc ≤ rm.cells) (r4 : ks ≤ rm.slots) :
    MetFree l y.name (head1 (Jvm.Cond.code y.name y.bytes y.maxL y.ret :: w0) rm) (fun a U => a = ws.toArray ∧ Z.Warmed39 U.vm ∧ U.heap = h) (fun _ _ _ _ _ => True)
      (fun _ U o U' => ∃ v' L, o = .returned v' ∧ QQ P Z n0 ρ v H1 v' U'.heap L ∧ FrameEnd U o U' L kc ks) := by
  refine MetFree.of_bodySF (plainFor_of_name hpn) hisR ?_
  intro p e s m args below meth c s₁ Bd hml0 hP hK
  obtain ⟨rfl, hZ, hh⟩ := hP
  have X0 : Stand p l e rm s m ws.toArray below meth c s₁ [] 0 0 := Stand.of_body Bd
  have e0 : s₁.heap = h := by rw [← hh, Bd.state]; rfl
  obtain ⟨hL, hsz⟩ := LR.enter hS hlen
  have hLl : (entL as y.maxL).length = y.maxL := by rw [← hL.1]; exact hsz
  obtain ⟨s₂, v', L', t, h1, h2, h3, h4, h5, h6, h7⟩ := ih j 0 _ [] H v H1 kc ks he y hy p e _ s m ws.toArray below meth c s₁ [] 0 0 X0
    ⟨Bd.exec, hZ, Bd.bytes, hml0, findClass_of_methodNamed Bd.named, (name_of_methodNamed Bd.named Bd.method).1, Bd.returns, BodyLoose.notSynchronized Bd, r1, r2⟩
    (by rw [Nat.zero_add]; exact r3) (by rw [Nat.zero_add]; exact r4) ρ _ [] hL hLl rfl (by rw [e0]; exact hH) (Fr.nil n0)
  refine ⟨s₂, _, h1, h2, h3, v', L', rfl, ⟨h6, t, h4, h5⟩, ?_⟩
  rw [Nat.zero_add, Nat.zero_add] at h7
  exact h7
section Sound
variable {P : PD} {Z : State} {n0 : Nat} {a0 : Array Value} {l : Launch}
theorem Done.step {p : Program} {e : Env} {below : List Frame} {s : State} {ρ t : List Addr} {v : Option Value} {H' : AHeap} {kc ks : Nat} {t0 t1 : State} (h : Done P Z n0 p e below s (ρ ++ t) v H' kc ks t1) (k : ∀ target, Steps p.tables e below t1 target → Steps p.tables e below t0 target) : Done P Z n0 p e below s ρ v H' kc ks t0 := by
  obtain ⟨s₂, v', L', t', h1, h2, h3, h4, h5, h6, h7⟩ := h
  exact ⟨s₂, v', L', t ++ t', k _ h1, h2, h3, by rw [← List.append_assoc]; exact h4, by rw [← List.append_assoc]; exact h5, h6, h7⟩
theorem argsOf_spec {n : Nat} {S as rest : List Value} (h : argsOf n S = some (as, rest)) : n ≤ S.length ∧ as = (S.take n).reverse ∧ rest = S.drop n := by
  unfold argsOf at h
  split at h
  · rename_i z; cases h; exact ⟨z, rfl, rfl⟩
  · cases h
theorem res_ext {α : Type} {o : Option Res} {v : Option Value} {H' : AHeap} {kc ks c1 s1 : Nat} (h : (o.map fun r => addR r c1 s1) = some (v, H', kc, ks)) : ∃ kc' ks', o = some (v, H', kc', ks') ∧ kc = kc' + c1 ∧ ks = ks' + s1 := by
  obtain ⟨⟨v0, H0, c0, s0⟩, h1, h2⟩ := Option.map_eq_some_iff.mp h
  simp only [addR] at h2
  cases h2
  exact ⟨c0, s0, h1, rfl, rfl⟩
set_option maxHeartbeats 4000000 in
theorem sound (hP : chk P = true) (hW : ∀ w ∈ wordsOf P, w.before a0 Z = true) : ∀ n, Says P Z n0 l n
  | 0 => fun mi pc L S H v H' kc ks h => by simp [exe] at h
  | n + 1 => by
    have ih := sound hP hW n
    intro mi pc L S H v H' kc ks h d hmi
    unfold exe at h
    rw [hmi] at h
    simp only at h
    have hdm : d ∈ P.mth := List.mem_of_getElem? hmi
    split at h
    · cases h
    rename_i it i len er a b hft
    have hit := fetch_mem hft
    have hmc := mChk_of hP hdm
    simp only [mChk, Bool.and_eq_true] at hmc
    obtain ⟨⟨⟨⟨⟨⟨mc1, mc2⟩, mc3⟩, mc4⟩, mc5⟩, mc6⟩, mc7⟩ := hmc
    unfold codeChk at mc3
    rw [List.all_eq_true] at mc3
    have hci := mc3 _ hit
    simp only [Bool.and_eq_true, decide_eq_true_eq] at hci
    obtain ⟨hdec, hlenOk⟩ := hci
    -- a jump, or a fall through
    have jump : ∀ (q : Nat) (S1 : List Value) (h1 : exe P n mi q (forget er L) S1 H = some (v, H', kc, ks)),
        (∀ (p : Program) (e : Env) (R : Room) (s : State) (m : MethodId) (args : Array Value) (below : List Frame) (meth : Method) (c : Code) (T : State) (locs : List Loc) (cells slots : Nat),
          Stand p l e R s m args below meth c T locs cells slots → Cx P Z p R s m meth c d → ∀ (ρ : List Addr) (A : Array Slot) (Sc : List Value), LR ρ L A → SR ρ S Sc → ∃ Sc1, SR ρ S1 Sc1 ∧ ∀ target, Steps p.tables e below (T.setTop (mkF m q A Sc1)) target → Steps p.tables e below (T.setTop (mkF m pc A Sc)) target) →
        ∀ (p : Program) (e : Env) (R : Room) (s : State) (m : MethodId) (args : Array Value) (below : List Frame) (meth : Method) (c : Code) (T : State) (locs : List Loc) (cells slots : Nat),
          Stand p l e R s m args below meth c T locs cells slots → Cx P Z p R s m meth c d → cells + kc ≤ R.cells → slots + ks ≤ R.slots →
          ∀ (ρ : List Addr) (A : Array Slot) (Sc : List Value), LR ρ L A → L.length = d.maxL → SR ρ S Sc → HR P Z n0 T.heap ρ H → Fr n0 locs →
            Done P Z n0 p e below s ρ v H' (cells + kc) (slots + ks) (T.setTop (mkF m pc A Sc)) := by
      intro q S1 h1 st p e R s m args below meth c T locs cells slots X cx k1 k2 ρ A Sc hL hLl hS hH hF
      obtain ⟨Sc1, hS1, st1⟩ := st p e R s m args below meth c T locs cells slots X cx ρ A Sc hL hS
      have := ih mi q _ S1 H v H' kc ks h1 d hmi p e R s m args below meth c T locs cells slots X cx k1 k2 ρ A Sc1 (hL.forget er) (by rw [forget_len]; exact hLl) hS1 hH hF
      exact Done.step (t := []) (by rw [List.append_nil]; exact this) st1
    have dec : ∀ {c : Code}, c.code = d.bytes → decode c.code pc = .ok (i, len) := fun hc => by rw [hc]; exact hdec
    split at h
    · -- goto
      rename_i o
      split at h
      · rename_i q hq
        obtain ⟨t1, t2⟩ := tgt_spec hq
        have m3 := jump q S h
        obtain rfl : len = 3 := by simpa [lenOk] using hlenOk
        exact m3 fun p e R s m args below meth c T locs cells slots X cx ρ A Sc hL hS => ⟨Sc, hS, fun t z => XS.goto (g := mkF m pc A Sc) X.here cx.1 rfl (pc0 := pc) (pc' := q) rfl (dec cx.2.2.1) t1 t2 z⟩
      · cases h
    · -- if_icmp
      rename_i cd o
      split at h
      · rename_i y x S1
        obtain rfl : len = 3 := by simpa [lenOk] using hlenOk
        split at h
        · rename_i hc
          split at h
          · rename_i q hq
            obtain ⟨t1, t2⟩ := tgt_spec hq
            have m3 := jump q S1 h
            exact m3 fun p e R s m args below meth c T locs cells slots X cx ρ A Sc hL hS => by
              obtain ⟨Sa, rfl, ha⟩ := hS.int
              obtain ⟨Sb, rfl, hb⟩ := ha.int
              exact ⟨Sb, hb, fun t z => XS.icmpYes (g := mkF m pc A _) X.here cx.1 rfl (pc0 := pc) (pc' := q) rfl (dec cx.2.2.1) rfl hc t1 t2 z⟩
          · cases h
        · rename_i hc
          have m3 := jump (pc + 3) S1 h
          exact m3 fun p e R s m args below meth c T locs cells slots X cx ρ A Sc hL hS => by
            obtain ⟨Sa, rfl, ha⟩ := hS.int
            obtain ⟨Sb, rfl, hb⟩ := ha.int
            exact ⟨Sb, hb, fun t z => XS.icmpNo (g := mkF m pc A _) X.here cx.1 rfl (dec cx.2.2.1) rfl (by simpa using hc) z⟩
      · cases h
    · -- ifCond
      rename_i cd o
      split at h
      · rename_i x S1
        obtain rfl : len = 3 := by simpa [lenOk] using hlenOk
        split at h
        · rename_i hc
          split at h
          · rename_i q hq
            obtain ⟨t1, t2⟩ := tgt_spec hq
            have m3 := jump q S1 h
            exact m3 fun p e R s m args below meth c T locs cells slots X cx ρ A Sc hL hS => by
              obtain ⟨Sa, rfl, ha⟩ := hS.int
              exact ⟨Sa, ha, fun t z => XS.ifYes (g := mkF m pc A _) X.here cx.1 rfl (pc0 := pc) (pc' := q) rfl (dec cx.2.2.1) rfl hc t1 t2 z⟩
          · cases h
        · rename_i hc
          have m3 := jump (pc + 3) S1 h
          exact m3 fun p e R s m args below meth c T locs cells slots X cx ρ A Sc hL hS => by
            obtain ⟨Sa, rfl, ha⟩ := hS.int
            exact ⟨Sa, ha, fun t z => XS.ifNo (g := mkF m pc A _) X.here cx.1 rfl (dec cx.2.2.1) rfl (by simpa using hc) z⟩
      · cases h
    · -- ifnonnull
      rename_i o
      split at h
      · rename_i x S1
        split at h
        · rename_i q hq
          obtain ⟨t1, t2⟩ := tgt_spec hq
          have m3 := jump q S1 h
          obtain rfl : len = 3 := by simpa [lenOk] using hlenOk
          exact m3 fun p e R s m args below meth c T locs cells slots X cx ρ A Sc hL hS => by
            obtain ⟨ad, Sa, -, rfl, ha⟩ := hS.ref
            exact ⟨Sa, ha, fun t z => XT.ifnonnullYes (g := mkF m pc A _) X.here cx.1 rfl (pc0 := pc) (pc' := q) rfl (dec cx.2.2.1) rfl t1 t2 z⟩
        · cases h
      · cases h
    · -- ireturn
      split at h
      · rename_i x
        split at h
        · rename_i v0 hv0
          cases h
          obtain rfl : len = 1 := by simpa [lenOk] using hlenOk
          intro p e R s m args below meth c T locs cells slots X cx k1 k2 ρ A Sc hL hLl hS hH hF
          obtain ⟨hx, hZ, hby, hml, hown, hnm, hret, hlk, -, -⟩ := cx
          obtain ⟨Sa, rfl, ha⟩ := hS.int
          unfold retV at hv0
          split at hv0
          · rename_i hr0
            cases hv0
            obtain ⟨fs, hr, hrun, hended, hWm, hsame⟩ := X.leave (v := some (.int x)) (fun q => by rw [hret, hr0] at q; cases q) hlk
            exact ⟨_, _, locs, [], retI X hx (by rw [hret, hr0]) (dec hby) hr, hrun, hended, ⟨_, rfl, rfl⟩, by rw [List.append_nil]; exact hH, hF, ⟨_, rfl⟩, hWm, hsame⟩
          · rename_i hr0
            cases hv0
            obtain ⟨fs, hr, hrun, hended, hWm, hsame⟩ := X.leave (v := some (.int (x &&& 1))) (fun q => by rw [hret, hr0] at q; cases q) hlk
            exact ⟨_, _, locs, [], retN X hx (t := .boolean) (by rw [hret, hr0]) (by simp) (dec hby) hr, hrun, hended, ⟨_, rfl, rfl⟩, by rw [List.append_nil]; exact hH, hF, ⟨_, rfl⟩, hWm, hsame⟩
          · cases hv0
        · cases h
      · cases h
    · -- lreturn
      split at h
      · rename_i x
        split at h
        · rename_i hr0
          cases h
          obtain rfl : len = 1 := by simpa [lenOk] using hlenOk
          intro p e R s m args below meth c T locs cells slots X cx k1 k2 ρ A Sc hL hLl hS hH hF
          obtain ⟨hx, hZ, hby, hml, hown, hnm, hret, hlk, -, -⟩ := cx
          obtain ⟨Sa, rfl, ha⟩ := hS.long
          obtain rfl : Sa = [] := ha
          obtain ⟨fs, hr, hrun, hended, hWm, hsame⟩ := X.leave (v := some (.long x)) (fun q => by rw [hret, hr0] at q; cases q) hlk
          exact ⟨_, _, locs, [], X.lreturnOut hx (by rw [hret, hr0]) (dec hby) hr, hrun, hended, ⟨_, rfl, rfl⟩, by rw [List.append_nil]; exact hH, hF, ⟨_, rfl⟩, hWm, hsame⟩
        · cases h
      · cases h
    · -- return
      split at h
      · split at h
        · rename_i hr0
          cases h
          obtain rfl : len = 1 := by simpa [lenOk] using hlenOk
          intro p e R s m args below meth c T locs cells slots X cx k1 k2 ρ A Sc hL hLl hS hH hF
          obtain ⟨hx, hZ, hby, hml, hown, hnm, hret, hlk, -, -⟩ := cx
          obtain rfl : Sc = [] := hS
          obtain ⟨fs, hr, hrun, hended, hWm, hsame⟩ := X.leave (v := none) (fun _ => rfl) hlk
          exact ⟨_, _, locs, [], X.returnOut hx (by rw [hret, hr0]) (dec hby) hr, hrun, hended, rfl, by rw [List.append_nil]; exact hH, hF, ⟨_, rfl⟩, hWm, hsame⟩
        · cases h
      · cases h
    · -- a call, or a plain step
      split at h
      · rename_i hinv
        split at h
        · -- Object.<init>
          rename_i hb1
          subst hb1
          have hk : ∃ k x S1, i = .invokespecial k ∧ S = .ref x :: S1 ∧ (if 1 ≤ d.rf ∧ catSum S1 + 12 ≤ d.rw then exe P n mi (pc + 3) (forget er L) S1 H else none) = some (v, H', kc, ks) := by
            split at h
            · exact ⟨_, _, _, rfl, rfl, h⟩
            · cases h
          clear h
          obtain ⟨k, x, S1, rfl, rfl, h⟩ := hk
          · split at h
            · rename_i hroom
              have m3 := ih mi (pc + 3) _ S1 H v H' kc ks h d hmi
              obtain rfl : len = 3 := by simpa [lenOk] using hlenOk
              have hWi : ∀ w ∈ iWords P d (pc, .invokespecial k, 3, er, a, -1), w.before a0 Z = true := fun w q => hW w (in_wordsOf hdm hit q)
              have hWi' : ∀ w ∈ [Jvm.Cond.methodLink d.name.cls k Lib.objectInit, .instanceMethod Lib.objectInit, .code Lib.objectInit ⟨#[0xb1]⟩ 1 none], w.before a0 Z = true := hWi
              intro p e R s m args below meth c T locs cells slots X cx k1 k2 ρ A Sc hL hLl hS hH hF
              have cx0 := cx
              obtain ⟨hx, hZ, hby, hml, hown, hnm, hret, hlk, hrf, hrw⟩ := cx
              obtain ⟨ad, Sa, -, rfl, ha⟩ := hS.ref
              obtain ⟨T2, X2, e2, st2⟩ := initO X hx hZ hown (hWi' _ (by simp)) (hWi' _ (by simp)) (hWi' _ (by simp)) rfl (g := mkF m pc A (.ref ad :: Sa)) rfl (by rw [hml]; exact hL.1.trans hLl) rfl (dec hby) (by omega) (W := catSum S1) (by show 2 * 0 + _ ≤ _; rw [ha.cat]; omega) (by omega)
              have := m3 p e R s m args below meth c T2 locs cells slots X2 cx0 k1 k2 ρ A Sa (hL.forget er) (by rw [forget_len]; exact hLl) ha (by rw [e2]; exact hH) hF
              exact Done.step (t := []) (by rw [List.append_nil]; exact this) st2
            · cases h
        · rename_i hb1
          split at h
          · cases h
          rename_i y hy
          split at h
          · cases h
          rename_i as rest hao
          split at h
          · rename_i hcond
            simp only [Bool.and_eq_true, decide_eq_true_eq] at hcond
            obtain ⟨⟨⟨⟨hj, hik⟩, hrecv⟩, hroom⟩, hent⟩ := hcond
            split at h
            · rename_i v1 H1 c1 s1 hcal
              obtain ⟨c0, s0, hcon, rfl, rfl⟩ := res_ext (α := Unit) h
              have m3 := ih mi (pc + 3) _ _ H1 v H' c0 s0 hcon d hmi
              intro p e R s m args below meth c T locs cells slots X cx k1 k2 ρ A Sc hL hLl hS hH hF
              have cx0 := cx
              obtain ⟨hx, hZ, hby, hml, hown, hnm, hret, hlk, hrf, hrw⟩ := cx
              have hym : y ∈ P.mth := List.mem_of_getElem? hy
              have hyc := mChk_of hP hym
              simp only [mChk, Bool.and_eq_true, decide_eq_true_eq] at hyc
              obtain ⟨⟨⟨⟨⟨⟨yc1, yc2⟩, yc3⟩, yc4⟩, yc5⟩, yc6⟩, yc7⟩ := hyc
              simp only [fitsRoom, Bool.and_eq_true, decide_eq_true_eq] at hroom
              obtain ⟨hn, has, hrest⟩ := argsOf_spec hao
              have hnc : nargs y ≤ Sc.length := by rw [hS.len]; exact hn
              have hSa : SR ρ as (Sc.take (nargs y)).reverse := by rw [has]; exact (hS.take _).rev
              have hSr : SR ρ rest (Sc.drop (nargs y)) := by rw [hrest]; exact hS.drop _
              have hsplit : Sc = (Sc.take (nargs y)).reverse.reverse ++ Sc.drop (nargs y) := by rw [List.reverse_reverse, List.take_append_drop]
              obtain ⟨ws, hws⟩ : ∃ ws, ws = (Sc.take (nargs y)).reverse := ⟨_, rfl⟩
              obtain ⟨rc, hrc⟩ : ∃ rc, rc = Sc.drop (nargs y) := ⟨_, rfl⟩
              have hwl : ws.length = nargs y := by rw [hws]; simp; omega
              rw [← hws] at hSa hsplit
              rw [← hrc] at hSr hsplit
              have wcode := hW (.code y.name y.bytes y.maxL y.ret) (in_wordsM hy hj (List.mem_cons_self ..))
              have winit := hW (.initialized y.name.cls) (in_wordsM hy hj (List.mem_cons_of_mem _ (List.mem_cons_self ..)))
              have wmore : ∀ w ∈ (if y.kind = 0 then [Jvm.Cond.static y.name] else if y.kind = 1 then [.instanceMethod y.name] else if y.kind = 2 then [.instanceMethod y.name, .privateMethod y.name] else [.declares y.name, .selects y.name.cls y.name y.name, .instanceMethod y.name]), w.before a0 Z = true := fun w q => hW w (in_wordsM hy hj (List.mem_cons_of_mem _ (List.mem_cons_of_mem _ q)))
              have hMH : y.name.cls ≠ "java/lang/invoke/MethodHandle" ∧ y.name.cls ≠ "java/lang/invoke/VarHandle" := ⟨yc5, yc6⟩
              have back := backOf (W := catSum rest) (len := 3) (R := R) (p := p) (e := e) (below := below) (s := s) (args := args) (met_of ih hy yc1 hcal hSa hent hH [] ({ frames := y.rf, cells := c1, slots := s1, locals := y.rw } : Room) (Nat.le_refl _) (Nat.le_refl _) (Nat.le_refl _) (Nat.le_refl _)) hZ wcode winit (by show y.rf + 1 ≤ _; omega) (by show _ + y.rw ≤ _; omega)
              have hWW : 2 * (mkF m pc A Sc).monitorRoom + (rc.map fun v => v.category).sum ≤ catSum rest := by show 2 * 0 + _ ≤ _; rw [hSr.cat]; omega
              have hpar : ∀ sig, parseMethodDescriptor y.name.desc = some sig → sig.parameters.length = y.npar := fun sig q => by
                unfold sigChk at yc2
                rw [q] at yc2
                simpa using yc2
              have fin : ∀ (v1' : Option Value) (T2 : State) (Lc : List Loc), Stand p l e R s m args below meth c T2 (locs ++ Lc) (cells + c1) (slots + s1) → QQ P Z n0 ρ v1 H1 v1' T2.heap Lc →
                  (∀ target, Steps p.tables e below (T2.setTop (mkF m (pc + 3) A (v1'.toList ++ rc))) target → Steps p.tables e below (T.setTop (mkF m pc A Sc)) target) →
                  Done P Z n0 p e below s ρ v H' (cells + (c0 + c1)) (slots + (s0 + s1)) (T.setTop (mkF m pc A Sc)) := by
                intro v1' T2 Lc X2 hq st2
                obtain ⟨hF2, t, hov, hH2⟩ := hq
                have := m3 p e R s m args below meth c T2 (locs ++ Lc) _ _ X2 cx0 (by omega) (by omega) (ρ ++ t) A (v1'.toList ++ rc) (hL.forget er).mono (by rw [forget_len]; exact hLl) (hov.list.app hSr.mono) hH2 (hF.app hF2)
                have q1 : cells + c1 + c0 = cells + (c0 + c1) := by omega
                have q2 : slots + s1 + s0 = slots + (s0 + s1) := by omega
                rw [q1, q2] at this
                exact this.step st2
              have hcR : cells + c1 ≤ R.cells := by omega
              have hsR : slots + s1 ≤ R.slots := by omega
              cases i with
              | invokestatic k =>
                obtain rfl : len = 3 := by simpa [lenOk] using hlenOk
                have hk0 : y.kind = 0 := by simpa [invKind] using hik
                have wl := hW (.methodLink d.name.cls k y.name) (in_wordsOf hdm hit (by show _ ∈ mLink P d k a b; unfold mLink; rw [if_neg hb1, hy]; exact List.mem_singleton.mpr rfl))
                have wst := wmore (.static y.name) (by rw [if_pos hk0]; exact List.mem_singleton.mpr rfl)
                have hna : nargs y = y.npar := by simp [nargs, hk0]
                obtain ⟨v1', _, ⟨T2, L2, k2', n2⟩, -, X2, ⟨Lc, hQ, l2, y2, z2⟩, st2⟩ := Jvm.LawKit.callS X hx (y := y.name) hown (mvT hZ wl) (mvT hZ wst) (mvT hZ winit) (mvT hZ wcode) hMH back (g := mkF m pc A Sc) rfl (by rw [hml]; exact hL.1.trans hLl) (argsL := ws) (rest := rc) (fun sig q => by rw [hpar sig q, hwl, hna]) hsplit hWW (dec hby) (fun _ _ => ⟨rfl, rfl, hcR, hsR⟩)
                dsimp only [Pt.U, Pt.locs, Pt.cells, Pt.slots] at X2 l2 y2 z2 st2 hQ
                subst l2 y2 z2
                exact fin v1' T2 Lc X2 hQ st2
              | invokespecial k =>
                obtain rfl : len = 3 := by simpa [lenOk] using hlenOk
                have hk1 : y.kind = 1 := by simpa [invKind] using hik
                have wl := hW (.methodLink d.name.cls k y.name) (in_wordsOf hdm hit (by show _ ∈ mLink P d k a b; unfold mLink; rw [if_neg hb1, hy]; exact List.mem_singleton.mpr rfl))
                have wst := wmore (.instanceMethod y.name) (by rw [if_neg (by omega), if_pos hk1]; exact List.mem_singleton.mpr rfl)
                have hna : nargs y = y.npar + 1 := by simp [nargs, hk1]
                simp [hk1] at yc7
                have wcode' : (Jvm.Cond.code y.name y.bytes y.maxL none).before a0 Z = true := by rw [← yc7.2]; exact wcode
                unfold recvOk at hrecv
                rw [if_neg (by omega)] at hrecv
                split at hrecv
                · rename_i o as'
                  obtain ⟨ad, ws', g1, rfl, ha'⟩ := hSa.ref
                  have hst : Sc = ws'.reverse ++ .ref ad :: rc := by rw [hsplit]; simp
                  obtain ⟨v1', _, ⟨T2, L2, k2', n2⟩, -, X2, ⟨Lc, hQ, l2, y2, z2⟩, st2⟩ := X.specialBack hx (y := y.name) yc7.1 hown (mvT hZ wl) (mvT hZ wst) (mvT hZ wcode') hMH back (g := mkF m pc A Sc) rfl (by rw [hml]; exact hL.1.trans hLl) (Steps.refl _) (a := ad) (argsL := ws') (rest := rc) (fun sig q => by rw [hpar sig q]; simp [hna] at hwl; omega) hst hWW (dec hby) (fun _ _ => ⟨rfl, rfl, hcR, hsR⟩)
                  dsimp only [Pt.U, Pt.locs, Pt.cells, Pt.slots] at X2 l2 y2 z2 st2 hQ
                  subst l2 y2 z2
                  exact fin v1' T2 Lc X2 hQ fun t z => st2.trans z
                · cases hrecv
              | invokevirtual k =>
                obtain rfl : len = 3 := by simpa [lenOk] using hlenOk
                have wl := hW (.methodLink d.name.cls k y.name) (in_wordsOf hdm hit (by show _ ∈ mLink P d k a b; unfold mLink; rw [if_neg hb1, hy]; exact List.mem_singleton.mpr rfl))
                have hk23 : y.kind = 2 ∨ y.kind = 3 := by simpa [invKind] using hik
                have hk0 : ¬ y.kind = 0 := by omega
                have hk1 : ¬ y.kind = 1 := by omega
                have hna : nargs y = y.npar + 1 := by simp [nargs, hk0]
                unfold recvOk at hrecv
                rw [if_neg hk0] at hrecv
                split at hrecv
                · rename_i o as'
                  obtain ⟨ad, ws', g1, rfl, ha'⟩ := hSa.ref
                  have hst : Sc = ws'.reverse ++ .ref ad :: rc := by rw [hsplit]; simp
                  split at hrecv
                  · rename_i c0 fs hc0
                    obtain rfl : c0 = y.cid := by simpa using hrecv
                    obtain ⟨ad', g2, cd, q1, q2, q3, q4⟩ := hH.at hc0
                    rw [g1] at g2; cases g2
                    have hcd := cid_of hP hym q1
                    have hcm : cd ∈ P.cls := List.mem_of_getElem? q1
                    rw [hcd] at q2
                    by_cases hk2 : y.kind = 2
                    · have w1 := wmore (.instanceMethod y.name) (by rw [if_neg hk0, if_neg hk1, if_pos hk2]; simp)
                      have w2 := wmore (.privateMethod y.name) (by rw [if_neg hk0, if_neg hk1, if_pos hk2]; simp)
                      have w3 := hW (.instantiable cd.1 cd.2.1) (in_wordsC hcm (List.mem_cons_self ..))
                      rw [hcd] at w3
                      obtain ⟨cI, kI, i1, i2, i3, i4, -⟩ := Cond.instantiable_spec (mvT hZ w3 (args := args) : (Jvm.Cond.instantiable y.name.cls cd.2.1).before args s = true)
                      have hsel := selects_self_of_private (args := args) i1 i2 (by simp at i4; exact i4.1) (Cond.privateMethod_at (mvP hZ w2 (args := #[]))) (mvT hZ w1) hMH
                      obtain ⟨cq, hq1, hq2⟩ := q2.cell
                      obtain ⟨v1', _, ⟨T2, L2, k2', n2⟩, -, X2, ⟨Lc, hQ, l2, y2, z2⟩, st2⟩ := X.privateBack hx (y := y.name) hown (mvT hZ wl) (mvT hZ w1) hsel (Cond.privateMethod_at (mvP hZ w2 (args := #[]))) (mvT hZ wcode) hMH back (g := mkF m pc A Sc) rfl (by rw [hml]; exact hL.1.trans hLl) (Steps.refl _) (a := ad) hq1 hq2 (argsL := ws') (rest := rc) (fun sig q => by rw [hpar sig q]; simp [hna] at hwl; omega) hst hWW (dec hby) (fun _ _ => ⟨rfl, rfl, hcR, hsR⟩)
                      dsimp only [Pt.U, Pt.locs, Pt.cells, Pt.slots] at X2 l2 y2 z2 st2 hQ
                      subst l2 y2 z2
                      exact fin v1' T2 Lc X2 hQ fun t z => st2.trans z
                    · have w1 := wmore (.declares y.name) (by rw [if_neg hk0, if_neg hk1, if_neg hk2]; simp)
                      have w2 := wmore (.selects y.name.cls y.name y.name) (by rw [if_neg hk0, if_neg hk1, if_neg hk2]; simp)
                      have w3 := wmore (.instanceMethod y.name) (by rw [if_neg hk0, if_neg hk1, if_neg hk2]; simp)
                      obtain ⟨cq, kq, qa, qb, qc⟩ := isOf hZ rfl q2
                      obtain ⟨v1', _, ⟨T2, L2, k2', n2⟩, -, X2, ⟨Lc, hQ, l2, y2, z2⟩, st2⟩ := X.virtualBack hx (y := y.name) (z := y.name) hown (mvT hZ wl) (mvT hZ w1) (notFace_of_selects (args := #[]) (mvT hZ w2)) (mvT hZ w2) (mvT hZ w3) hMH back qa qc (g := mkF m pc A Sc) rfl (by rw [hml]; exact hL.1.trans hLl) (Steps.refl _) (argsL := ws') (rest := rc) (fun sig q => by rw [hpar sig q]; simp [hna] at hwl; omega) hst hWW (dec hby) (fun _ _ => ⟨rfl, rfl, hcR, hsR⟩)
                      dsimp only [Pt.U, Pt.locs, Pt.cells, Pt.slots] at X2 l2 y2 z2 st2 hQ
                      subst l2 y2 z2
                      exact fin v1' T2 Lc X2 hQ fun t z => st2.trans z
                  · cases hrecv
                · cases hrecv
              | _ => simp [isInv] at hinv
            · cases h
          · cases h
      · split at h
        · split at h
          · rename_i S1 H1 k1' hxN
            obtain ⟨c0, s0, hcon, rfl, rfl⟩ := res_ext (α := Unit) h
            have m3 := ih mi (pc + len) _ S1 H1 v H' c0 s0 hcon d hmi
            intro p e R s m args below meth c T locs cells slots X cx k1 k2 ρ A Sc hL hLl hS hH hF
            have cx0 := cx
            obtain ⟨hx, hZ, hby, hml, hown, hnm, hret, hlk, hrf, hrw⟩ := cx
            obtain ⟨T2, ad, Sc2, X2, hS2, hH2, st2⟩ := stepN (A := A) X hx hZ hown hP hW hdm hit (dec hby) hlenOk hS hH hxN (by omega) (by omega)
            have := m3 p e R s m args below meth c T2 locs _ _ X2 cx0 (by omega) (by omega) (ρ ++ [ad]) A Sc2 (hL.forget er).mono (by rw [forget_len]; exact hLl) hS2 hH2 hF
            have q1 : cells + 1 + c0 = cells + (c0 + 1) := by omega
            have q2 : slots + k1' + s0 = slots + (s0 + k1') := by omega
            rw [q1, q2] at this
            exact this.step st2
          · cases h
        · split at h
          · rename_i L1 S1 H1 hxI
            have m3 := ih mi (pc + len) L1 S1 H1 v H' kc ks h d hmi
            intro p e R s m args below meth c T locs cells slots X cx k1 k2 ρ A Sc hL hLl hS hH hF
            have cx0 := cx
            obtain ⟨hx, hZ, hby, hml, hown, hnm, hret, hlk, hrf, hrw⟩ := cx
            obtain ⟨T2, locs2, A2, Sc2, X2, x3, hL2, hS2, hH2, hF2, st2⟩ := stepX X hx hZ hown hnm hP hW hdm hit (dec hby) hlenOk (hL.forget er) hS hH hF hxI
            have := m3 p e R s m args below meth c T2 locs2 cells slots X2 cx0 k1 k2 ρ A2 Sc2 hL2 (by rw [x3, forget_len]; exact hLl) hS2 hH2 hF2
            exact Done.step (t := []) (by rw [List.append_nil]; exact this) st2
          · cases h
end Sound
end Jvm.Own
namespace Jvm.Own
open Jvm Jvm.ClassFile Sem Op Lib Jvm.Free Jvm.Stand Jvm.LawKit Jvm.RoadKit Bundle
/-! Runs of the plain machine, rule by rule -/
def OEnds (P : PD) (mi pc : Nat) (L : List Slot) (S : List Value) (H : AHeap) (r : Res) : Prop := ∃ n0, ∀ n, n0 ≤ n → exe P n mi pc L S H = some r
def plainI : Instr → Bool
  | .goto _ => false
  | .if_icmp _ _ => false
  | .ifCond _ _ => false
  | .ifnonnull _ => false
  | .ireturn => false
  | .lreturn => false
  | .return_ => false
  | .invokestatic _ => false
  | .invokespecial _ => false
  | .invokevirtual _ => false
  | .new _ => false
  | .newarray _ => false
  | _ => true
section Rules
variable {P : PD} {mi pc len a q : Nat} {er : List Bool} {b : Int} {i : Instr} {d y : MD} {L L' : List Slot} {S S' as rest : List Value} {H H' H1 : AHeap} {r : Res} {kc ks : Nat} {v : Option Value}
theorem OEnds.up (h : ∀ n, exe P n mi q L' S' H' = some r → exe P (n + 1) mi pc L S H = some r) (E : OEnds P mi q L' S' H' r) : OEnds P mi pc L S H r := by
  obtain ⟨n0, E⟩ := E
  refine ⟨n0 + 1, fun n hn => ?_⟩
  obtain ⟨k, rfl⟩ : ∃ k, n = k + 1 := ⟨n - 1, by omega⟩
  exact h k (E k (by omega))
theorem OEnds.plain (hm : P.mth[mi]? = some d) (hf : fetch d.code pc = some (i, len, er, a, b)) (hp : plainI i = true) (hx : xI P (d.name.name == "<init>") d.cid i a b (forget er L) S H = some (L', S', H')) (E : OEnds P mi (pc + len) L' S' H' r) : OEnds P mi pc L S H r := by
  refine E.up fun n h => ?_
  unfold exe
  rw [hm]
  simp only
  rw [hf]
  simp only
  split
  all_goals first | (simp [plainI] at hp; done) | skip
  have h1 : ¬ isInv i = true := by
    cases i <;> first | (simp [plainI] at hp; done) | simp [isInv]
  have h2 : ¬ isNew i = true := by
    cases i <;> first | (simp [plainI] at hp; done) | simp [isNew]
  rw [if_neg h1, if_neg h2, hx]
  exact h
theorem OEnds.goto {o : Int} (hm : P.mth[mi]? = some d) (hf : fetch d.code pc = some (.goto o, len, er, a, b)) (ht : tgt pc o = some q) (E : OEnds P mi q (forget er L) S H r) : OEnds P mi pc L S H r := by
  refine E.up fun n h => ?_
  unfold exe
  rw [hm]
  simp only
  rw [hf]
  simp only
  rw [ht]
  exact h
theorem OEnds.icmpT {o : Int} {cd : ClassFile.Cond} {x z : Int32} (hm : P.mth[mi]? = some d) (hf : fetch d.code pc = some (.if_icmp cd o, len, er, a, b)) (ht : tgt pc o = some q) (hc : if_icmp.holds cd x z = true) (E : OEnds P mi q (forget er L) S H r) : OEnds P mi pc L (.int z :: .int x :: S) H r := by
  refine E.up fun n h => ?_
  unfold exe
  rw [hm]
  simp only
  rw [hf]
  simp only
  rw [if_pos hc, ht]
  exact h
theorem OEnds.icmpF {o : Int} {cd : ClassFile.Cond} {x z : Int32} (hm : P.mth[mi]? = some d) (hf : fetch d.code pc = some (.if_icmp cd o, len, er, a, b)) (hc : if_icmp.holds cd x z = false) (E : OEnds P mi (pc + 3) (forget er L) S H r) : OEnds P mi pc L (.int z :: .int x :: S) H r := by
  refine E.up fun n h => ?_
  unfold exe
  rw [hm]
  simp only
  rw [hf]
  simp only
  rw [if_neg (by rw [hc]; exact Bool.false_ne_true)]
  exact h
theorem OEnds.ifT {o : Int} {cd : ClassFile.Cond} {x : Int32} (hm : P.mth[mi]? = some d) (hf : fetch d.code pc = some (.ifCond cd o, len, er, a, b)) (ht : tgt pc o = some q) (hc : if_icmp.holds cd x 0 = true) (E : OEnds P mi q (forget er L) S H r) : OEnds P mi pc L (.int x :: S) H r := by
  refine E.up fun n h => ?_
  unfold exe
  rw [hm]
  simp only
  rw [hf]
  simp only
  rw [if_pos ((if0 cd x).trans hc), ht]
  exact h
theorem OEnds.ifF {o : Int} {cd : ClassFile.Cond} {x : Int32} (hm : P.mth[mi]? = some d) (hf : fetch d.code pc = some (.ifCond cd o, len, er, a, b)) (hc : if_icmp.holds cd x 0 = false) (E : OEnds P mi (pc + 3) (forget er L) S H r) : OEnds P mi pc L (.int x :: S) H r := by
  refine E.up fun n h => ?_
  unfold exe
  rw [hm]
  simp only
  rw [hf]
  simp only
  rw [if_neg (by rw [if0 cd x, hc]; exact Bool.false_ne_true)]
  exact h
theorem OEnds.nonnull {o : Int} {x : Nat} (hm : P.mth[mi]? = some d) (hf : fetch d.code pc = some (.ifnonnull o, len, er, a, b)) (ht : tgt pc o = some q) (E : OEnds P mi q (forget er L) S H r) : OEnds P mi pc L (.ref x :: S) H r := by
  refine E.up fun n h => ?_
  unfold exe
  rw [hm]
  simp only
  rw [hf]
  simp only
  rw [ht]
  exact h
theorem OEnds.iret {x : Int32} {u : Value} (hm : P.mth[mi]? = some d) (hf : fetch d.code pc = some (.ireturn, len, er, a, b)) (hv : retV d.ret x = some u) : OEnds P mi pc L [.int x] H (some u, H, 0, 0) := by
  refine ⟨1, fun n hn => ?_⟩
  obtain ⟨k, rfl⟩ : ∃ k, n = k + 1 := ⟨n - 1, by omega⟩
  unfold exe
  rw [hm]
  simp only
  rw [hf]
  simp only
  rw [hv]
theorem OEnds.lret {x : Int64} (hm : P.mth[mi]? = some d) (hf : fetch d.code pc = some (.lreturn, len, er, a, b)) (hv : d.ret = some .long) : OEnds P mi pc L [.long x] H (some (.long x), H, 0, 0) := by
  refine ⟨1, fun n hn => ?_⟩
  obtain ⟨k, rfl⟩ : ∃ k, n = k + 1 := ⟨n - 1, by omega⟩
  unfold exe
  rw [hm]
  simp only
  rw [hf]
  simp only
  rw [if_pos hv]
theorem OEnds.vret (hm : P.mth[mi]? = some d) (hf : fetch d.code pc = some (.return_, len, er, a, b)) (hv : d.ret = none) : OEnds P mi pc L [] H (none, H, 0, 0) := by
  refine ⟨1, fun n hn => ?_⟩
  obtain ⟨k, rfl⟩ : ∃ k, n = k + 1 := ⟨n - 1, by omega⟩
  unfold exe
  rw [hm]
  simp only
  rw [hf]
  simp only
  rw [if_pos hv]
theorem OEnds.oinit {k x : Nat} (hm : P.mth[mi]? = some d) (hf : fetch d.code pc = some (.invokespecial k, len, er, a, -1)) (hr : 1 ≤ d.rf ∧ catSum S + 12 ≤ d.rw) (E : OEnds P mi (pc + 3) (forget er L) S H r) : OEnds P mi pc L (.ref x :: S) H r := by
  refine E.up fun n h => ?_
  unfold exe
  rw [hm]
  simp only
  rw [hf]
  simp only [isInv, if_true]
  rw [if_pos hr]
  exact h
theorem OEnds.call (hm : P.mth[mi]? = some d) (hf : fetch d.code pc = some (i, len, er, a, b)) (hi : isInv i = true) (hb : ¬ b = -1) (hy : P.mth[a]? = some y) (hao : argsOf (nargs y) S = some (as, rest))
    (hc : (decide (0 < a) && invKind i y.kind && recvOk P H y as && fitsRoom d y rest && decide ((entA as).length ≤ y.maxL)) = true) (E1 : OEnds P a 0 (entL as y.maxL) [] H (v, H1, kc, ks)) (E2 : OEnds P mi (pc + 3) (forget er L) (v.toList ++ rest) H1 r) : OEnds P mi pc L S H (addR r kc ks) := by
  obtain ⟨n1, E1⟩ := E1
  obtain ⟨n2, E2⟩ := E2
  refine ⟨n1 + n2 + 1, fun n hn => ?_⟩
  obtain ⟨k, rfl⟩ : ∃ k, n = k + 1 := ⟨n - 1, by omega⟩
  have e1 := E1 k (by omega)
  have e2 := E2 k (by omega)
  unfold exe
  rw [hm]
  simp only
  rw [hf]
  simp only
  split
  all_goals first | (simp [isInv] at hi; done) | skip
  rw [if_pos hi, if_neg hb, hy]
  simp only
  rw [hao]
  simp only
  rw [if_pos hc, e1]
  simp only
  rw [e2]
  rfl
theorem OEnds.call0 (hm : P.mth[mi]? = some d) (hf : fetch d.code pc = some (i, len, er, a, b)) (hi : isInv i = true) (hb : ¬ b = -1) (hy : P.mth[a]? = some y) (hao : argsOf (nargs y) S = some (as, rest))
    (hc : (decide (0 < a) && invKind i y.kind && recvOk P H y as && fitsRoom d y rest && decide ((entA as).length ≤ y.maxL)) = true) (E1 : OEnds P a 0 (entL as y.maxL) [] H (v, H1, 0, 0)) (E2 : OEnds P mi (pc + 3) (forget er L) (v.toList ++ rest) H1 r) : OEnds P mi pc L S H r :=
  OEnds.call (r := r) hm hf hi hb hy hao hc E1 E2
theorem OEnds.made (hm : P.mth[mi]? = some d) (hf : fetch d.code pc = some (i, len, er, a, b)) (hi : isNew i = true) (hx : xN P i a S H = some (S', H', ks)) (E : OEnds P mi (pc + len) (forget er L) S' H' r) : OEnds P mi pc L S H (addR r 1 ks) := by
  obtain ⟨n0, E⟩ := E
  refine ⟨n0 + 1, fun n hn => ?_⟩
  obtain ⟨k, rfl⟩ : ∃ k, n = k + 1 := ⟨n - 1, by omega⟩
  have e1 := E k (by omega)
  unfold exe
  rw [hm]
  simp only
  rw [hf]
  simp only
  split
  all_goals first | (simp [isNew] at hi; done) | skip
  have h1 : ¬ isInv i = true := by
    cases i <;> first | (simp [isNew] at hi; done) | simp [isInv]
  rw [if_neg h1, if_pos hi, hx]
  simp only
  rw [e1]
  rfl
end Rules
/-- k plain instructions and jumps in one go -/
def adv (P : PD) (d : MD) : Nat → Nat → List Slot → List Value → AHeap → Option (Nat × List Slot × List Value × AHeap)
  | 0, pc, L, S, H => some (pc, L, S, H)
  | k + 1, pc, L, S, H => match fetch d.code pc with
    | some (i, len, er, a, b) => match i with
      | .goto o => match tgt pc o with
        | some q => adv P d k q (forget er L) S H
        | none => none
      | i => if plainI i = true then match xI P (d.name.name == "<init>") d.cid i a b (forget er L) S H with
          | some (L', S', H') => adv P d k (pc + len) L' S' H'
          | none => none
        else none
    | none => none
theorem OEnds.adv {P : PD} {mi : Nat} {d : MD} (hm : P.mth[mi]? = some d) {r : Res} : ∀ (k : Nat) {pc pc' : Nat} {L L' : List Slot} {S S' : List Value} {H H' : AHeap}, adv P d k pc L S H = some (pc', L', S', H') → OEnds P mi pc' L' S' H' r → OEnds P mi pc L S H r
  | 0, _, _, _, _, _, _, _, _, h, E => by
    unfold Own.adv at h
    cases h
    exact E
  | k + 1, pc, pc', L, L', S, S', H, H', h, E => by
    unfold Own.adv at h
    split at h
    · rename_i it i len er a b hf
      split at h
      · rename_i o
        split at h
        · rename_i q hq
          exact OEnds.goto hm hf hq (OEnds.adv hm k h E)
        · cases h
      · split at h
        · rename_i hp
          split at h
          · rename_i L1 S1 H1 hx
            exact OEnds.plain hm hf hp hx (OEnds.adv hm k h E)
          · cases h
        · cases h
    · cases h
theorem x_iaload {P : PD} {ini : Bool} {cid a o : Nat} {b : Int} {L : List Slot} {S : List Value} {H : AHeap} {A : List Int32} {j x : Int32} (h : H[o]? = some (.inr (.inl (false, A)))) (hx : rdA A j = some x) : xI P ini cid .iaload a b L (.int j :: .ref o :: S) H = some (L, .int x :: S, H) := by simp [xI, h, hx]
theorem x_baload {P : PD} {ini : Bool} {cid a o : Nat} {b : Int} {L : List Slot} {S : List Value} {H : AHeap} {A : List Int32} {j x : Int32} (h : H[o]? = some (.inr (.inl (true, A)))) (hx : rdA A j = some x) : xI P ini cid .baload a b L (.int j :: .ref o :: S) H = some (L, .int x :: S, H) := by simp [xI, h, hx]
theorem x_laload {P : PD} {ini : Bool} {cid a o : Nat} {b : Int} {L : List Slot} {S : List Value} {H : AHeap} {A : List Int64} {j : Int32} {x : Int64} (h : H[o]? = some (.inr (.inr A))) (hx : rdA A j = some x) : xI P ini cid .laload a b L (.int j :: .ref o :: S) H = some (L, .long x :: S, H) := by simp [xI, h, hx]
theorem x_iastore {P : PD} {ini : Bool} {cid a o : Nat} {b : Int} {L : List Slot} {S : List Value} {H : AHeap} {A A' : List Int32} {j x : Int32} (h : H[o]? = some (.inr (.inl (false, A)))) (hn : P.nr ≤ o) (hx : wrA A j x = some A') : xI P ini cid .iastore a b L (.int x :: .int j :: .ref o :: S) H = some (L, S, H.set o (.inr (.inl (false, A')))) := by simp [xI, h, hx, hn]
theorem x_bastore {P : PD} {ini : Bool} {cid a o : Nat} {b : Int} {L : List Slot} {S : List Value} {H : AHeap} {A A' : List Int32} {j x : Int32} (h : H[o]? = some (.inr (.inl (true, A)))) (hn : P.nr ≤ o) (hx : wrA A j (x &&& 1) = some A') : xI P ini cid .bastore a b L (.int x :: .int j :: .ref o :: S) H = some (L, S, H.set o (.inr (.inl (true, A')))) := by simp [xI, h, hx, hn]
theorem x_lastore {P : PD} {ini : Bool} {cid a o : Nat} {b : Int} {L : List Slot} {S : List Value} {H : AHeap} {A A' : List Int64} {j : Int32} {x : Int64} (h : H[o]? = some (.inr (.inr A))) (hn : P.nr ≤ o) (hx : wrA A j x = some A') : xI P ini cid .lastore a b L (.long x :: .int j :: .ref o :: S) H = some (L, S, H.set o (.inr (.inr A'))) := by simp [xI, h, hx, hn]
theorem x_irem {P : PD} {ini : Bool} {cid a : Nat} {b : Int} {L : List Slot} {S : List Value} {H : AHeap} {x y : Int32} (h : ¬ y = 0) : xI P ini cid .irem a b L (.int y :: .int x :: S) H = some (L, .int (x % y) :: S, H) := by simp [xI, h]
theorem x_idiv {P : PD} {ini : Bool} {cid a : Nat} {b : Int} {L : List Slot} {S : List Value} {H : AHeap} {x y : Int32} (h : ¬ y = 0) : xI P ini cid .idiv a b L (.int y :: .int x :: S) H = some (L, .int (x / y) :: S, H) := by simp [xI, h]
theorem x_lrem {P : PD} {ini : Bool} {cid a : Nat} {b : Int} {L : List Slot} {S : List Value} {H : AHeap} {x y : Int64} (h : ¬ y = 0) : xI P ini cid .lrem a b L (.long y :: .long x :: S) H = some (L, .long (x % y) :: S, H) := by simp [xI, h]
theorem x_ldiv {P : PD} {ini : Bool} {cid a : Nat} {b : Int} {L : List Slot} {S : List Value} {H : AHeap} {x y : Int64} (h : ¬ y = 0) : xI P ini cid .ldiv a b L (.long y :: .long x :: S) H = some (L, .long (x / y) :: S, H) := by simp [xI, h]
theorem c_lt {x y : Int64} : XT.cmpL x y < 0 ↔ x < y := by
  unfold XT.cmpL; split <;> (try split) <;> simp_all [Int64.lt_iff_toInt_lt, ← Int64.toInt_inj] <;> omega
theorem c_gt {x y : Int64} : 0 < XT.cmpL x y ↔ y < x := by
  unfold XT.cmpL; split <;> (try split) <;> simp_all [Int64.lt_iff_toInt_lt, ← Int64.toInt_inj] <;> omega
theorem c_eq {x y : Int64} : XT.cmpL x y = 0 ↔ x = y := by
  unfold XT.cmpL; split <;> (try split) <;> simp_all [Int64.lt_iff_toInt_lt, ← Int64.toInt_inj] <;> omega
end Jvm.Own
namespace Jvm.Own
open Jvm Jvm.ClassFile Sem Op Lib Jvm.Free Jvm.Stand Jvm.LawKit Jvm.RoadKit Bundle
theorem bnd {α β : Type} {o : Option α} {f : α → Option β} {b : β} (h : o.bind f = some b) : ∃ a, o = some a ∧ f a = some b := Option.bind_eq_some_iff.mp h
theorem x_putZ {P : PD} {ini : Bool} {k cid a o : Nat} {b : Int} {L : List Slot} {S : List Value} {H : AHeap} {fs : List Value} {nm ds : String} {x : Int32} (h : H[o]? = some (.inl (cid, fs))) (hn : P.nr ≤ o) (hf : ((P.cls[cid]?).bind fun cd => cd.2.2[a]?) = some (nm, ds, .boolean, false)) (hx : x = 0 ∨ x = 1) :
    xI P ini cid (.putfield k) a b L (.int x :: .ref o :: S) H = some (L, S, H.set o (.inl (cid, fs.set a (.int x)))) := by
  rcases hx with rfl | rfl <;> simp [xI, h, hn, hf, putOk]
section Rules
variable {P : PD} {mi pc len a q : Nat} {er : List Bool} {b : Int} {i : Instr} {d y : MD} {L L' : List Slot} {S S' as rest : List Value} {H H' H1 : AHeap} {r : Res} {kc ks : Nat} {v : Option Value}
theorem OEnds.made1 {w : Option Value} {Hf : AHeap} (hm : P.mth[mi]? = some d) (hf : fetch d.code pc = some (i, len, er, a, b)) (hi : isNew i = true) (hx : xN P i a S H = some (S', H', ks)) {c0 s0 c1 s1 : Nat} (hr : (c1, s1) = (c0 + 1, s0 + ks)) (E : OEnds P mi (pc + len) (forget er L) S' H' (w, Hf, c0, s0)) : OEnds P mi pc L S H (w, Hf, c1, s1) := by
  cases hr
  exact OEnds.made (r := (w, Hf, c0, s0)) hm hf hi hx E
/-! The same, of a run whose end is told by a property -/
def OEndsQ (P : PD) (mi pc : Nat) (L : List Slot) (S : List Value) (H : AHeap) (Q : Res → Prop) : Prop := ∃ r, OEnds P mi pc L S H r ∧ Q r
variable {Q : Res → Prop}
theorem OEndsQ.plain (hm : P.mth[mi]? = some d) (hf : fetch d.code pc = some (i, len, er, a, b)) (hp : plainI i = true) (hx : xI P (d.name.name == "<init>") d.cid i a b (forget er L) S H = some (L', S', H')) (E : OEndsQ P mi (pc + len) L' S' H' Q) : OEndsQ P mi pc L S H Q := by
  obtain ⟨r, E, hq⟩ := E; exact ⟨r, OEnds.plain hm hf hp hx E, hq⟩
theorem OEndsQ.icmpT {o : Int} {cd : ClassFile.Cond} {x z : Int32} (hm : P.mth[mi]? = some d) (hf : fetch d.code pc = some (.if_icmp cd o, len, er, a, b)) (ht : tgt pc o = some q) (hc : if_icmp.holds cd x z = true) (E : OEndsQ P mi q (forget er L) S H Q) : OEndsQ P mi pc L (.int z :: .int x :: S) H Q := by
  obtain ⟨r, E, hq⟩ := E; exact ⟨r, OEnds.icmpT hm hf ht hc E, hq⟩
theorem OEndsQ.icmpF {o : Int} {cd : ClassFile.Cond} {x z : Int32} (hm : P.mth[mi]? = some d) (hf : fetch d.code pc = some (.if_icmp cd o, len, er, a, b)) (hc : if_icmp.holds cd x z = false) (E : OEndsQ P mi (pc + 3) (forget er L) S H Q) : OEndsQ P mi pc L (.int z :: .int x :: S) H Q := by
  obtain ⟨r, E, hq⟩ := E; exact ⟨r, OEnds.icmpF hm hf hc E, hq⟩
theorem OEndsQ.ifT {o : Int} {cd : ClassFile.Cond} {x : Int32} (hm : P.mth[mi]? = some d) (hf : fetch d.code pc = some (.ifCond cd o, len, er, a, b)) (ht : tgt pc o = some q) (hc : if_icmp.holds cd x 0 = true) (E : OEndsQ P mi q (forget er L) S H Q) : OEndsQ P mi pc L (.int x :: S) H Q := by
  obtain ⟨r, E, hq⟩ := E; exact ⟨r, OEnds.ifT hm hf ht hc E, hq⟩
theorem OEndsQ.ifF {o : Int} {cd : ClassFile.Cond} {x : Int32} (hm : P.mth[mi]? = some d) (hf : fetch d.code pc = some (.ifCond cd o, len, er, a, b)) (hc : if_icmp.holds cd x 0 = false) (E : OEndsQ P mi (pc + 3) (forget er L) S H Q) : OEndsQ P mi pc L (.int x :: S) H Q := by
  obtain ⟨r, E, hq⟩ := E; exact ⟨r, OEnds.ifF hm hf hc E, hq⟩
theorem OEndsQ.nonnull {o : Int} {x : Nat} (hm : P.mth[mi]? = some d) (hf : fetch d.code pc = some (.ifnonnull o, len, er, a, b)) (ht : tgt pc o = some q) (E : OEndsQ P mi q (forget er L) S H Q) : OEndsQ P mi pc L (.ref x :: S) H Q := by
  obtain ⟨r, E, hq⟩ := E; exact ⟨r, OEnds.nonnull hm hf ht E, hq⟩
theorem OEndsQ.call0 (hm : P.mth[mi]? = some d) (hf : fetch d.code pc = some (i, len, er, a, b)) (hi : isInv i = true) (hb : ¬ b = -1) (hy : P.mth[a]? = some y) (hao : argsOf (nargs y) S = some (as, rest))
    (hc : (decide (0 < a) && invKind i y.kind && recvOk P H y as && fitsRoom d y rest && decide ((entA as).length ≤ y.maxL)) = true) (E1 : OEnds P a 0 (entL as y.maxL) [] H (v, H1, 0, 0)) (E2 : OEndsQ P mi (pc + 3) (forget er L) (v.toList ++ rest) H1 Q) : OEndsQ P mi pc L S H Q := by
  obtain ⟨r, E, hq⟩ := E2; exact ⟨r, OEnds.call0 hm hf hi hb hy hao hc E1 E, hq⟩
theorem OEndsQ.adv (hm : P.mth[mi]? = some d) (k : Nat) {pc' : Nat} (h : adv P d k pc L S H = some (pc', L', S', H')) (E : OEndsQ P mi pc' L' S' H' Q) : OEndsQ P mi pc L S H Q := by
  obtain ⟨r, E, hq⟩ := E; exact ⟨r, OEnds.adv hm k h E, hq⟩
/-- what a law's run ends with: its answer, and at the most so many cells and slots made -/
def LawQ (x : Int32) (kc ks : Nat) (r : Res) : Prop := r.1 = some (.int x) ∧ r.2.2.1 ≤ kc ∧ r.2.2.2 ≤ ks
theorem OEndsQ.iret {x u : Int32} (hm : P.mth[mi]? = some d) (hf : fetch d.code pc = some (.ireturn, len, er, a, b)) (hv : retV d.ret x = some (.int u)) : OEndsQ P mi pc L [.int x] H (LawQ u kc ks) :=
  ⟨_, OEnds.iret hm hf hv, rfl, Nat.zero_le _, Nat.zero_le _⟩
theorem OEndsQ.weak {x : Int32} {c0 s0 : Nat} (h1 : c0 ≤ kc) (h2 : s0 ≤ ks) (E : OEndsQ P mi pc L S H (LawQ x c0 s0)) : OEndsQ P mi pc L S H (LawQ x kc ks) := by
  obtain ⟨r, E, q1, q2, q3⟩ := E; exact ⟨r, E, q1, Nat.le_trans q2 h1, Nat.le_trans q3 h2⟩
theorem OEndsQ.made {x : Int32} {c0 s0 c1 s1 : Nat} (hm : P.mth[mi]? = some d) (hf : fetch d.code pc = some (i, len, er, a, b)) (hi : isNew i = true) (hx : xN P i a S H = some (S', H', ks)) (h1 : c0 + 1 ≤ c1) (h2 : s0 + ks ≤ s1) (E : OEndsQ P mi (pc + len) (forget er L) S' H' (LawQ x c0 s0)) : OEndsQ P mi pc L S H (LawQ x c1 s1) := by
  obtain ⟨⟨v, Hf, k, n⟩, E, q1, q2, q3⟩ := E
  dsimp only at q1 q2 q3
  exact ⟨_, OEnds.made hm hf hi hx E, q1, by show k + 1 ≤ c1; omega, by show n + ks ≤ s1; omega⟩
theorem OEndsQ.callN {x : Int32} {c0 s0 c1 s1 : Nat} (hm : P.mth[mi]? = some d) (hf : fetch d.code pc = some (i, len, er, a, b)) (hi : isInv i = true) (hb : ¬ b = -1) (hy : P.mth[a]? = some y) (hao : argsOf (nargs y) S = some (as, rest))
    (hc : (decide (0 < a) && invKind i y.kind && recvOk P H y as && fitsRoom d y rest && decide ((entA as).length ≤ y.maxL)) = true) (E1 : OEnds P a 0 (entL as y.maxL) [] H (v, H1, kc, ks)) (h1 : c0 + kc ≤ c1) (h2 : s0 + ks ≤ s1) (E2 : OEndsQ P mi (pc + 3) (forget er L) (v.toList ++ rest) H1 (LawQ x c0 s0)) : OEndsQ P mi pc L S H (LawQ x c1 s1) := by
  obtain ⟨⟨v, Hf, k, n⟩, E, q1, q2, q3⟩ := E2
  dsimp only at q1 q2 q3
  exact ⟨_, OEnds.call hm hf hi hb hy hao hc E1 E, q1, by show k + kc ≤ c1; omega, by show n + ks ≤ s1; omega⟩
end Rules
/-! From the machine to the claim -/
theorem law_met {P : PD} {Z : State} {a0 : Array Value} {l : Launch} {y : MD} {as ws : List Value} {H : AHeap} {ρ : List Addr} {n0 kc ks : Nat} {h : Heap} (hP : chk P = true) (hW : ∀ w ∈ wordsOf P, w.before a0 Z = true) (hy : P.mth[0]? = some y)
    (E : OEndsQ P 0 0 (entL as y.maxL) [] H (LawQ 1 kc ks)) (hS : SR ρ as ws) (hlen : (entA as).length ≤ y.maxL) (hH : HR P Z n0 h ρ H) (w0 : List Jvm.Cond) (rm : Room) (r1 : y.rf ≤ rm.frames) (r2 : y.rw ≤ rm.locals) (r3 : kc ≤ rm.cells) (r4 : ks ≤ rm.slots) :
    MetFree l y.name (head1 (Jvm.Cond.code y.name y.bytes y.maxL y.ret :: w0) rm) (fun a U => a = ws.toArray ∧ Z.Warmed39 U.vm ∧ U.heap = h) (fun _ _ _ _ _ => True)
      (fun _ U o U' => ∃ L, o = .returned (some (.int 1)) ∧ Fr n0 L ∧ FrameEnd U o U' L kc ks) := by
  obtain ⟨⟨v, H1, c1, s1⟩, ⟨n, E⟩, q1, q2, q3⟩ := E
  dsimp only at q1 q2 q3
  subst q1
  have hpn : plainName y.name.cls = true := by
    have := mChk_of hP (List.mem_of_getElem? hy)
    simp only [mChk, Bool.and_eq_true] at this
    exact this.1.1.1.1.1.1
  have M := met_of (l := l) (n := n) (sound hP hW n) hy hpn (E n (Nat.le_refl _)) hS hlen hH w0 rm r1 r2 (Nat.le_trans q2 r3) (Nat.le_trans q3 r4)
  intro p e ha hc hk s m args below hf happ hp hK
  obtain ⟨n', o, h1, h2, h3, v', L, rfl, ⟨hF, t, ⟨u, rfl, hu⟩, -⟩, hq⟩ := M p e ha hc hk s m args below hf happ hp hK
  obtain rfl : u = .int 1 := hu
  exact ⟨n', _, h1, h2, h3, L, rfl, hF, hq.1, hq.2.1, hq.2.2.mono q2 q3⟩
end Jvm.Own
namespace Jvm.Own
open Jvm Jvm.ClassFile Sem Op Lib Jvm.Free Jvm.Stand Jvm.LawKit Jvm.RoadKit Bundle
/-- the law's script: an int array of at most 260 -/
theorem script_of {s : State} {ad : Addr} {cl : Cell} (hf : Fit s) (A : Arr s s.heap ad cl .int) (e0 : (Term.arg 0).eval #[.ref ad] s none [] s = some (.ref ad)) (hn : (Jvm.Cond.le (.length (.arg 0)) (.int 260)).value #[.ref ad] s none s [] = some true) :
    ∃ scr : List Int32, cl.slots.size = scr.length ∧ scr.length ≤ 260 ∧ ∀ (i : Nat) x, scr[i]? = some x → cl.slots[i]? = some (.int x) := by
  obtain ⟨u, v, g1, g2, -, -⟩ := cmp_v (Or.inr (Or.inr hn))
  obtain ⟨a', cl', z1, z2, z3⟩ := Term.length_spec g1
  have hat := A.fin (Vm.Alike.refl _)
  rw [e0] at z1
  cases z1
  rw [hat] at z2
  cases z2
  have hsz : cl.slots.size < 2 ^ 31 := by
    rcases Nat.lt_or_ge cl.slots.size (2 ^ 31) with q | q
    · exact q
    · exfalso
      simp [Term.eval, hat] at g1
      omega
  subst z3
  have hv : v = .int 260 := by simpa [Term.eval] using g2.symm
  subst hv
  have hle : cl.slots.size.toInt32 ≤ 260 := by
    simpa [Cond.value, g1, g2] using hn
  have hle' : cl.slots.size ≤ 260 := by
    rw [Int32.le_iff_toInt_le, len_toInt hsz] at hle
    have : (260 : Int32).toInt = 260 := rfl
    rw [this] at hle
    omega
  have key : ∀ i, i < cl.slots.size → ∃ x, cl.slots[i]? = some (.int x) := fun i hi => by
    have hj := idx_in hi hsz
    obtain ⟨v, e1, e2⟩ := elem_fit hf A hj
    have : i.toInt32.toNatClampNeg = i := by
      have h1 : i.toInt32.toInt = i := len_toInt (by omega)
      simp [Int32.toNatClampNeg, h1]
    rw [this] at e1
    obtain ⟨x, rfl⟩ := fit_I e2 (Or.inl rfl)
    exact ⟨x, e1⟩
  refine ⟨cl.slots.toList.map fun v => match v with | .int x => x | _ => 0, by simp, by simpa using hle', fun i x hx => ?_⟩
  rw [List.getElem?_map] at hx
  obtain ⟨v, h1, h2⟩ := Option.map_eq_some_iff.mp hx
  have h1' : cl.slots[i]? = some v := by simpa using h1
  obtain ⟨y, hy⟩ := key i (Array.getElem?_eq_some_iff.mp h1').1
  rw [h1'] at hy
  cases hy
  rw [h1']
  simp at h2
  rw [h2]
theorem hr_script {P : PD} {s : State} {ad : Addr} {cl : Cell} {scr : List Int32} (hnr : P.nr = 1) (A : Arr s s.heap ad cl .int) (h1 : cl.slots.size = scr.length) (h2 : scr.length ≤ 260) (h3 : ∀ (i : Nat) x, scr[i]? = some x → cl.slots[i]? = some (.int x)) : HR P s s.heap.size s.heap [ad] [.inr (.inl (false, scr))] := by
  refine ⟨Nat.le_refl _, rfl, fun i j a g1 g2 => ?_, fun k a g1 g2 => ?_, fun k a c g1 g2 => ?_⟩
  · match i, j, g1, g2 with
    | 0, 0, _, _ => rfl
    | i + 1, _, g1, _ => simp at g1
    | 0, j + 1, _, g2 => simp at g2
  · match k, g1, g2 with
    | 0, _, g2 => rw [hnr] at g2; omega
    | k + 1, g1, _ => simp at g1
  · match k, g1, g2 with
    | 0, g1, g2 =>
      simp at g1 g2
      subst g1 g2
      exact ⟨cl, A, h1, by omega, h3⟩
    | k + 1, g1, _ => simp at g1
end Jvm.Own
namespace Jvm.Own
open Jvm
/-! Ints in range, arrays -/
theorem ilt {a b : Int32} : a < b ↔ a.toInt < b.toInt := Int32.lt_iff_toInt_lt
theorem ile {a b : Int32} : a ≤ b ↔ a.toInt ≤ b.toInt := Int32.le_iff_toInt_le
theorem ieq {a b : Int32} : a = b ↔ a.toInt = b.toInt := Int32.toInt_inj.symm
theorem irng (a : Int32) : -2147483648 ≤ a.toInt ∧ a.toInt < 2147483648 := ⟨Int32.le_toInt a, Int32.toInt_lt a⟩
theorem iadd_i {a b : Int32} (h1 : -2147483648 ≤ a.toInt + b.toInt) (h2 : a.toInt + b.toInt < 2147483648) : (a + b).toInt = a.toInt + b.toInt := by
  rw [Int32.toInt_add]; exact Int.bmod_eq_of_le (by omega) (by omega)
theorem isub_i {a b : Int32} (h1 : -2147483648 ≤ a.toInt - b.toInt) (h2 : a.toInt - b.toInt < 2147483648) : (a - b).toInt = a.toInt - b.toInt := by
  rw [Int32.toInt_sub]; exact Int.bmod_eq_of_le (by omega) (by omega)
theorem imul_i {a b : Int32} (h1 : -2147483648 ≤ a.toInt * b.toInt) (h2 : a.toInt * b.toInt < 2147483648) : (a * b).toInt = a.toInt * b.toInt := by
  rw [Int32.toInt_mul]; exact Int.bmod_eq_of_le (by omega) (by omega)
theorem rdA_nn {α : Type} {L : List α} {j : Int32} (h0 : 0 ≤ j.toInt) : rdA L j = L[j.toInt.toNat]? := by
  unfold rdA
  rw [if_neg (by rw [ilt]; exact Int.not_lt.mpr h0)]
  rfl
theorem rdA_in {α : Type} {L : List α} {j : Int32} (h0 : 0 ≤ j.toInt) (h1 : j.toInt.toNat < L.length) : rdA L j = some L[j.toInt.toNat] := by
  rw [rdA_nn h0, List.getElem?_eq_getElem h1]
theorem wrA_in {α : Type} {L : List α} {j : Int32} {x : α} (h0 : 0 ≤ j.toInt) (h1 : j.toInt.toNat < L.length) : wrA L j x = some (L.set j.toInt.toNat x) := by
  unfold wrA
  rw [if_neg (by rw [ilt]; exact Int.not_lt.mpr h0)]
  exact if_pos h1
theorem rdA_rep {α : Type} {n : Nat} {x : α} {j : Int32} (h0 : 0 ≤ j.toInt) (h1 : j.toInt < n) : rdA (List.replicate n x) j = some x := by
  rw [rdA_nn h0, List.getElem?_replicate, if_pos (by omega)]
end Jvm.Own
namespace Jvm.Own
open Jvm
/-! Sums of ints with their wrap, for omega; runs that answer, and what they answer -/
theorem bmod32 (x : Int) : x.bmod (2 ^ 32) = (x + 2147483648) % 4294967296 - 2147483648 := by
  rw [Int.bmod_def]
  split <;> omega
theorem iadd_e (a b : Int32) : (a + b).toInt = (a.toInt + b.toInt + 2147483648) % 4294967296 - 2147483648 := by
  rw [Int32.toInt_add, bmod32]
theorem isub_e (a b : Int32) : (a - b).toInt = (a.toInt - b.toInt + 2147483648) % 4294967296 - 2147483648 := by
  rw [Int32.toInt_sub, bmod32]
theorem imul_e (a b : Int32) : (a * b).toInt = (a.toInt * b.toInt + 2147483648) % 4294967296 - 2147483648 := by
  rw [Int32.toInt_mul, bmod32]
theorem iscr {n : Nat} (h : n ≤ 260) : (n.toInt32).toInt = n := Int32.toInt_ofNat_of_lt (by omega)
def Tot {α : Type} (x : Option α) (P : α → Prop) : Prop := ∃ r, x = some r ∧ P r
theorem Tot.mk {α : Type} {P : α → Prop} {a : α} (h : P a) : Tot (some a) P := ⟨a, rfl, h⟩
theorem Tot.bind {α β : Type} {x : Option α} {f : α → Option β} {P : α → Prop} {Q : β → Prop} (h : Tot x P) (g : ∀ a, P a → Tot (f a) Q) : Tot (x.bind f) Q := by
  obtain ⟨r, e, p⟩ := h
  rw [e]
  exact g r p
theorem Tot.mono {α : Type} {x : Option α} {P Q : α → Prop} (h : Tot x P) (g : ∀ a, P a → Q a) : Tot x Q := by
  obtain ⟨r, e, p⟩ := h
  exact ⟨r, e, g r p⟩
theorem Tot.ite {α : Type} {c : Prop} [Decidable c] {a b : Option α} {Q : α → Prop} (h1 : c → Tot a Q) (h2 : ¬ c → Tot b Q) : Tot (if c then a else b) Q := by
  by_cases h : c
  · rw [if_pos h]; exact h1 h
  · rw [if_neg h]; exact h2 h
theorem Tot.rd {α β : Type} {L : List α} {j : Int32} {f : α → Option β} {Q : β → Prop} (h0 : 0 ≤ j.toInt) (h1 : j.toInt < L.length) (g : ∀ a, L[j.toInt.toNat]? = some a → Tot (f a) Q) : Tot ((rdA L j).bind f) Q := by
  have h2 : j.toInt.toNat < L.length := by omega
  rw [rdA_in h0 h2]
  exact g _ (List.getElem?_eq_getElem h2)
theorem Tot.wr {α β : Type} {L : List α} {j : Int32} {x : α} {f : List α → Option β} {Q : β → Prop} (h0 : 0 ≤ j.toInt) (h1 : j.toInt < L.length) (g : ∀ L' : List α, L' = L.set j.toInt.toNat x → L'.length = L.length → Tot (f L') Q) : Tot ((wrA L j x).bind f) Q := by
  rw [wrA_in h0 (by omega)]
  exact g _ rfl (by simp)
theorem Tot.eq {α : Type} {x : Option α} {a : α} (h : Tot x (fun r => r = a)) : x = some a := by
  obtain ⟨r, e, p⟩ := h
  rw [e, p]
theorem Tot.of {α : Type} {x : Option α} {a : α} {P : α → Prop} (e : x = some a) (p : P a) : Tot x P := ⟨a, e, p⟩
/-- a bit mask at 15, 31 .. -/
theorem iand_rng (x : Int32) (m : Int32) (h : 0 ≤ m.toInt) : 0 ≤ (x &&& m).toInt ∧ (x &&& m).toInt ≤ m.toInt := by
  have hm : m.toBitVec.msb = false := by
    rw [BitVec.msb_eq_toInt]; simpa using h
  have hx : (x &&& m).toBitVec.msb = false := by
    rw [Int32.toBitVec_and, BitVec.msb_and, hm, Bool.and_false]
  have e1 : m.toInt = (m.toBitVec.toNat : Int) := BitVec.toInt_eq_toNat_of_msb hm
  have e2 : (x &&& m).toInt = (((x &&& m).toBitVec).toNat : Int) := BitVec.toInt_eq_toNat_of_msb hx
  have e3 : ((x &&& m).toBitVec).toNat ≤ m.toBitVec.toNat := by
    rw [Int32.toBitVec_and, BitVec.toNat_and]; exact Nat.and_le_right
  omega
def gI (L : List Int32) (j : Int32) : Int32 := (rdA L j).getD 0
theorem rdg {L : List Int32} {j : Int32} (h0 : 0 ≤ j.toInt) (h1 : j.toInt < L.length) : rdA L j = some (gI L j) := by
  have h2 : j.toInt.toNat < L.length := by omega
  unfold gI
  rw [rdA_in h0 h2]
  (first | done | rfl | simp)
theorem gset {L : List Int32} {i j : Int32} {x : Int32} (hi : 0 ≤ i.toInt) (hl : i.toInt < L.length) (hj : 0 ≤ j.toInt) : gI (L.set i.toInt.toNat x) j = if i = j then x else gI L j := by
  unfold gI
  rw [rdA_nn hj, rdA_nn hj]
  by_cases h : i = j
  · subst h
    rw [if_pos rfl, List.getElem?_set_self (by omega)]
    (first | done | rfl | simp)
  · rw [if_neg h, List.getElem?_set_ne (by rw [ieq] at h; omega)]
theorem gext {A B : List Int32} (hl : A.length < 100000) (ha : A.length = B.length) (h : ∀ i : Int32, 0 ≤ i.toInt → i.toInt < A.length → gI A i = gI B i) : A = B := by
  apply List.ext_getElem ha
  intro k h1 h2
  have e : (Int32.ofNat k).toInt = k := Int32.toInt_ofNat_of_lt (by omega)
  have q := h (Int32.ofNat k) (by omega) (by omega)
  unfold gI at q
  rw [rdA_nn (by omega), rdA_nn (by omega), e] at q
  simpa [h1, h2] using q
theorem Tot.rdI {β : Type} {L : List Int32} {j : Int32} {f : Int32 → Option β} {Q : β → Prop} (h0 : 0 ≤ j.toInt) (h1 : j.toInt < L.length) (g : Tot (f (gI L j)) Q) : Tot ((rdA L j).bind f) Q := by
  rw [rdg h0 h1]
  exact g
theorem gI_rep {n : Nat} {x : Int32} {j : Int32} (h0 : 0 ≤ j.toInt) (h1 : j.toInt < n) : gI (List.replicate n x) j = x := by
  unfold gI
  rw [rdA_rep h0 h1]
  (first | done | rfl | simp)
/-! Longs -/
theorem lltI {a b : Int64} : a < b ↔ a.toInt < b.toInt := Int64.lt_iff_toInt_lt
theorem leqI {a b : Int64} : a = b ↔ a.toInt = b.toInt := Int64.toInt_inj.symm
theorem lrng (a : Int64) : -9223372036854775808 ≤ a.toInt ∧ a.toInt < 9223372036854775808 := ⟨Int64.le_toInt a, Int64.toInt_lt a⟩
theorem ladd_i {a b : Int64} (h1 : -9223372036854775808 ≤ a.toInt + b.toInt) (h2 : a.toInt + b.toInt < 9223372036854775808) : (a + b).toInt = a.toInt + b.toInt := by
  rw [Int64.toInt_add]; exact Int.bmod_eq_of_le (by omega) (by omega)
theorem lsub_i {a b : Int64} (h1 : -9223372036854775808 ≤ a.toInt - b.toInt) (h2 : a.toInt - b.toInt < 9223372036854775808) : (a - b).toInt = a.toInt - b.toInt := by
  rw [Int64.toInt_sub]; exact Int.bmod_eq_of_le (by omega) (by omega)
theorem lmul_i {a b : Int64} (h1 : -9223372036854775808 ≤ a.toInt * b.toInt) (h2 : a.toInt * b.toInt < 9223372036854775808) : (a * b).toInt = a.toInt * b.toInt := by
  rw [Int64.toInt_mul]; exact Int.bmod_eq_of_le (by omega) (by omega)
theorem lmod_i {a b : Int64} (h : 0 ≤ a.toInt) : (a % b).toInt = a.toInt % b.toInt := by
  rw [Int64.toInt_mod, Int.tmod_eq_emod_of_nonneg h]
theorem lback {a : Int64} (h1 : -2147483648 ≤ a.toInt) (h2 : a.toInt < 2147483648) : a.toInt32.toInt64 = a := by
  rw [leqI, Int32.toInt_toInt64, Int64.toInt_toInt32, bmod32]
  omega
theorem mulb {a b M : Int} (h0 : 0 ≤ a) (h1 : a ≤ M) (h2 : 0 ≤ b) (h3 : b ≤ M) : 0 ≤ a * b ∧ a * b ≤ M * M :=
  ⟨Int.mul_nonneg h0 h2, Int.mul_le_mul h1 h3 h2 (by omega)⟩
end Jvm.Own
namespace Jvm.Pilot.@@N@@
open Jvm Jvm.ClassFile Sem Op Lib Jvm.Free Jvm.Stand Jvm.LawKit Jvm.RoadKit Bundle Jvm.Own Jvm.Pilot.@@N@@.Jvm.D
def d_0 : MD := (x, code, maxLocals, ret, 0, 1, 999, 7, 114, [(0, .new 7, 3, [], 0, 0), (3, .dup, 1, [], 0, 0), (4, .iconst 2, 1, [], 0, 0), (5, .iconst 2, 1, [], 0, 0), (6, .iconst 1, 1, [], 0, 0), (7, .invokespecial 9, 3, [], 1, 0), (10, .astore_n 1, 1, [], 0, 0), (11, .new 7, 3, [], 0, 0), (14, .dup, 1, [], 0, 0), (15, .iconst 2, 1, [], 0, 0), (16, .iconst 2, 1, [], 0, 0), (17, .iconst 1, 1, [], 0, 0), (18, .invokespecial 9, 3, [], 1, 0), (21, .astore_n 2, 1, [], 0, 0), (22, .aload_n 0, 1, [], 0, 0), (23, .arraylength, 1, [], 0, 0), (24, .iconst 5, 1, [], 0, 0), (25, .idiv, 1, [], 0, 0), (26, .istore_n 3, 1, [], 0, 0), (27, .iconst 0, 1, [], 0, 0), (28, .istore 4, 2, [], 0, 0), (30, .iload 4, 2, [false, false, false, false, false, true, true, true, true, true, true, true], 0, 0), (32, .iload_n 3, 1, [], 0, 0), (33, .if_icmp .ge 133, 3, [], 0, 0), (36, .iload 4, 2, [], 0, 0), (38, .iconst 5, 1, [], 0, 0), (39, .imul, 1, [], 0, 0), (40, .istore 5, 2, [], 0, 0), (42, .aload_n 0, 1, [], 0, 0), (43, .iload 5, 2, [], 0, 0), (45, .iaload, 1, [], 0, 0), (46, .iconst 3, 1, [], 0, 0), (47, .iand, 1, [], 0, 0), (48, .istore 6, 2, [], 0, 0), (50, .aload_n 0, 1, [], 0, 0), (51, .iload 5, 2, [], 0, 0), (53, .iconst 1, 1, [], 0, 0), (54, .iadd, 1, [], 0, 0), (55, .iaload, 1, [], 0, 0), (56, .istore 7, 2, [], 0, 0), (58, .aload_n 0, 1, [], 0, 0), (59, .iload 5, 2, [], 0, 0), (61, .iconst 2, 1, [], 0, 0), (62, .iadd, 1, [], 0, 0), (63, .iaload, 1, [], 0, 0), (64, .istore 8, 2, [], 0, 0), (66, .aload_n 0, 1, [], 0, 0), (67, .iload 5, 2, [], 0, 0), (69, .iconst 3, 1, [], 0, 0), (70, .iadd, 1, [], 0, 0), (71, .iaload, 1, [], 0, 0), (72, .istore 9, 2, [], 0, 0), (74, .aload_n 0, 1, [], 0, 0), (75, .iload 5, 2, [], 0, 0), (77, .iconst 4, 1, [], 0, 0), (78, .iadd, 1, [], 0, 0), (79, .iaload, 1, [], 0, 0), (80, .istore 10, 2, [], 0, 0), (82, .aload_n 1, 1, [], 0, 0), (83, .iload 6, 2, [], 0, 0), (85, .iload 7, 2, [], 0, 0), (87, .iload 8, 2, [], 0, 0), (89, .iload 9, 2, [], 0, 0), (91, .iload 10, 2, [], 0, 0), (93, .invokestatic 12, 3, [], 7, 0), (96, .aload_n 2, 1, [], 0, 0), (97, .iload 6, 2, [], 0, 0), (99, .iload 7, 2, [], 0, 0), (101, .iload 8, 2, [], 0, 0), (103, .iload 9, 2, [], 0, 0), (105, .iload 10, 2, [], 0, 0), (107, .invokestatic 12, 3, [], 7, 0), (110, .aload_n 1, 1, [], 0, 0), (111, .iload 7, 2, [], 0, 0), (113, .iload 8, 2, [], 0, 0), (115, .iload 9, 2, [], 0, 0), (117, .invokevirtual 18, 3, [], 11, 0), (120, .istore 11, 2, [], 0, 0), (122, .iload 11, 2, [], 0, 0), (124, .ifCond .lt 26, 3, [], 0, 0), (127, .aload_n 2, 1, [], 0, 0), (128, .iload 11, 2, [], 0, 0), (130, .invokevirtual 22, 3, [], 18, 0), (133, .iconst (-1), 1, [], 0, 0), (134, .if_icmp .eq 5, 3, [], 0, 0), (137, .iconst 0, 1, [], 0, 0), (138, .ireturn, 1, [], 0, 0), (139, .aload_n 1, 1, [], 0, 0), (140, .iload 11, 2, [], 0, 0), (142, .invokevirtual 26, 3, [], 34, 0), (145, .ifCond .eq 5, 3, [], 0, 0), (148, .iconst 0, 1, [], 0, 0), (149, .ireturn, 1, [], 0, 0), (150, .aload_n 1, 1, [false, false, false, false, false, true, true, true, true, true, true, true], 0, 0), (151, .aload_n 2, 1, [], 0, 0), (152, .invokestatic 29, 3, [], 16, 0), (155, .ifCond .ne 5, 3, [], 0, 0), (158, .iconst 0, 1, [], 0, 0), (159, .ireturn, 1, [], 0, 0), (160, .iinc 4 1, 3, [], 0, 0), (163, .goto (-133), 3, [], 0, 0), (166, .iconst 1, 1, [], 0, 0), (167, .ireturn, 1, [], 0, 0)])
def d_1 : MD := (⟨"RoomPlanner", "<init>", "(III)V"⟩, prog_1_method_1_code, 4, none, 1, 3, 0, 1, 15, [(0, .aload_n 0, 1, [], 0, 0), (1, .invokespecial 1, 3, [], 0, -1), (4, .aload_n 0, 1, [], 0, 0), (5, .iconst 3, 1, [], 0, 0), (6, .newarray .int, 2, [], 0, 0), (8, .putfield 7, 3, [], 0, 0), (11, .aload_n 0, 1, [], 0, 0), (12, .iconst 3, 1, [], 0, 0), (13, .newarray .int, 2, [], 0, 0), (15, .putfield 13, 3, [], 1, 0), (18, .aload_n 0, 1, [], 0, 0), (19, .iconst 3, 1, [], 0, 0), (20, .newarray .int, 2, [], 0, 0), (22, .putfield 16, 3, [], 2, 0), (25, .aload_n 0, 1, [], 0, 0), (26, .bipush 32, 2, [], 0, 0), (28, .newarray .boolean, 2, [], 0, 0), (30, .putfield 19, 3, [], 3, 0), (33, .aload_n 0, 1, [], 0, 0), (34, .bipush 32, 2, [], 0, 0), (36, .newarray .int, 2, [], 0, 0), (38, .putfield 23, 3, [], 4, 0), (41, .aload_n 0, 1, [], 0, 0), (42, .bipush 32, 2, [], 0, 0), (44, .newarray .int, 2, [], 0, 0), (46, .putfield 26, 3, [], 5, 0), (49, .aload_n 0, 1, [], 0, 0), (50, .bipush 32, 2, [], 0, 0), (52, .newarray .int, 2, [], 0, 0), (54, .putfield 29, 3, [], 6, 0), (57, .aload_n 0, 1, [], 0, 0), (58, .bipush 96, 2, [], 0, 0), (60, .newarray .int, 2, [], 0, 0), (62, .putfield 32, 3, [], 7, 0), (65, .aload_n 0, 1, [], 0, 0), (66, .bipush 96, 2, [], 0, 0), (68, .newarray .int, 2, [], 0, 0), (70, .putfield 35, 3, [], 8, 0), (73, .aload_n 0, 1, [], 0, 0), (74, .bipush 32, 2, [], 0, 0), (76, .newarray .int, 2, [], 0, 0), (78, .putfield 38, 3, [], 9, 0), (81, .aload_n 0, 1, [], 0, 0), (82, .sipush 768, 3, [], 0, 0), (85, .newarray .int, 2, [], 0, 0), (87, .putfield 41, 3, [], 10, 0), (90, .aload_n 0, 1, [], 0, 0), (91, .bipush 32, 2, [], 0, 0), (93, .newarray .int, 2, [], 0, 0), (95, .putfield 44, 3, [], 11, 0), (98, .aload_n 0, 1, [], 0, 0), (99, .getfield 7, 3, [], 0, 0), (102, .iconst 0, 1, [], 0, 0), (103, .aload_n 0, 1, [], 0, 0), (104, .iload_n 1, 1, [], 0, 0), (105, .invokevirtual 47, 3, [], 2, 0), (108, .iastore, 1, [], 0, 0), (109, .aload_n 0, 1, [], 0, 0), (110, .getfield 7, 3, [], 0, 0), (113, .iconst 1, 1, [], 0, 0), (114, .aload_n 0, 1, [], 0, 0), (115, .iload_n 2, 1, [], 0, 0), (116, .invokevirtual 47, 3, [], 2, 0), (119, .iastore, 1, [], 0, 0), (120, .aload_n 0, 1, [], 0, 0), (121, .getfield 7, 3, [], 0, 0), (124, .iconst 2, 1, [], 0, 0), (125, .aload_n 0, 1, [], 0, 0), (126, .iload_n 3, 1, [], 0, 0), (127, .invokevirtual 47, 3, [], 2, 0), (130, .iastore, 1, [], 0, 0), (131, .aload_n 0, 1, [], 0, 0), (132, .invokevirtual 51, 3, [], 3, 0), (135, .aload_n 0, 1, [], 0, 0), (136, .invokevirtual 54, 3, [], 4, 0), (139, .aload_n 0, 1, [], 0, 0), (140, .invokevirtual 57, 3, [], 5, 0), (143, .aload_n 0, 1, [], 0, 0), (144, .invokevirtual 60, 3, [], 6, 0), (147, .aload_n 0, 1, [], 0, 0), (148, .iconst 0, 1, [], 0, 0), (149, .putfield 63, 3, [], 15, 0), (152, .aload_n 0, 1, [], 0, 0), (153, .iconst 0, 1, [], 0, 0), (154, .putfield 67, 3, [], 16, 0), (157, .return_, 1, [], 0, 0)])
def d_2 : MD := (⟨"RoomPlanner", "clampRooms", "(I)I"⟩, prog_1_method_18_code, 2, some .int, 2, 1, 0, 0, 0, [(0, .iload_n 1, 1, [], 0, 0), (1, .ifCond .ge 5, 3, [], 0, 0), (4, .iconst 0, 1, [], 0, 0), (5, .ireturn, 1, [], 0, 0), (6, .iload_n 1, 1, [], 0, 0), (7, .bipush 8, 2, [], 0, 0), (9, .if_icmp .le 6, 3, [], 0, 0), (12, .bipush 8, 2, [], 0, 0), (14, .ireturn, 1, [], 0, 0), (15, .iload_n 1, 1, [], 0, 0), (16, .ireturn, 1, [], 0, 0)])
def d_3 : MD := (⟨"RoomPlanner", "computeRoomTables", "()V"⟩, prog_1_method_19_code, 4, none, 2, 0, 0, 0, 0, [(0, .aload_n 0, 1, [], 0, 0), (1, .getfield 7, 3, [], 0, 0), (4, .iconst 0, 1, [], 0, 0), (5, .iaload, 1, [], 0, 0), (6, .istore_n 1, 1, [], 0, 0), (7, .aload_n 0, 1, [], 0, 0), (8, .getfield 7, 3, [], 0, 0), (11, .iconst 1, 1, [], 0, 0), (12, .iaload, 1, [], 0, 0), (13, .istore_n 2, 1, [], 0, 0), (14, .aload_n 0, 1, [], 0, 0), (15, .getfield 7, 3, [], 0, 0), (18, .iconst 2, 1, [], 0, 0), (19, .iaload, 1, [], 0, 0), (20, .istore_n 3, 1, [], 0, 0), (21, .aload_n 0, 1, [], 0, 0), (22, .getfield 13, 3, [], 1, 0), (25, .iconst 2, 1, [], 0, 0), (26, .iload_n 3, 1, [], 0, 0), (27, .iastore, 1, [], 0, 0), (28, .aload_n 0, 1, [], 0, 0), (29, .getfield 13, 3, [], 1, 0), (32, .iconst 1, 1, [], 0, 0), (33, .iload_n 2, 1, [], 0, 0), (34, .iload_n 3, 1, [], 0, 0), (35, .iadd, 1, [], 0, 0), (36, .iastore, 1, [], 0, 0), (37, .aload_n 0, 1, [], 0, 0), (38, .getfield 13, 3, [], 1, 0), (41, .iconst 0, 1, [], 0, 0), (42, .iload_n 1, 1, [], 0, 0), (43, .iload_n 2, 1, [], 0, 0), (44, .iadd, 1, [], 0, 0), (45, .iload_n 3, 1, [], 0, 0), (46, .iadd, 1, [], 0, 0), (47, .iastore, 1, [], 0, 0), (48, .aload_n 0, 1, [], 0, 0), (49, .getfield 16, 3, [], 2, 0), (52, .iconst 0, 1, [], 0, 0), (53, .iconst 0, 1, [], 0, 0), (54, .iastore, 1, [], 0, 0), (55, .aload_n 0, 1, [], 0, 0), (56, .getfield 16, 3, [], 2, 0), (59, .iconst 1, 1, [], 0, 0), (60, .iload_n 1, 1, [], 0, 0), (61, .iastore, 1, [], 0, 0), (62, .aload_n 0, 1, [], 0, 0), (63, .getfield 16, 3, [], 2, 0), (66, .iconst 2, 1, [], 0, 0), (67, .iload_n 1, 1, [], 0, 0), (68, .iload_n 2, 1, [], 0, 0), (69, .iadd, 1, [], 0, 0), (70, .iastore, 1, [], 0, 0), (71, .aload_n 0, 1, [], 0, 0), (72, .iload_n 1, 1, [], 0, 0), (73, .iload_n 2, 1, [], 0, 0), (74, .iadd, 1, [], 0, 0), (75, .iload_n 3, 1, [], 0, 0), (76, .iadd, 1, [], 0, 0), (77, .putfield 142, 3, [], 12, 0), (80, .return_, 1, [], 0, 0)])
def d_4 : MD := (⟨"RoomPlanner", "resetStays", "()V"⟩, prog_1_method_28_code, 2, none, 2, 0, 0, 0, 0, [(0, .iconst 0, 1, [], 0, 0), (1, .istore_n 1, 1, [], 0, 0), (2, .iload_n 1, 1, [], 0, 0), (3, .bipush 32, 2, [], 0, 0), (5, .if_icmp .ge 37, 3, [], 0, 0), (8, .aload_n 0, 1, [], 0, 0), (9, .getfield 19, 3, [], 3, 0), (12, .iload_n 1, 1, [], 0, 0), (13, .iconst 0, 1, [], 0, 0), (14, .bastore, 1, [], 0, 0), (15, .aload_n 0, 1, [], 0, 0), (16, .getfield 23, 3, [], 4, 0), (19, .iload_n 1, 1, [], 0, 0), (20, .iconst 0, 1, [], 0, 0), (21, .iastore, 1, [], 0, 0), (22, .aload_n 0, 1, [], 0, 0), (23, .getfield 26, 3, [], 5, 0), (26, .iload_n 1, 1, [], 0, 0), (27, .iconst 0, 1, [], 0, 0), (28, .iastore, 1, [], 0, 0), (29, .aload_n 0, 1, [], 0, 0), (30, .getfield 29, 3, [], 6, 0), (33, .iload_n 1, 1, [], 0, 0), (34, .iconst 0, 1, [], 0, 0), (35, .iastore, 1, [], 0, 0), (36, .iinc 1 1, 3, [], 0, 0), (39, .goto (-37), 3, [], 0, 0), (42, .aload_n 0, 1, [], 0, 0), (43, .iconst 0, 1, [], 0, 0), (44, .putfield 75, 3, [], 13, 0), (47, .return_, 1, [], 0, 0)])
def d_5 : MD := (⟨"RoomPlanner", "resetCounts", "()V"⟩, prog_1_method_35_code, 2, none, 2, 0, 0, 0, 0, [(0, .iconst 0, 1, [], 0, 0), (1, .istore_n 1, 1, [], 0, 0), (2, .iload_n 1, 1, [], 0, 0), (3, .bipush 96, 2, [], 0, 0), (5, .if_icmp .ge 23, 3, [], 0, 0), (8, .aload_n 0, 1, [], 0, 0), (9, .getfield 32, 3, [], 7, 0), (12, .iload_n 1, 1, [], 0, 0), (13, .iconst 0, 1, [], 0, 0), (14, .iastore, 1, [], 0, 0), (15, .aload_n 0, 1, [], 0, 0), (16, .getfield 35, 3, [], 8, 0), (19, .iload_n 1, 1, [], 0, 0), (20, .iconst 0, 1, [], 0, 0), (21, .iastore, 1, [], 0, 0), (22, .iinc 1 1, 3, [], 0, 0), (25, .goto (-23), 3, [], 0, 0), (28, .return_, 1, [], 0, 0)])
def d_6 : MD := (⟨"RoomPlanner", "clearPlan", "()V"⟩, prog_1_method_47_code, 2, none, 2, 0, 0, 0, 0, [(0, .iconst 0, 1, [], 0, 0), (1, .istore_n 1, 1, [], 0, 0), (2, .iload_n 1, 1, [], 0, 0), (3, .bipush 32, 2, [], 0, 0), (5, .if_icmp .ge 23, 3, [], 0, 0), (8, .aload_n 0, 1, [], 0, 0), (9, .getfield 38, 3, [], 9, 0), (12, .iload_n 1, 1, [], 0, 0), (13, .iconst (-1), 1, [], 0, 0), (14, .iastore, 1, [], 0, 0), (15, .aload_n 0, 1, [], 0, 0), (16, .getfield 44, 3, [], 11, 0), (19, .iload_n 1, 1, [], 0, 0), (20, .iconst 0, 1, [], 0, 0), (21, .iastore, 1, [], 0, 0), (22, .iinc 1 1, 3, [], 0, 0), (25, .goto (-23), 3, [], 0, 0), (28, .iconst 0, 1, [], 0, 0), (29, .istore_n 1, 1, [], 0, 0), (30, .iload_n 1, 1, [], 0, 0), (31, .sipush 768, 3, [], 0, 0), (34, .if_icmp .ge 16, 3, [], 0, 0), (37, .aload_n 0, 1, [], 0, 0), (38, .getfield 41, 3, [], 10, 0), (41, .iload_n 1, 1, [], 0, 0), (42, .iconst (-1), 1, [], 0, 0), (43, .iastore, 1, [], 0, 0), (44, .iinc 1 1, 3, [], 0, 0), (47, .goto (-17), 3, [], 0, 0), (50, .aload_n 0, 1, [], 0, 0), (51, .iconst 0, 1, [], 0, 0), (52, .putfield 127, 3, [], 14, 0), (55, .return_, 1, [], 0, 0)])
def d_7 : MD := (⟨"RoomPlannerL5", "step", "(LRoomPlanner;IIIII)V"⟩, method_3_code, 6, none, 0, 6, 999, 6, 97, [(0, .iload_n 1, 1, [], 0, 0), (1, .ifCond .ne 15, 3, [], 0, 0), (4, .aload_n 0, 1, [], 0, 0), (5, .iload_n 2, 1, [], 0, 0), (6, .iload_n 3, 1, [], 0, 0), (7, .iload 4, 2, [], 0, 0), (9, .invokevirtual 18, 3, [], 11, 0), (12, .pop, 1, [], 0, 0), (13, .goto 41, 3, [], 0, 0), (16, .iload_n 1, 1, [], 0, 0), (17, .iconst 1, 1, [], 0, 0), (18, .if_icmp .ne 17, 3, [], 0, 0), (21, .aload_n 0, 1, [], 0, 0), (22, .iload_n 2, 1, [], 0, 0), (23, .iload_n 3, 1, [], 0, 0), (24, .iload 4, 2, [], 0, 0), (26, .iload 5, 2, [], 0, 0), (28, .invokevirtual 33, 3, [], 36, 0), (31, .pop, 1, [], 0, 0), (32, .goto 22, 3, [], 0, 0), (35, .iload_n 1, 1, [], 0, 0), (36, .iconst 2, 1, [], 0, 0), (37, .if_icmp .ne 12, 3, [], 0, 0), (40, .aload_n 0, 1, [], 0, 0), (41, .iload_n 2, 1, [], 0, 0), (42, .invokevirtual 26, 3, [], 34, 0), (45, .pop, 1, [], 0, 0), (46, .goto 8, 3, [], 0, 0), (49, .aload_n 0, 1, [], 0, 0), (50, .invokevirtual 37, 3, [], 8, 0), (53, .pop, 1, [], 0, 0), (54, .return_, 1, [], 0, 0)])
def d_8 : MD := (⟨"RoomPlanner", "assign", "()I"⟩, prog_1_method_13_code, 5, some .int, 3, 0, 0, 4, 63, [(0, .aload_n 0, 1, [], 0, 0), (1, .invokevirtual 90, 3, [], 9, 0), (4, .aload_n 0, 1, [], 0, 0), (5, .invokevirtual 60, 3, [], 6, 0), (8, .aload_n 0, 1, [], 0, 0), (9, .invokevirtual 124, 3, [], 10, 0), (12, .iconst 0, 1, [], 0, 0), (13, .istore_n 1, 1, [], 0, 0), (14, .iconst 0, 1, [], 0, 0), (15, .istore_n 2, 1, [], 0, 0), (16, .iload_n 2, 1, [false, false, false, true, true], 0, 0), (17, .aload_n 0, 1, [], 0, 0), (18, .getfield 127, 3, [], 14, 0), (21, .if_icmp .ge 37, 3, [], 0, 0), (24, .iload_n 2, 1, [], 0, 0), (25, .bipush 32, 2, [], 0, 0), (27, .if_icmp .ge 31, 3, [], 0, 0), (30, .aload_n 0, 1, [], 0, 0), (31, .getfield 44, 3, [], 11, 0), (34, .iload_n 2, 1, [], 0, 0), (35, .iaload, 1, [], 0, 0), (36, .istore_n 3, 1, [], 0, 0), (37, .aload_n 0, 1, [], 0, 0), (38, .iload_n 3, 1, [], 0, 0), (39, .invokevirtual 130, 3, [], 38, 0), (42, .istore 4, 2, [], 0, 0), (44, .iload 4, 2, [], 0, 0), (46, .ifCond .ne 6, 3, [], 0, 0), (49, .iinc 1 1, 3, [], 0, 0), (52, .iinc 2 1, 3, [], 0, 0), (55, .goto (-39), 3, [], 0, 0), (58, .aload_n 0, 1, [false, false, true, true, true], 0, 0), (59, .iload_n 1, 1, [], 0, 0), (60, .putfield 67, 3, [], 16, 0), (63, .aload_n 0, 1, [], 0, 0), (64, .iconst 1, 1, [], 0, 0), (65, .putfield 63, 3, [], 15, 0), (68, .iload_n 1, 1, [], 0, 0), (69, .ireturn, 1, [], 0, 0)])
def d_9 : MD := (⟨"RoomPlanner", "discardPlan", "()V"⟩, prog_1_method_46_code, 1, none, 2, 0, 0, 0, 0, [(0, .aload_n 0, 1, [], 0, 0), (1, .iconst 0, 1, [], 0, 0), (2, .putfield 63, 3, [], 15, 0), (5, .return_, 1, [], 0, 0)])
def d_10 : MD := (⟨"RoomPlanner", "buildOrder", "()V"⟩, prog_1_method_50_code, 3, none, 2, 0, 0, 1, 13, [(0, .aload_n 0, 1, [], 0, 0), (1, .iconst 0, 1, [], 0, 0), (2, .putfield 127, 3, [], 14, 0), (5, .iconst 0, 1, [], 0, 0), (6, .istore_n 1, 1, [], 0, 0), (7, .iload_n 1, 1, [false, false, true], 0, 0), (8, .bipush 32, 2, [], 0, 0), (10, .if_icmp .ge 47, 3, [], 0, 0), (13, .iconst 0, 1, [], 0, 0), (14, .istore_n 2, 1, [], 0, 0), (15, .iload_n 2, 1, [], 0, 0), (16, .bipush 32, 2, [], 0, 0), (18, .if_icmp .ge 33, 3, [], 0, 0), (21, .aload_n 0, 1, [], 0, 0), (22, .getfield 19, 3, [], 3, 0), (25, .iload_n 2, 1, [], 0, 0), (26, .baload, 1, [], 0, 0), (27, .ifCond .eq 18, 3, [], 0, 0), (30, .aload_n 0, 1, [], 0, 0), (31, .getfield 26, 3, [], 5, 0), (34, .iload_n 2, 1, [], 0, 0), (35, .iaload, 1, [], 0, 0), (36, .iload_n 1, 1, [], 0, 0), (37, .if_icmp .ne 8, 3, [], 0, 0), (40, .aload_n 0, 1, [], 0, 0), (41, .iload_n 2, 1, [], 0, 0), (42, .invokevirtual 177, 3, [], 37, 0), (45, .iinc 2 1, 3, [], 0, 0), (48, .goto (-33), 3, [], 0, 0), (51, .iinc 1 1, 3, [], 0, 0), (54, .goto (-47), 3, [], 0, 0), (57, .return_, 1, [], 0, 0)])
def d_11 : MD := (⟨"RoomPlanner", "book", "(III)I"⟩, prog_1_method_2_code, 6, some .int, 3, 3, 0, 5, 80, [(0, .aload_n 0, 1, [], 0, 0), (1, .iload_n 1, 1, [], 0, 0), (2, .iload_n 2, 1, [], 0, 0), (3, .iload_n 3, 1, [], 0, 0), (4, .invokevirtual 71, 3, [], 12, 0), (7, .istore 4, 2, [], 0, 0), (9, .iload 4, 2, [], 0, 0), (11, .ifCond .eq 6, 3, [], 0, 0), (14, .iload 4, 2, [], 0, 0), (16, .ireturn, 1, [], 0, 0), (17, .aload_n 0, 1, [], 0, 0), (18, .getfield 75, 3, [], 13, 0), (21, .bipush 32, 2, [], 0, 0), (23, .if_icmp .lt 6, 3, [], 0, 0), (26, .bipush (-3), 2, [], 0, 0), (28, .ireturn, 1, [], 0, 0), (29, .aload_n 0, 1, [], 0, 0), (30, .iconst (-1), 1, [], 0, 0), (31, .iload_n 1, 1, [], 0, 0), (32, .iload_n 2, 1, [], 0, 0), (33, .iload_n 3, 1, [], 0, 0), (34, .invokevirtual 78, 3, [], 25, 0), (37, .ifCond .ne 6, 3, [], 0, 0), (40, .bipush (-4), 2, [], 0, 0), (42, .ireturn, 1, [], 0, 0), (43, .aload_n 0, 1, [], 0, 0), (44, .invokevirtual 82, 3, [], 30, 0), (47, .istore 5, 2, [], 0, 0), (49, .iload 5, 2, [], 0, 0), (51, .ifCond .ge 6, 3, [], 0, 0), (54, .bipush (-3), 2, [], 0, 0), (56, .ireturn, 1, [], 0, 0), (57, .aload_n 0, 1, [], 0, 0), (58, .iload 5, 2, [], 0, 0), (60, .iload_n 1, 1, [], 0, 0), (61, .iload_n 2, 1, [], 0, 0), (62, .iload_n 3, 1, [], 0, 0), (63, .invokevirtual 86, 3, [], 31, 0), (66, .aload_n 0, 1, [], 0, 0), (67, .invokevirtual 90, 3, [], 9, 0), (70, .iload 5, 2, [], 0, 0), (72, .ireturn, 1, [], 0, 0)])
def d_12 : MD := (⟨"RoomPlanner", "requestError", "(III)I"⟩, prog_1_method_27_code, 4, some .int, 2, 3, 0, 1, 14, [(0, .aload_n 0, 1, [], 0, 0), (1, .iload_n 1, 1, [], 0, 0), (2, .invokevirtual 108, 3, [], 13, 0), (5, .ifCond .ne 5, 3, [], 0, 0), (8, .iconst (-1), 1, [], 0, 0), (9, .ireturn, 1, [], 0, 0), (10, .aload_n 0, 1, [], 0, 0), (11, .iload_n 2, 1, [], 0, 0), (12, .invokevirtual 111, 3, [], 14, 0), (15, .ifCond .ne 6, 3, [], 0, 0), (18, .bipush (-2), 2, [], 0, 0), (20, .ireturn, 1, [], 0, 0), (21, .aload_n 0, 1, [], 0, 0), (22, .iload_n 2, 1, [], 0, 0), (23, .iload_n 3, 1, [], 0, 0), (24, .invokevirtual 145, 3, [], 15, 0), (27, .ifCond .ne 6, 3, [], 0, 0), (30, .bipush (-2), 2, [], 0, 0), (32, .ireturn, 1, [], 0, 0), (33, .iconst 0, 1, [], 0, 0), (34, .ireturn, 1, [], 0, 0)])
def d_13 : MD := (⟨"RoomPlanner", "isValidType", "(I)Z"⟩, prog_1_method_23_code, 2, some .boolean, 2, 1, 0, 0, 0, [(0, .iload_n 1, 1, [], 0, 0), (1, .ifCond .lt 12, 3, [], 0, 0), (4, .iload_n 1, 1, [], 0, 0), (5, .iconst 3, 1, [], 0, 0), (6, .if_icmp .ge 7, 3, [], 0, 0), (9, .iconst 1, 1, [], 0, 0), (10, .goto 4, 3, [], 0, 0), (13, .iconst 0, 1, [], 0, 0), (14, .ireturn, 1, [], 0, 0)])
def d_14 : MD := (⟨"RoomPlanner", "isValidNight", "(I)Z"⟩, prog_1_method_24_code, 2, some .boolean, 2, 1, 0, 0, 0, [(0, .iload_n 1, 1, [], 0, 0), (1, .ifCond .lt 13, 3, [], 0, 0), (4, .iload_n 1, 1, [], 0, 0), (5, .bipush 32, 2, [], 0, 0), (7, .if_icmp .ge 7, 3, [], 0, 0), (10, .iconst 1, 1, [], 0, 0), (11, .goto 4, 3, [], 0, 0), (14, .iconst 0, 1, [], 0, 0), (15, .ireturn, 1, [], 0, 0)])
def d_15 : MD := (⟨"RoomPlanner", "isValidLength", "(II)Z"⟩, prog_1_method_25_code, 3, some .boolean, 2, 2, 0, 0, 0, [(0, .iload_n 2, 1, [], 0, 0), (1, .iconst 1, 1, [], 0, 0), (2, .if_icmp .ge 5, 3, [], 0, 0), (5, .iconst 0, 1, [], 0, 0), (6, .ireturn, 1, [], 0, 0), (7, .iload_n 2, 1, [], 0, 0), (8, .bipush 32, 2, [], 0, 0), (10, .iload_n 1, 1, [], 0, 0), (11, .isub, 1, [], 0, 0), (12, .if_icmp .gt 7, 3, [], 0, 0), (15, .iconst 1, 1, [], 0, 0), (16, .goto 4, 3, [], 0, 0), (19, .iconst 0, 1, [], 0, 0), (20, .ireturn, 1, [], 0, 0)])
def d_16 : MD := (⟨"RoomPlannerL5", "same", "(LRoomPlanner;LRoomPlanner;)Z"⟩, method_4_code, 4, some .boolean, 0, 2, 999, 3, 44, [(0, .aload_n 0, 1, [], 0, 0), (1, .invokevirtual 41, 3, [], 17, 0), (4, .aload_n 1, 1, [], 0, 0), (5, .invokevirtual 41, 3, [], 17, 0), (8, .if_icmp .eq 5, 3, [], 0, 0), (11, .iconst 0, 1, [], 0, 0), (12, .ireturn, 1, [], 0, 0), (13, .iconst 0, 1, [], 0, 0), (14, .istore_n 2, 1, [], 0, 0), (15, .iload_n 2, 1, [false, false, false, true], 0, 0), (16, .bipush 32, 2, [], 0, 0), (18, .if_icmp .ge 54, 3, [], 0, 0), (21, .aload_n 0, 1, [], 0, 0), (22, .iload_n 2, 1, [], 0, 0), (23, .invokevirtual 22, 3, [], 18, 0), (26, .aload_n 1, 1, [], 0, 0), (27, .iload_n 2, 1, [], 0, 0), (28, .invokevirtual 22, 3, [], 18, 0), (31, .if_icmp .eq 5, 3, [], 0, 0), (34, .iconst 0, 1, [], 0, 0), (35, .ireturn, 1, [], 0, 0), (36, .aload_n 0, 1, [], 0, 0), (37, .iload_n 2, 1, [], 0, 0), (38, .invokevirtual 44, 3, [], 20, 0), (41, .aload_n 1, 1, [], 0, 0), (42, .iload_n 2, 1, [], 0, 0), (43, .invokevirtual 44, 3, [], 20, 0), (46, .if_icmp .eq 5, 3, [], 0, 0), (49, .iconst 0, 1, [], 0, 0), (50, .ireturn, 1, [], 0, 0), (51, .aload_n 0, 1, [], 0, 0), (52, .iload_n 2, 1, [], 0, 0), (53, .invokevirtual 47, 3, [], 21, 0), (56, .aload_n 1, 1, [], 0, 0), (57, .iload_n 2, 1, [], 0, 0), (58, .invokevirtual 47, 3, [], 21, 0), (61, .if_icmp .eq 5, 3, [], 0, 0), (64, .iconst 0, 1, [], 0, 0), (65, .ireturn, 1, [], 0, 0), (66, .iinc 2 1, 3, [], 0, 0), (69, .goto (-54), 3, [], 0, 0), (72, .iconst 0, 1, [], 0, 0), (73, .istore_n 2, 1, [], 0, 0), (74, .iload_n 2, 1, [false, false, false, true], 0, 0), (75, .iconst 3, 1, [], 0, 0), (76, .if_icmp .ge 40, 3, [], 0, 0), (79, .iconst 0, 1, [], 0, 0), (80, .istore_n 3, 1, [], 0, 0), (81, .iload_n 3, 1, [], 0, 0), (82, .bipush 32, 2, [], 0, 0), (84, .if_icmp .ge 26, 3, [], 0, 0), (87, .aload_n 0, 1, [], 0, 0), (88, .iload_n 2, 1, [], 0, 0), (89, .iload_n 3, 1, [], 0, 0), (90, .invokevirtual 50, 3, [], 22, 0), (93, .aload_n 1, 1, [], 0, 0), (94, .iload_n 2, 1, [], 0, 0), (95, .iload_n 3, 1, [], 0, 0), (96, .invokevirtual 50, 3, [], 22, 0), (99, .if_icmp .eq 5, 3, [], 0, 0), (102, .iconst 0, 1, [], 0, 0), (103, .ireturn, 1, [], 0, 0), (104, .iinc 3 1, 3, [], 0, 0), (107, .goto (-26), 3, [], 0, 0), (110, .iinc 2 1, 3, [], 0, 0), (113, .goto (-39), 3, [], 0, 0), (116, .iconst 1, 1, [], 0, 0), (117, .ireturn, 1, [], 0, 0)])
def d_17 : MD := (⟨"RoomPlanner", "activeCount", "()I"⟩, prog_1_method_12_code, 1, some .int, 3, 0, 0, 0, 0, [(0, .aload_n 0, 1, [], 0, 0), (1, .getfield 75, 3, [], 13, 0), (4, .ireturn, 1, [], 0, 0)])
def d_18 : MD := (⟨"RoomPlanner", "stayType", "(I)I"⟩, prog_1_method_9_code, 2, some .int, 3, 1, 0, 1, 13, [(0, .aload_n 0, 1, [], 0, 0), (1, .iload_n 1, 1, [], 0, 0), (2, .invokevirtual 93, 3, [], 19, 0), (5, .ifCond .ne 5, 3, [], 0, 0), (8, .iconst (-1), 1, [], 0, 0), (9, .ireturn, 1, [], 0, 0), (10, .aload_n 0, 1, [], 0, 0), (11, .getfield 23, 3, [], 4, 0), (14, .iload_n 1, 1, [], 0, 0), (15, .iaload, 1, [], 0, 0), (16, .ireturn, 1, [], 0, 0)])
def d_19 : MD := (⟨"RoomPlanner", "isActiveStay", "(I)Z"⟩, prog_1_method_26_code, 2, some .boolean, 2, 1, 0, 0, 0, [(0, .iload_n 1, 1, [], 0, 0), (1, .ifCond .lt 9, 3, [], 0, 0), (4, .iload_n 1, 1, [], 0, 0), (5, .bipush 32, 2, [], 0, 0), (7, .if_icmp .lt 5, 3, [], 0, 0), (10, .iconst 0, 1, [], 0, 0), (11, .ireturn, 1, [], 0, 0), (12, .aload_n 0, 1, [], 0, 0), (13, .getfield 19, 3, [], 3, 0), (16, .iload_n 1, 1, [], 0, 0), (17, .baload, 1, [], 0, 0), (18, .ireturn, 1, [], 0, 0)])
def d_20 : MD := (⟨"RoomPlanner", "stayArrive", "(I)I"⟩, prog_1_method_10_code, 2, some .int, 3, 1, 0, 1, 13, [(0, .aload_n 0, 1, [], 0, 0), (1, .iload_n 1, 1, [], 0, 0), (2, .invokevirtual 93, 3, [], 19, 0), (5, .ifCond .ne 5, 3, [], 0, 0), (8, .iconst (-1), 1, [], 0, 0), (9, .ireturn, 1, [], 0, 0), (10, .aload_n 0, 1, [], 0, 0), (11, .getfield 26, 3, [], 5, 0), (14, .iload_n 1, 1, [], 0, 0), (15, .iaload, 1, [], 0, 0), (16, .ireturn, 1, [], 0, 0)])
def d_21 : MD := (⟨"RoomPlanner", "stayNights", "(I)I"⟩, prog_1_method_11_code, 2, some .int, 3, 1, 0, 1, 13, [(0, .aload_n 0, 1, [], 0, 0), (1, .iload_n 1, 1, [], 0, 0), (2, .invokevirtual 93, 3, [], 19, 0), (5, .ifCond .ne 5, 3, [], 0, 0), (8, .iconst (-1), 1, [], 0, 0), (9, .ireturn, 1, [], 0, 0), (10, .aload_n 0, 1, [], 0, 0), (11, .getfield 29, 3, [], 6, 0), (14, .iload_n 1, 1, [], 0, 0), (15, .iaload, 1, [], 0, 0), (16, .ireturn, 1, [], 0, 0)])
def d_22 : MD := (⟨"RoomPlanner", "occupancy", "(II)I"⟩, prog_1_method_8_code, 3, some .int, 3, 2, 0, 2, 29, [(0, .aload_n 0, 1, [], 0, 0), (1, .iload_n 1, 1, [], 0, 0), (2, .invokevirtual 108, 3, [], 13, 0), (5, .ifCond .ne 5, 3, [], 0, 0), (8, .iconst (-1), 1, [], 0, 0), (9, .ireturn, 1, [], 0, 0), (10, .aload_n 0, 1, [], 0, 0), (11, .iload_n 2, 1, [], 0, 0), (12, .invokevirtual 111, 3, [], 14, 0), (15, .ifCond .ne 6, 3, [], 0, 0), (18, .bipush (-2), 2, [], 0, 0), (20, .ireturn, 1, [], 0, 0), (21, .aload_n 0, 1, [], 0, 0), (22, .iload_n 1, 1, [], 0, 0), (23, .iload_n 2, 1, [], 0, 0), (24, .invokevirtual 121, 3, [], 23, 0), (27, .ireturn, 1, [], 0, 0)])
def d_23 : MD := (⟨"RoomPlanner", "exactAt", "(II)I"⟩, prog_1_method_37_code, 3, some .int, 2, 2, 0, 1, 15, [(0, .aload_n 0, 1, [], 0, 0), (1, .iload_n 1, 1, [], 0, 0), (2, .invokevirtual 108, 3, [], 13, 0), (5, .ifCond .eq 11, 3, [], 0, 0), (8, .aload_n 0, 1, [], 0, 0), (9, .iload_n 2, 1, [], 0, 0), (10, .invokevirtual 111, 3, [], 14, 0), (13, .ifCond .ne 5, 3, [], 0, 0), (16, .iconst 0, 1, [], 0, 0), (17, .ireturn, 1, [], 0, 0), (18, .aload_n 0, 1, [], 0, 0), (19, .getfield 32, 3, [], 7, 0), (22, .aload_n 0, 1, [], 0, 0), (23, .iload_n 1, 1, [], 0, 0), (24, .iload_n 2, 1, [], 0, 0), (25, .invokevirtual 149, 3, [], 24, 0), (28, .iaload, 1, [], 0, 0), (29, .ireturn, 1, [], 0, 0)])
def d_24 : MD := (⟨"RoomPlanner", "countIndex", "(II)I"⟩, prog_1_method_36_code, 3, some .int, 2, 2, 0, 0, 0, [(0, .iload_n 1, 1, [], 0, 0), (1, .bipush 32, 2, [], 0, 0), (3, .imul, 1, [], 0, 0), (4, .iload_n 2, 1, [], 0, 0), (5, .iadd, 1, [], 0, 0), (6, .ireturn, 1, [], 0, 0)])
def d_25 : MD := (⟨"RoomPlanner", "fitsWith", "(IIII)Z"⟩, prog_1_method_44_code, 7, some .boolean, 2, 4, 0, 4, 62, [(0, .aload_n 0, 1, [], 0, 0), (1, .iload_n 3, 1, [], 0, 0), (2, .iload 4, 2, [], 0, 0), (4, .invokevirtual 152, 3, [], 26, 0), (7, .istore 5, 2, [], 0, 0), (9, .iload_n 3, 1, [], 0, 0), (10, .istore 6, 2, [], 0, 0), (12, .iload 6, 2, [false, false, false, true, true], 0, 0), (14, .ifCond .lt 29, 3, [], 0, 0), (17, .iload 6, 2, [], 0, 0), (19, .iload 5, 2, [], 0, 0), (21, .if_icmp .ge 22, 3, [], 0, 0), (24, .aload_n 0, 1, [], 0, 0), (25, .iload_n 1, 1, [], 0, 0), (26, .iload_n 2, 1, [], 0, 0), (27, .iload 6, 2, [], 0, 0), (29, .invokevirtual 170, 3, [], 27, 0), (32, .ifCond .ne 5, 3, [], 0, 0), (35, .iconst 0, 1, [], 0, 0), (36, .ireturn, 1, [], 0, 0), (37, .iinc 6 1, 3, [], 0, 0), (40, .goto (-28), 3, [], 0, 0), (43, .iconst 1, 1, [], 0, 0), (44, .ireturn, 1, [], 0, 0)])
def d_26 : MD := (⟨"RoomPlanner", "endOf", "(II)I"⟩, prog_1_method_34_code, 4, some .int, 2, 2, 0, 0, 0, [(0, .iload_n 1, 1, [], 0, 0), (1, .iload_n 2, 1, [], 0, 0), (2, .iadd, 1, [], 0, 0), (3, .istore_n 3, 1, [], 0, 0), (4, .iload_n 3, 1, [], 0, 0), (5, .bipush 32, 2, [], 0, 0), (7, .if_icmp .le 6, 3, [], 0, 0), (10, .bipush 32, 2, [], 0, 0), (12, .ireturn, 1, [], 0, 0), (13, .iload_n 3, 1, [], 0, 0), (14, .ireturn, 1, [], 0, 0)])
def d_27 : MD := (⟨"RoomPlanner", "nightFits", "(III)Z"⟩, prog_1_method_43_code, 8, some .boolean, 2, 3, 0, 3, 43, [(0, .iconst 0, 1, [], 0, 0), (1, .istore 4, 2, [], 0, 0), (3, .iload 4, 2, [false, false, false, false, false, true, true, true], 0, 0), (5, .iload_n 2, 1, [], 0, 0), (6, .if_icmp .gt 57, 3, [], 0, 0), (9, .iload 4, 2, [], 0, 0), (11, .iconst 3, 1, [], 0, 0), (12, .if_icmp .ge 51, 3, [], 0, 0), (15, .aload_n 0, 1, [], 0, 0), (16, .iload 4, 2, [], 0, 0), (18, .iload_n 3, 1, [], 0, 0), (19, .invokevirtual 158, 3, [], 28, 0), (22, .istore 5, 2, [], 0, 0), (24, .aload_n 0, 1, [], 0, 0), (25, .iload_n 1, 1, [], 0, 0), (26, .iload 4, 2, [], 0, 0), (28, .iload_n 3, 1, [], 0, 0), (29, .invokevirtual 167, 3, [], 29, 0), (32, .istore 6, 2, [], 0, 0), (34, .iload 5, 2, [], 0, 0), (36, .iload 6, 2, [], 0, 0), (38, .isub, 1, [], 0, 0), (39, .iconst 1, 1, [], 0, 0), (40, .iadd, 1, [], 0, 0), (41, .istore 7, 2, [], 0, 0), (43, .iload 7, 2, [], 0, 0), (45, .aload_n 0, 1, [], 0, 0), (46, .getfield 13, 3, [], 1, 0), (49, .iload 4, 2, [], 0, 0), (51, .iaload, 1, [], 0, 0), (52, .if_icmp .le 5, 3, [], 0, 0), (55, .iconst 0, 1, [], 0, 0), (56, .ireturn, 1, [], 0, 0), (57, .iinc 4 1, 3, [], 0, 0), (60, .goto (-57), 3, [], 0, 0), (63, .iconst 1, 1, [], 0, 0), (64, .ireturn, 1, [], 0, 0)])
def d_28 : MD := (⟨"RoomPlanner", "atLeastAt", "(II)I"⟩, prog_1_method_38_code, 3, some .int, 2, 2, 0, 1, 15, [(0, .aload_n 0, 1, [], 0, 0), (1, .iload_n 1, 1, [], 0, 0), (2, .invokevirtual 108, 3, [], 13, 0), (5, .ifCond .eq 11, 3, [], 0, 0), (8, .aload_n 0, 1, [], 0, 0), (9, .iload_n 2, 1, [], 0, 0), (10, .invokevirtual 111, 3, [], 14, 0), (13, .ifCond .ne 5, 3, [], 0, 0), (16, .iconst 0, 1, [], 0, 0), (17, .ireturn, 1, [], 0, 0), (18, .aload_n 0, 1, [], 0, 0), (19, .getfield 35, 3, [], 8, 0), (22, .aload_n 0, 1, [], 0, 0), (23, .iload_n 1, 1, [], 0, 0), (24, .iload_n 2, 1, [], 0, 0), (25, .invokevirtual 149, 3, [], 24, 0), (28, .iaload, 1, [], 0, 0), (29, .ireturn, 1, [], 0, 0)])
def d_29 : MD := (⟨"RoomPlanner", "exclusion", "(III)I"⟩, prog_1_method_42_code, 4, some .int, 2, 3, 0, 2, 28, [(0, .aload_n 0, 1, [], 0, 0), (1, .iload_n 1, 1, [], 0, 0), (2, .invokevirtual 93, 3, [], 19, 0), (5, .ifCond .ne 5, 3, [], 0, 0), (8, .iconst 0, 1, [], 0, 0), (9, .ireturn, 1, [], 0, 0), (10, .aload_n 0, 1, [], 0, 0), (11, .getfield 23, 3, [], 4, 0), (14, .iload_n 1, 1, [], 0, 0), (15, .iaload, 1, [], 0, 0), (16, .iload_n 2, 1, [], 0, 0), (17, .if_icmp .ge 5, 3, [], 0, 0), (20, .iconst 0, 1, [], 0, 0), (21, .ireturn, 1, [], 0, 0), (22, .aload_n 0, 1, [], 0, 0), (23, .iload_n 1, 1, [], 0, 0), (24, .iload_n 3, 1, [], 0, 0), (25, .invokevirtual 164, 3, [], 43, 0), (28, .ifCond .eq 5, 3, [], 0, 0), (31, .iconst 1, 1, [], 0, 0), (32, .ireturn, 1, [], 0, 0), (33, .iconst 0, 1, [], 0, 0), (34, .ireturn, 1, [], 0, 0)])
def d_30 : MD := (⟨"RoomPlanner", "lowestInactiveSlot", "()I"⟩, prog_1_method_29_code, 2, some .int, 2, 0, 0, 0, 0, [(0, .iconst 0, 1, [], 0, 0), (1, .istore_n 1, 1, [], 0, 0), (2, .iload_n 1, 1, [], 0, 0), (3, .bipush 32, 2, [], 0, 0), (5, .if_icmp .ge 20, 3, [], 0, 0), (8, .aload_n 0, 1, [], 0, 0), (9, .getfield 19, 3, [], 3, 0), (12, .iload_n 1, 1, [], 0, 0), (13, .baload, 1, [], 0, 0), (14, .ifCond .ne 5, 3, [], 0, 0), (17, .iload_n 1, 1, [], 0, 0), (18, .ireturn, 1, [], 0, 0), (19, .iinc 1 1, 3, [], 0, 0), (22, .goto (-20), 3, [], 0, 0), (25, .iconst (-1), 1, [], 0, 0), (26, .ireturn, 1, [], 0, 0)])
def d_31 : MD := (⟨"RoomPlanner", "activateStay", "(IIII)V"⟩, prog_1_method_31_code, 5, none, 2, 4, 0, 2, 34, [(0, .aload_n 0, 1, [], 0, 0), (1, .iload_n 1, 1, [], 0, 0), (2, .iload_n 2, 1, [], 0, 0), (3, .iload_n 3, 1, [], 0, 0), (4, .iload 4, 2, [], 0, 0), (6, .invokevirtual 101, 3, [], 32, 0), (9, .aload_n 0, 1, [], 0, 0), (10, .getfield 19, 3, [], 3, 0), (13, .iload_n 1, 1, [], 0, 0), (14, .iconst 1, 1, [], 0, 0), (15, .bastore, 1, [], 0, 0), (16, .aload_n 0, 1, [], 0, 0), (17, .dup, 1, [], 0, 0), (18, .getfield 75, 3, [], 13, 0), (21, .iconst 1, 1, [], 0, 0), (22, .iadd, 1, [], 0, 0), (23, .putfield 75, 3, [], 13, 0), (26, .aload_n 0, 1, [], 0, 0), (27, .iload_n 1, 1, [], 0, 0), (28, .iconst 1, 1, [], 0, 0), (29, .invokevirtual 97, 3, [], 33, 0), (32, .return_, 1, [], 0, 0)])
def d_32 : MD := (⟨"RoomPlanner", "storeStay", "(IIII)V"⟩, prog_1_method_30_code, 5, none, 2, 4, 0, 0, 0, [(0, .aload_n 0, 1, [], 0, 0), (1, .getfield 23, 3, [], 4, 0), (4, .iload_n 1, 1, [], 0, 0), (5, .iload_n 2, 1, [], 0, 0), (6, .iastore, 1, [], 0, 0), (7, .aload_n 0, 1, [], 0, 0), (8, .getfield 26, 3, [], 5, 0), (11, .iload_n 1, 1, [], 0, 0), (12, .iload_n 3, 1, [], 0, 0), (13, .iastore, 1, [], 0, 0), (14, .aload_n 0, 1, [], 0, 0), (15, .getfield 29, 3, [], 6, 0), (18, .iload_n 1, 1, [], 0, 0), (19, .iload 4, 2, [], 0, 0), (21, .iastore, 1, [], 0, 0), (22, .return_, 1, [], 0, 0)])
def d_33 : MD := (⟨"RoomPlanner", "adjustCoverage", "(II)V"⟩, prog_1_method_39_code, 8, none, 2, 2, 0, 1, 15, [(0, .iload_n 1, 1, [], 0, 0), (1, .ifCond .lt 9, 3, [], 0, 0), (4, .iload_n 1, 1, [], 0, 0), (5, .bipush 32, 2, [], 0, 0), (7, .if_icmp .lt 4, 3, [], 0, 0), (10, .return_, 1, [], 0, 0), (11, .aload_n 0, 1, [], 0, 0), (12, .getfield 23, 3, [], 4, 0), (15, .iload_n 1, 1, [], 0, 0), (16, .iaload, 1, [], 0, 0), (17, .istore_n 3, 1, [], 0, 0), (18, .aload_n 0, 1, [], 0, 0), (19, .iload_n 3, 1, [], 0, 0), (20, .invokevirtual 108, 3, [], 13, 0), (23, .ifCond .ne 4, 3, [], 0, 0), (26, .return_, 1, [], 0, 0), (27, .aload_n 0, 1, [], 0, 0), (28, .getfield 26, 3, [], 5, 0), (31, .iload_n 1, 1, [], 0, 0), (32, .iaload, 1, [], 0, 0), (33, .istore 4, 2, [], 0, 0), (35, .aload_n 0, 1, [], 0, 0), (36, .iload 4, 2, [], 0, 0), (38, .aload_n 0, 1, [], 0, 0), (39, .getfield 29, 3, [], 6, 0), (42, .iload_n 1, 1, [], 0, 0), (43, .iaload, 1, [], 0, 0), (44, .invokevirtual 152, 3, [], 26, 0), (47, .istore 5, 2, [], 0, 0), (49, .iload 4, 2, [], 0, 0), (51, .istore 6, 2, [], 0, 0), (53, .iload 6, 2, [false, true, false, false, true, false, false, true], 0, 0), (55, .ifCond .lt 64, 3, [], 0, 0), (58, .iload 6, 2, [], 0, 0), (60, .iload 5, 2, [], 0, 0), (62, .if_icmp .ge 57, 3, [], 0, 0), (65, .aload_n 0, 1, [], 0, 0), (66, .getfield 32, 3, [], 7, 0), (69, .aload_n 0, 1, [], 0, 0), (70, .iload_n 3, 1, [], 0, 0), (71, .iload 6, 2, [], 0, 0), (73, .invokevirtual 149, 3, [], 24, 0), (76, .dup2, 1, [], 0, 0), (77, .iaload, 1, [], 0, 0), (78, .iload_n 2, 1, [], 0, 0), (79, .iadd, 1, [], 0, 0), (80, .iastore, 1, [], 0, 0), (81, .iconst 0, 1, [], 0, 0), (82, .istore 7, 2, [], 0, 0), (84, .iload 7, 2, [false, true, false, false, true], 0, 0), (86, .iload_n 3, 1, [], 0, 0), (87, .if_icmp .gt 26, 3, [], 0, 0), (90, .aload_n 0, 1, [], 0, 0), (91, .getfield 35, 3, [], 8, 0), (94, .aload_n 0, 1, [], 0, 0), (95, .iload 7, 2, [], 0, 0), (97, .iload 6, 2, [], 0, 0), (99, .invokevirtual 149, 3, [], 24, 0), (102, .dup2, 1, [], 0, 0), (103, .iaload, 1, [], 0, 0), (104, .iload_n 2, 1, [], 0, 0), (105, .iadd, 1, [], 0, 0), (106, .iastore, 1, [], 0, 0), (107, .iinc 7 1, 3, [], 0, 0), (110, .goto (-26), 3, [], 0, 0), (113, .iinc 6 1, 3, [], 0, 0), (116, .goto (-63), 3, [], 0, 0), (119, .return_, 1, [], 0, 0)])
def d_34 : MD := (⟨"RoomPlanner", "cancel", "(I)I"⟩, prog_1_method_4_code, 2, some .int, 3, 1, 0, 3, 47, [(0, .aload_n 0, 1, [], 0, 0), (1, .iload_n 1, 1, [], 0, 0), (2, .invokevirtual 93, 3, [], 19, 0), (5, .ifCond .ne 6, 3, [], 0, 0), (8, .bipush (-5), 2, [], 0, 0), (10, .ireturn, 1, [], 0, 0), (11, .aload_n 0, 1, [], 0, 0), (12, .iload_n 1, 1, [], 0, 0), (13, .invokevirtual 104, 3, [], 35, 0), (16, .aload_n 0, 1, [], 0, 0), (17, .invokevirtual 90, 3, [], 9, 0), (20, .iconst 0, 1, [], 0, 0), (21, .ireturn, 1, [], 0, 0)])
def d_35 : MD := (⟨"RoomPlanner", "deactivateStay", "(I)V"⟩, prog_1_method_32_code, 2, none, 2, 1, 0, 2, 34, [(0, .aload_n 0, 1, [], 0, 0), (1, .iload_n 1, 1, [], 0, 0), (2, .iconst (-1), 1, [], 0, 0), (3, .invokevirtual 97, 3, [], 33, 0), (6, .aload_n 0, 1, [], 0, 0), (7, .getfield 19, 3, [], 3, 0), (10, .iload_n 1, 1, [], 0, 0), (11, .iconst 0, 1, [], 0, 0), (12, .bastore, 1, [], 0, 0), (13, .aload_n 0, 1, [], 0, 0), (14, .iload_n 1, 1, [], 0, 0), (15, .iconst 0, 1, [], 0, 0), (16, .iconst 0, 1, [], 0, 0), (17, .iconst 0, 1, [], 0, 0), (18, .invokevirtual 101, 3, [], 32, 0), (21, .aload_n 0, 1, [], 0, 0), (22, .dup, 1, [], 0, 0), (23, .getfield 75, 3, [], 13, 0), (26, .iconst 1, 1, [], 0, 0), (27, .isub, 1, [], 0, 0), (28, .putfield 75, 3, [], 13, 0), (31, .return_, 1, [], 0, 0)])
def d_36 : MD := (⟨"RoomPlanner", "amend", "(IIII)I"⟩, prog_1_method_3_code, 6, some .int, 3, 4, 0, 5, 80, [(0, .aload_n 0, 1, [], 0, 0), (1, .iload_n 1, 1, [], 0, 0), (2, .invokevirtual 93, 3, [], 19, 0), (5, .ifCond .ne 6, 3, [], 0, 0), (8, .bipush (-5), 2, [], 0, 0), (10, .ireturn, 1, [], 0, 0), (11, .aload_n 0, 1, [], 0, 0), (12, .iload_n 2, 1, [], 0, 0), (13, .iload_n 3, 1, [], 0, 0), (14, .iload 4, 2, [], 0, 0), (16, .invokevirtual 71, 3, [], 12, 0), (19, .istore 5, 2, [], 0, 0), (21, .iload 5, 2, [], 0, 0), (23, .ifCond .eq 6, 3, [], 0, 0), (26, .iload 5, 2, [], 0, 0), (28, .ireturn, 1, [], 0, 0), (29, .aload_n 0, 1, [], 0, 0), (30, .iload_n 1, 1, [], 0, 0), (31, .iload_n 2, 1, [], 0, 0), (32, .iload_n 3, 1, [], 0, 0), (33, .iload 4, 2, [], 0, 0), (35, .invokevirtual 78, 3, [], 25, 0), (38, .ifCond .ne 6, 3, [], 0, 0), (41, .bipush (-4), 2, [], 0, 0), (43, .ireturn, 1, [], 0, 0), (44, .aload_n 0, 1, [], 0, 0), (45, .iload_n 1, 1, [], 0, 0), (46, .iconst (-1), 1, [], 0, 0), (47, .invokevirtual 97, 3, [], 33, 0), (50, .aload_n 0, 1, [], 0, 0), (51, .iload_n 1, 1, [], 0, 0), (52, .iload_n 2, 1, [], 0, 0), (53, .iload_n 3, 1, [], 0, 0), (54, .iload 4, 2, [], 0, 0), (56, .invokevirtual 101, 3, [], 32, 0), (59, .aload_n 0, 1, [], 0, 0), (60, .iload_n 1, 1, [], 0, 0), (61, .iconst 1, 1, [], 0, 0), (62, .invokevirtual 97, 3, [], 33, 0), (65, .aload_n 0, 1, [], 0, 0), (66, .invokevirtual 90, 3, [], 9, 0), (69, .iconst 0, 1, [], 0, 0), (70, .ireturn, 1, [], 0, 0)])
def d_37 : MD := (⟨"RoomPlanner", "appendToOrder", "(I)V"⟩, prog_1_method_51_code, 2, none, 2, 1, 0, 0, 0, [(0, .aload_n 0, 1, [], 0, 0), (1, .getfield 127, 3, [], 14, 0), (4, .ifCond .lt 12, 3, [], 0, 0), (7, .aload_n 0, 1, [], 0, 0), (8, .getfield 127, 3, [], 14, 0), (11, .bipush 32, 2, [], 0, 0), (13, .if_icmp .lt 4, 3, [], 0, 0), (16, .return_, 1, [], 0, 0), (17, .aload_n 0, 1, [], 0, 0), (18, .getfield 44, 3, [], 11, 0), (21, .aload_n 0, 1, [], 0, 0), (22, .getfield 127, 3, [], 14, 0), (25, .iload_n 1, 1, [], 0, 0), (26, .iastore, 1, [], 0, 0), (27, .aload_n 0, 1, [], 0, 0), (28, .dup, 1, [], 0, 0), (29, .getfield 127, 3, [], 14, 0), (32, .iconst 1, 1, [], 0, 0), (33, .iadd, 1, [], 0, 0), (34, .putfield 127, 3, [], 14, 0), (37, .return_, 1, [], 0, 0)])
def d_38 : MD := (⟨"RoomPlanner", "placeStay", "(I)Z"⟩, prog_1_method_52_code, 6, some .boolean, 2, 1, 0, 3, 46, [(0, .aload_n 0, 1, [], 0, 0), (1, .iload_n 1, 1, [], 0, 0), (2, .invokevirtual 93, 3, [], 19, 0), (5, .ifCond .ne 5, 3, [], 0, 0), (8, .iconst 0, 1, [], 0, 0), (9, .ireturn, 1, [], 0, 0), (10, .aload_n 0, 1, [], 0, 0), (11, .getfield 23, 3, [], 4, 0), (14, .iload_n 1, 1, [], 0, 0), (15, .iaload, 1, [], 0, 0), (16, .istore_n 2, 1, [], 0, 0), (17, .aload_n 0, 1, [], 0, 0), (18, .iload_n 2, 1, [], 0, 0), (19, .invokevirtual 108, 3, [], 13, 0), (22, .ifCond .ne 5, 3, [], 0, 0), (25, .iconst 0, 1, [], 0, 0), (26, .ireturn, 1, [], 0, 0), (27, .aload_n 0, 1, [], 0, 0), (28, .getfield 26, 3, [], 5, 0), (31, .iload_n 1, 1, [], 0, 0), (32, .iaload, 1, [], 0, 0), (33, .istore_n 3, 1, [], 0, 0), (34, .aload_n 0, 1, [], 0, 0), (35, .getfield 29, 3, [], 6, 0), (38, .iload_n 1, 1, [], 0, 0), (39, .iaload, 1, [], 0, 0), (40, .istore 4, 2, [], 0, 0), (42, .aload_n 0, 1, [], 0, 0), (43, .getfield 16, 3, [], 2, 0), (46, .iload_n 2, 1, [], 0, 0), (47, .iaload, 1, [], 0, 0), (48, .istore 5, 2, [], 0, 0), (50, .iload 5, 2, [false, false, true], 0, 0), (52, .aload_n 0, 1, [], 0, 0), (53, .getfield 142, 3, [], 12, 0), (56, .if_icmp .ge 48, 3, [], 0, 0), (59, .iload 5, 2, [], 0, 0), (61, .bipush 24, 2, [], 0, 0), (63, .if_icmp .ge 41, 3, [], 0, 0), (66, .aload_n 0, 1, [], 0, 0), (67, .iload 5, 2, [], 0, 0), (69, .iload_n 3, 1, [], 0, 0), (70, .iload 4, 2, [], 0, 0), (72, .invokevirtual 180, 3, [], 39, 0), (75, .ifCond .eq 23, 3, [], 0, 0), (78, .aload_n 0, 1, [false, false, true], 0, 0), (79, .iload 5, 2, [], 0, 0), (81, .iload_n 1, 1, [], 0, 0), (82, .iload_n 3, 1, [], 0, 0), (83, .iload 4, 2, [], 0, 0), (85, .invokevirtual 183, 3, [], 42, 0), (88, .aload_n 0, 1, [], 0, 0), (89, .getfield 38, 3, [], 9, 0), (92, .iload_n 1, 1, [], 0, 0), (93, .iload 5, 2, [], 0, 0), (95, .iastore, 1, [], 0, 0), (96, .iconst 1, 1, [], 0, 0), (97, .ireturn, 1, [], 0, 0), (98, .iinc 5 1, 3, [], 0, 0), (101, .goto (-51), 3, [], 0, 0), (104, .iconst 0, 1, [], 0, 0), (105, .ireturn, 1, [], 0, 0)])
def d_39 : MD := (⟨"RoomPlanner", "roomIsFree", "(III)Z"⟩, prog_1_method_53_code, 6, some .boolean, 2, 3, 0, 2, 29, [(0, .aload_n 0, 1, [], 0, 0), (1, .iload_n 2, 1, [], 0, 0), (2, .iload_n 3, 1, [], 0, 0), (3, .invokevirtual 152, 3, [], 26, 0), (6, .istore 4, 2, [], 0, 0), (8, .iload_n 2, 1, [], 0, 0), (9, .istore 5, 2, [], 0, 0), (11, .iload 5, 2, [false, false, true, true], 0, 0), (13, .ifCond .lt 29, 3, [], 0, 0), (16, .iload 5, 2, [], 0, 0), (18, .iload 4, 2, [], 0, 0), (20, .if_icmp .ge 22, 3, [], 0, 0), (23, .aload_n 0, 1, [], 0, 0), (24, .iload_n 1, 1, [], 0, 0), (25, .iload 5, 2, [], 0, 0), (27, .invokevirtual 136, 3, [], 40, 0), (30, .iconst (-1), 1, [], 0, 0), (31, .if_icmp .eq 5, 3, [], 0, 0), (34, .iconst 0, 1, [], 0, 0), (35, .ireturn, 1, [], 0, 0), (36, .iinc 5 1, 3, [], 0, 0), (39, .goto (-28), 3, [], 0, 0), (42, .iconst 1, 1, [], 0, 0), (43, .ireturn, 1, [], 0, 0)])
def d_40 : MD := (⟨"RoomPlanner", "gridAt", "(II)I"⟩, prog_1_method_49_code, 3, some .int, 2, 2, 0, 1, 15, [(0, .iload_n 1, 1, [], 0, 0), (1, .ifCond .lt 17, 3, [], 0, 0), (4, .iload_n 1, 1, [], 0, 0), (5, .bipush 24, 2, [], 0, 0), (7, .if_icmp .ge 11, 3, [], 0, 0), (10, .aload_n 0, 1, [], 0, 0), (11, .iload_n 2, 1, [], 0, 0), (12, .invokevirtual 111, 3, [], 14, 0), (15, .ifCond .ne 5, 3, [], 0, 0), (18, .iconst (-1), 1, [], 0, 0), (19, .ireturn, 1, [], 0, 0), (20, .aload_n 0, 1, [], 0, 0), (21, .getfield 41, 3, [], 10, 0), (24, .aload_n 0, 1, [], 0, 0), (25, .iload_n 1, 1, [], 0, 0), (26, .iload_n 2, 1, [], 0, 0), (27, .invokevirtual 174, 3, [], 41, 0), (30, .iaload, 1, [], 0, 0), (31, .ireturn, 1, [], 0, 0)])
def d_41 : MD := (⟨"RoomPlanner", "gridIndex", "(II)I"⟩, prog_1_method_48_code, 3, some .int, 2, 2, 0, 0, 0, [(0, .iload_n 1, 1, [], 0, 0), (1, .bipush 32, 2, [], 0, 0), (3, .imul, 1, [], 0, 0), (4, .iload_n 2, 1, [], 0, 0), (5, .iadd, 1, [], 0, 0), (6, .ireturn, 1, [], 0, 0)])
def d_42 : MD := (⟨"RoomPlanner", "markRoom", "(IIII)V"⟩, prog_1_method_54_code, 7, none, 2, 4, 0, 1, 15, [(0, .iload_n 1, 1, [], 0, 0), (1, .ifCond .lt 9, 3, [], 0, 0), (4, .iload_n 1, 1, [], 0, 0), (5, .bipush 24, 2, [], 0, 0), (7, .if_icmp .lt 4, 3, [], 0, 0), (10, .return_, 1, [], 0, 0), (11, .aload_n 0, 1, [], 0, 0), (12, .iload_n 3, 1, [], 0, 0), (13, .iload 4, 2, [], 0, 0), (15, .invokevirtual 152, 3, [], 26, 0), (18, .istore 5, 2, [], 0, 0), (20, .iload_n 3, 1, [], 0, 0), (21, .istore 6, 2, [], 0, 0), (23, .iload 6, 2, [false, false, false, true, true], 0, 0), (25, .ifCond .lt 29, 3, [], 0, 0), (28, .iload 6, 2, [], 0, 0), (30, .iload 5, 2, [], 0, 0), (32, .if_icmp .ge 22, 3, [], 0, 0), (35, .aload_n 0, 1, [], 0, 0), (36, .getfield 41, 3, [], 10, 0), (39, .aload_n 0, 1, [], 0, 0), (40, .iload_n 1, 1, [], 0, 0), (41, .iload 6, 2, [], 0, 0), (43, .invokevirtual 174, 3, [], 41, 0), (46, .iload_n 2, 1, [], 0, 0), (47, .iastore, 1, [], 0, 0), (48, .iinc 6 1, 3, [], 0, 0), (51, .goto (-28), 3, [], 0, 0), (54, .return_, 1, [], 0, 0)])
def d_43 : MD := (⟨"RoomPlanner", "coversNight", "(II)Z"⟩, prog_1_method_33_code, 4, some .boolean, 2, 2, 0, 1, 13, [(0, .aload_n 0, 1, [], 0, 0), (1, .iload_n 1, 1, [], 0, 0), (2, .invokevirtual 93, 3, [], 19, 0), (5, .ifCond .ne 5, 3, [], 0, 0), (8, .iconst 0, 1, [], 0, 0), (9, .ireturn, 1, [], 0, 0), (10, .aload_n 0, 1, [], 0, 0), (11, .getfield 26, 3, [], 5, 0), (14, .iload_n 1, 1, [], 0, 0), (15, .iaload, 1, [], 0, 0), (16, .istore_n 3, 1, [], 0, 0), (17, .iload_n 2, 1, [], 0, 0), (18, .iload_n 3, 1, [], 0, 0), (19, .if_icmp .lt 19, 3, [], 0, 0), (22, .iload_n 2, 1, [], 0, 0), (23, .iload_n 3, 1, [], 0, 0), (24, .isub, 1, [], 0, 0), (25, .aload_n 0, 1, [], 0, 0), (26, .getfield 29, 3, [], 6, 0), (29, .iload_n 1, 1, [], 0, 0), (30, .iaload, 1, [], 0, 0), (31, .if_icmp .ge 7, 3, [], 0, 0), (34, .iconst 1, 1, [], 0, 0), (35, .goto 4, 3, [], 0, 0), (38, .iconst 0, 1, [], 0, 0), (39, .ireturn, 1, [], 0, 0)])
def own_P : PD := ([("RoomPlanner", 17, [("roomsOfType", "[I", (.array .int), true), ("roomsAtLeast", "[I", (.array .int), true), ("firstRoomOfType", "[I", (.array .int), true), ("slotActive", "[Z", (.array .boolean), true), ("slotType", "[I", (.array .int), true), ("slotArrive", "[I", (.array .int), true), ("slotNights", "[I", (.array .int), true), ("exactCount", "[I", (.array .int), true), ("atLeastCount", "[I", (.array .int), true), ("planRoom", "[I", (.array .int), true), ("planGrid", "[I", (.array .int), true), ("planOrder", "[I", (.array .int), true), ("totalRooms", "I", .int, false), ("activeStays", "I", .int, false), ("planOrderLength", "I", .int, false), ("planCurrent", "Z", .boolean, false), ("planUnplaced", "I", .int, false)])], [d_0, d_1, d_2, d_3, d_4, d_5, d_6, d_7, d_8, d_9, d_10, d_11, d_12, d_13, d_14, d_15, d_16, d_17, d_18, d_19, d_20, d_21, d_22, d_23, d_24, d_25, d_26, d_27, d_28, d_29, d_30, d_31, d_32, d_33, d_34, d_35, d_36, d_37, d_38, d_39, d_40, d_41, d_42, d_43], 1)
theorem hm_0 : own_P.mth[0]? = some d_0 := rfl
theorem hm_1 : own_P.mth[1]? = some d_1 := rfl
theorem hm_2 : own_P.mth[2]? = some d_2 := rfl
theorem hm_3 : own_P.mth[3]? = some d_3 := rfl
theorem hm_4 : own_P.mth[4]? = some d_4 := rfl
theorem hm_5 : own_P.mth[5]? = some d_5 := rfl
theorem hm_6 : own_P.mth[6]? = some d_6 := rfl
theorem hm_7 : own_P.mth[7]? = some d_7 := rfl
theorem hm_8 : own_P.mth[8]? = some d_8 := rfl
theorem hm_9 : own_P.mth[9]? = some d_9 := rfl
theorem hm_10 : own_P.mth[10]? = some d_10 := rfl
theorem hm_11 : own_P.mth[11]? = some d_11 := rfl
theorem hm_12 : own_P.mth[12]? = some d_12 := rfl
theorem hm_13 : own_P.mth[13]? = some d_13 := rfl
theorem hm_14 : own_P.mth[14]? = some d_14 := rfl
theorem hm_15 : own_P.mth[15]? = some d_15 := rfl
theorem hm_16 : own_P.mth[16]? = some d_16 := rfl
theorem hm_17 : own_P.mth[17]? = some d_17 := rfl
theorem hm_18 : own_P.mth[18]? = some d_18 := rfl
theorem hm_19 : own_P.mth[19]? = some d_19 := rfl
theorem hm_20 : own_P.mth[20]? = some d_20 := rfl
theorem hm_21 : own_P.mth[21]? = some d_21 := rfl
theorem hm_22 : own_P.mth[22]? = some d_22 := rfl
theorem hm_23 : own_P.mth[23]? = some d_23 := rfl
theorem hm_24 : own_P.mth[24]? = some d_24 := rfl
theorem hm_25 : own_P.mth[25]? = some d_25 := rfl
theorem hm_26 : own_P.mth[26]? = some d_26 := rfl
theorem hm_27 : own_P.mth[27]? = some d_27 := rfl
theorem hm_28 : own_P.mth[28]? = some d_28 := rfl
theorem hm_29 : own_P.mth[29]? = some d_29 := rfl
theorem hm_30 : own_P.mth[30]? = some d_30 := rfl
theorem hm_31 : own_P.mth[31]? = some d_31 := rfl
theorem hm_32 : own_P.mth[32]? = some d_32 := rfl
theorem hm_33 : own_P.mth[33]? = some d_33 := rfl
theorem hm_34 : own_P.mth[34]? = some d_34 := rfl
theorem hm_35 : own_P.mth[35]? = some d_35 := rfl
theorem hm_36 : own_P.mth[36]? = some d_36 := rfl
theorem hm_37 : own_P.mth[37]? = some d_37 := rfl
theorem hm_38 : own_P.mth[38]? = some d_38 := rfl
theorem hm_39 : own_P.mth[39]? = some d_39 := rfl
theorem hm_40 : own_P.mth[40]? = some d_40 := rfl
theorem hm_41 : own_P.mth[41]? = some d_41 := rfl
theorem hm_42 : own_P.mth[42]? = some d_42 := rfl
theorem hm_43 : own_P.mth[43]? = some d_43 := rfl
set_option maxRecDepth 100000 in
theorem own_chk : chk own_P = true := by decide +kernel
def own_ix : List Nat := [1, 2, 11, 13, 15, 18, 20, 22, 24, 26, 28, 30, 32, 34, 44, 50, 60, 62, 64, 5, 2, 4, 38, 2, 36, 37, 42, 2, 40, 41, 48, 2, 46, 47, 54, 2, 52, 53, 58, 2, 56, 57, 68, 67, 66, 73, 2, 70, 72, 71, 77, 2, 75, 76, 81, 2, 79, 80, 86, 2, 83, 85, 84, 90, 2, 88, 89, 94, 2, 92, 93, 98, 2, 96, 97, 102, 2, 100, 101, 105, 67, 104, 110, 2, 107, 109, 108, 115, 2, 112, 114, 113, 119, 2, 117, 118, 124, 2, 121, 123, 122, 129, 2, 126, 128, 127, 134, 2, 131, 133, 132, 138, 2, 136, 137, 142, 2, 140, 141, 146, 2, 144, 145, 150, 2, 148, 149, 154, 2, 152, 153, 158, 2, 156, 157, 162, 2, 160, 161, 166, 2, 164, 165, 170, 2, 168, 169, 174, 2, 172, 173, 178, 2, 176, 177, 183, 2, 180, 182, 181, 187, 2, 185, 186, 192, 2, 189, 191, 190, 196, 2, 194, 195, 200, 2, 198, 199, 204, 2, 202, 203, 208, 2, 206, 207, 212, 2, 210, 211, 216, 2, 214, 215, 220, 2, 218, 219, 0, 3, 0, 3, 65, 65, 82, 111, 179, 103, 6, 7, 8, 9, 10, 9, 12, 9, 14, 16, 17, 9, 19, 9, 21, 9, 23, 9, 25, 9, 27, 9, 29, 9, 31, 9, 33, 10, 35, 10, 35, 10, 35, 39, 45, 51, 55, 61, 63, 10, 10, 10, 12, 12, 12, 14, 14, 14, 43, 17, 19, 21, 23, 49, 25, 27, 29, 33, 31, 59, 82, 188, 179, 69, 74, 55, 78, 59, 33, 197, 63, 61, 61, 59, 17, 21, 193, 87, 49, 143, 163, 167, 74, 91, 95, 99, 106, 106, 111, 111, 120, 120, 125, 125, 130, 130, 49, 116, 19, 17, 116, 21, 116, 23, 91, 95, 135, 91, 95, 25, 139, 147, 151, 155, 159, 12, 91, 95, 27, 139, 116, 19, 217, 17, 171, 17, 49, 49, 175, 19, 21, 23, 19, 91, 21, 23, 147, 25, 139, 27, 139, 116, 184, 74, 175, 17, 171, 49, 49, 116, 87, 143, 175, 171, 175, 74, 59, 59, 33, 59, 59, 59, 116, 19, 91, 21, 23, 14, 43, 201, 213, 29, 147, 205, 95, 31, 209, 147, 31, 209, 116, 21, 23]
set_option maxRecDepth 100000 in
theorem own_words : (wordsOf own_P).map some = own_ix.map fun k => tables_1[k]? := rfl
theorem own_in : ∀ d ∈ wordsOf own_P, d ∈ tables_1 := fun d hd => by
  have h1 : some d ∈ (wordsOf own_P).map some := List.mem_map.mpr ⟨d, hd, rfl⟩
  rw [own_words] at h1
  obtain ⟨k, -, hk⟩ := List.mem_map.mp h1
  exact List.mem_of_getElem? hk
abbrev bk0 (s_roomsOfType : List Int32) (s_roomsAtLeast : List Int32) (s_firstRoomOfType : List Int32) (s_slotActive : List Int32) (s_slotType : List Int32) (s_slotArrive : List Int32) (s_slotNights : List Int32) (s_exactCount : List Int32) (s_atLeastCount : List Int32) (s_planRoom : List Int32) (s_planGrid : List Int32) (s_planOrder : List Int32) (s_totalRooms : Int32) (s_activeStays : Int32) (s_planOrderLength : Int32) (s_planCurrent : Int32) (s_planUnplaced : Int32) (po : List ACell) : List ACell := .inl (0, [.ref 2, .ref 3, .ref 4, .ref 5, .ref 6, .ref 7, .ref 8, .ref 9, .ref 10, .ref 11, .ref 12, .ref 13, .int s_totalRooms, .int s_activeStays, .int s_planOrderLength, .int s_planCurrent, .int s_planUnplaced]) :: .inr (.inl (false, s_roomsOfType)) :: .inr (.inl (false, s_roomsAtLeast)) :: .inr (.inl (false, s_firstRoomOfType)) :: .inr (.inl (true, s_slotActive)) :: .inr (.inl (false, s_slotType)) :: .inr (.inl (false, s_slotArrive)) :: .inr (.inl (false, s_slotNights)) :: .inr (.inl (false, s_exactCount)) :: .inr (.inl (false, s_atLeastCount)) :: .inr (.inl (false, s_planRoom)) :: .inr (.inl (false, s_planGrid)) :: .inr (.inl (false, s_planOrder)) :: po
abbrev bk1 (s_roomsOfType : List Int32) (s_roomsAtLeast : List Int32) (s_firstRoomOfType : List Int32) (s_slotActive : List Int32) (s_slotType : List Int32) (s_slotArrive : List Int32) (s_slotNights : List Int32) (s_exactCount : List Int32) (s_atLeastCount : List Int32) (s_planRoom : List Int32) (s_planGrid : List Int32) (s_planOrder : List Int32) (s_totalRooms : Int32) (s_activeStays : Int32) (s_planOrderLength : Int32) (s_planCurrent : Int32) (s_planUnplaced : Int32) (po : List ACell) : List ACell := .inl (0, [.ref 15, .ref 16, .ref 17, .ref 18, .ref 19, .ref 20, .ref 21, .ref 22, .ref 23, .ref 24, .ref 25, .ref 26, .int s_totalRooms, .int s_activeStays, .int s_planOrderLength, .int s_planCurrent, .int s_planUnplaced]) :: .inr (.inl (false, s_roomsOfType)) :: .inr (.inl (false, s_roomsAtLeast)) :: .inr (.inl (false, s_firstRoomOfType)) :: .inr (.inl (true, s_slotActive)) :: .inr (.inl (false, s_slotType)) :: .inr (.inl (false, s_slotArrive)) :: .inr (.inl (false, s_slotNights)) :: .inr (.inl (false, s_exactCount)) :: .inr (.inl (false, s_atLeastCount)) :: .inr (.inl (false, s_planRoom)) :: .inr (.inl (false, s_planGrid)) :: .inr (.inl (false, s_planOrder)) :: po
def f_clampRooms (v1 : Int32) : Option (Int32) :=
  some (if v1 < (0 : Int32) then (0 : Int32) else (if (8 : Int32) < v1 then (8 : Int32) else v1))
def f_computeRoomTables (zq zn zl : List Int32) (zj : Int32) : Option (List Int32 × List Int32 × Int32) :=
  (rdA zq (0 : Int32)).bind fun x1 =>
  (rdA zq (1 : Int32)).bind fun x2 =>
  (rdA zq (2 : Int32)).bind fun x3 =>
  (wrA zn (2 : Int32) x3).bind fun A4 =>
  (wrA A4 (1 : Int32) (x2 + x3)).bind fun A5 =>
  (wrA A5 (0 : Int32) ((x1 + x2) + x3)).bind fun A6 =>
  (wrA zl (0 : Int32) (0 : Int32)).bind fun A7 =>
  (wrA A7 (1 : Int32) x1).bind fun A8 =>
  (wrA A8 (2 : Int32) (x1 + x2)).bind fun A9 =>
  some (A6, A9, ((x1 + x2) + x3))
def f_resetStays_2 : Nat → List Int32 → List Int32 → List Int32 → List Int32 → Int32 → Int32 → Option (List Int32 × List Int32 × List Int32 × List Int32 × Int32)
  | 0, _, _, _, _, _, _ => none
  | n + 1, za, zd, zb, zc, zm, v1 =>
    if v1 < (32 : Int32) then
      (wrA za v1 (0 : Int32)).bind fun A10 =>
      (wrA zd v1 (0 : Int32)).bind fun A11 =>
      (wrA zb v1 (0 : Int32)).bind fun A12 =>
      (wrA zc v1 (0 : Int32)).bind fun A13 =>
      f_resetStays_2 n A10 A11 A12 A13 zm (v1 + (1 : Int32))
    else
      some (za, zd, zb, zc, (0 : Int32))
def f_resetStays (za zd zb zc : List Int32) (zm : Int32) : Option (List Int32 × List Int32 × List Int32 × List Int32 × Int32) :=
  f_resetStays_2 100000 za zd zb zc zm (0 : Int32)
def f_resetCounts_2 : Nat → List Int32 → List Int32 → Int32 → Option (List Int32 × List Int32)
  | 0, _, _, _ => none
  | n + 1, zk, zh, v1 =>
    if v1 < (96 : Int32) then
      (wrA zk v1 (0 : Int32)).bind fun A14 =>
      (wrA zh v1 (0 : Int32)).bind fun A15 =>
      f_resetCounts_2 n A14 A15 (v1 + (1 : Int32))
    else
      some (zk, zh)
def f_resetCounts (zk zh : List Int32) : Option (List Int32 × List Int32) :=
  f_resetCounts_2 100000 zk zh (0 : Int32)
def f_clearPlan_30 : Nat → List Int32 → List Int32 → List Int32 → Int32 → Int32 → Option (List Int32 × List Int32 × List Int32 × Int32)
  | 0, _, _, _, _, _ => none
  | n + 1, zi, zf, zg, ze, v1 =>
    if v1 < (768 : Int32) then
      (wrA zf v1 (-1 : Int32)).bind fun A18 =>
      f_clearPlan_30 n zi A18 zg ze (v1 + (1 : Int32))
    else
      some (zi, zf, zg, (0 : Int32))
def f_clearPlan_2 (k30 : List Int32 → List Int32 → List Int32 → Int32 → Int32 → Option (List Int32 × List Int32 × List Int32 × Int32)) : Nat → List Int32 → List Int32 → List Int32 → Int32 → Int32 → Option (List Int32 × List Int32 × List Int32 × Int32)
  | 0, _, _, _, _, _ => none
  | n + 1, zi, zf, zg, ze, v1 =>
    if v1 < (32 : Int32) then
      (wrA zi v1 (-1 : Int32)).bind fun A16 =>
      (wrA zg v1 (0 : Int32)).bind fun A17 =>
      f_clearPlan_2 k30 n A16 zf A17 ze (v1 + (1 : Int32))
    else
      k30 zi zf zg ze (0 : Int32)
def f_clearPlan (zi zf zg : List Int32) (ze : Int32) : Option (List Int32 × List Int32 × List Int32 × Int32) :=
  f_clearPlan_2 (f_clearPlan_30 100000) 100000 zi zf zg ze (0 : Int32)
def f_init (v1 v2 v3 : Int32) : Option (List Int32 × List Int32 × List Int32 × List Int32 × List Int32 × List Int32 × List Int32 × List Int32 × List Int32 × List Int32 × List Int32 × List Int32 × Int32 × Int32 × Int32 × Int32 × Int32) :=
  (f_clampRooms v1).bind fun r19 =>
  (wrA (List.replicate 3 0) (0 : Int32) r19).bind fun A20 =>
  (f_clampRooms v2).bind fun r21 =>
  (wrA A20 (1 : Int32) r21).bind fun A22 =>
  (f_clampRooms v3).bind fun r23 =>
  (wrA A22 (2 : Int32) r23).bind fun A24 =>
  (f_computeRoomTables A24 (List.replicate 3 0) (List.replicate 3 0) (0 : Int32)).bind fun (s25, s26, s27) =>
  (f_resetStays (List.replicate 32 0) (List.replicate 32 0) (List.replicate 32 0) (List.replicate 32 0) (0 : Int32)).bind fun (s28, s29, s30, s31, s32) =>
  (f_resetCounts (List.replicate 96 0) (List.replicate 96 0)).bind fun (s33, s34) =>
  (f_clearPlan (List.replicate 32 0) (List.replicate 768 0) (List.replicate 32 0) (0 : Int32)).bind fun (s35, s36, s37, s38) =>
  some (A24, s25, s26, s28, s29, s30, s31, s33, s34, s35, s36, s37, s27, s32, s38, (0 : Int32), (0 : Int32))
def f_isValidType (v1 : Int32) : Option (Int32) :=
  some (if v1 < (0 : Int32) then (0 : Int32) else (if v1 < (3 : Int32) then (1 : Int32) else (0 : Int32)))
def f_isValidNight (v1 : Int32) : Option (Int32) :=
  some (if v1 < (0 : Int32) then (0 : Int32) else (if v1 < (32 : Int32) then (1 : Int32) else (0 : Int32)))
def f_isValidLength (v1 v2 : Int32) : Option (Int32) :=
  some (if v2 < (1 : Int32) then (0 : Int32) else (if ((32 : Int32) - v1) < v2 then (0 : Int32) else (1 : Int32)))
def f_requestError (v1 v2 v3 : Int32) : Option (Int32) :=
  (f_isValidType v1).bind fun r39 =>
  if r39 = (0 : Int32) then
    some (-1 : Int32)
  else
    (f_isValidNight v2).bind fun r40 =>
    if r40 = (0 : Int32) then
      some (-2 : Int32)
    else
      (f_isValidLength v2 v3).bind fun r41 =>
      some (if r41 = (0 : Int32) then (-2 : Int32) else (0 : Int32))
def f_endOf (v1 v2 : Int32) : Option (Int32) :=
  some (if (32 : Int32) < (v1 + v2) then (32 : Int32) else (v1 + v2))
def f_countIndex (v1 v2 : Int32) : Option (Int32) :=
  some ((v1 * (32 : Int32)) + v2)
def f_atLeastAt (zh : List Int32) (v1 v2 : Int32) : Option (Int32) :=
  (f_isValidType v1).bind fun r42 =>
  if r42 = (0 : Int32) then
    some (0 : Int32)
  else
    (f_isValidNight v2).bind fun r43 =>
    if r43 = (0 : Int32) then
      some (0 : Int32)
    else
      (f_countIndex v1 v2).bind fun r44 =>
      (rdA zh r44).bind fun x45 =>
      some x45
def f_isActiveStay (za : List Int32) (v1 : Int32) : Option (Int32) :=
  if v1 < (0 : Int32) then
    some (0 : Int32)
  else
    if v1 < (32 : Int32) then
      (rdA za v1).bind fun x46 =>
      some (x46 &&& 1)
    else
      some (0 : Int32)
def f_coversNight (za zb zc : List Int32) (v1 v2 : Int32) : Option (Int32) :=
  (f_isActiveStay za v1).bind fun r47 =>
  if r47 = (0 : Int32) then
    some (0 : Int32)
  else
    (rdA zb v1).bind fun x48 =>
    if v2 < x48 then
      some (0 : Int32)
    else
      (rdA zc v1).bind fun x49 =>
      some (if (v2 - x48) < x49 then (1 : Int32) else (0 : Int32))
def f_exclusion (za zd zb zc : List Int32) (v1 v2 v3 : Int32) : Option (Int32) :=
  (f_isActiveStay za v1).bind fun r50 =>
  if r50 = (0 : Int32) then
    some (0 : Int32)
  else
    (rdA zd v1).bind fun x51 =>
    if x51 < v2 then
      some (0 : Int32)
    else
      (f_coversNight za zb zc v1 v3).bind fun r52 =>
      some (if r52 = (0 : Int32) then (0 : Int32) else (1 : Int32))
def f_nightFits_3 (zn za zd zb zc zh : List Int32) : Nat → Int32 → Int32 → Int32 → Int32 → Option (Int32)
  | 0, _, _, _, _ => none
  | n + 1, v1, v2, v3, v4 =>
    if v2 < v4 then
      some (1 : Int32)
    else
      if v4 < (3 : Int32) then
        (f_atLeastAt zh v4 v3).bind fun r53 =>
        (f_exclusion za zd zb zc v1 v4 v3).bind fun r54 =>
        (rdA zn v4).bind fun x55 =>
        if x55 < ((r53 - r54) + (1 : Int32)) then
          some (0 : Int32)
        else
          f_nightFits_3 zn za zd zb zc zh n v1 v2 v3 (v4 + (1 : Int32))
      else
        some (1 : Int32)
def f_nightFits (zn za zd zb zc zh : List Int32) (v1 v2 v3 : Int32) : Option (Int32) :=
  f_nightFits_3 zn za zd zb zc zh 100000 v1 v2 v3 (0 : Int32)
def f_fitsWith_12 (zn za zd zb zc zh : List Int32) : Nat → Int32 → Int32 → Int32 → Int32 → Option (Int32)
  | 0, _, _, _, _ => none
  | n + 1, v1, v2, v5, v6 =>
    if v6 < (0 : Int32) then
      some (1 : Int32)
    else
      if v6 < v5 then
        (f_nightFits zn za zd zb zc zh v1 v2 v6).bind fun r57 =>
        if r57 = (0 : Int32) then
          some (0 : Int32)
        else
          f_fitsWith_12 zn za zd zb zc zh n v1 v2 v5 (v6 + (1 : Int32))
      else
        some (1 : Int32)
def f_fitsWith (zn za zd zb zc zh : List Int32) (v1 v2 v3 v4 : Int32) : Option (Int32) :=
  (f_endOf v3 v4).bind fun r56 =>
  f_fitsWith_12 zn za zd zb zc zh 100000 v1 v2 r56 v3
def f_lowestInactiveSlot_2 (za : List Int32) : Nat → Int32 → Option (Int32)
  | 0, _ => none
  | n + 1, v1 =>
    if v1 < (32 : Int32) then
      (rdA za v1).bind fun x58 =>
      if x58 = (0 : Int32) then
        some v1
      else
        f_lowestInactiveSlot_2 za n (v1 + (1 : Int32))
    else
      some (-1 : Int32)
def f_lowestInactiveSlot (za : List Int32) : Option (Int32) :=
  f_lowestInactiveSlot_2 za 100000 (0 : Int32)
def f_storeStay (zd zb zc : List Int32) (v1 v2 v3 v4 : Int32) : Option (List Int32 × List Int32 × List Int32) :=
  (wrA zd v1 v2).bind fun A59 =>
  (wrA zb v1 v3).bind fun A60 =>
  (wrA zc v1 v4).bind fun A61 =>
  some (A59, A60, A61)
def f_adjustCoverage_84 (k53 : List Int32 → List Int32 → Int32 → Int32 → Int32 → Int32 → Option (List Int32 × List Int32)) (zd zb zc : List Int32) : Nat → List Int32 → List Int32 → Int32 → Int32 → Int32 → Int32 → Int32 → Option (List Int32 × List Int32)
  | 0, _, _, _, _, _, _, _ => none
  | n + 1, zk, zh, v2, v3, v5, v6, v7 =>
    if v3 < v7 then
      k53 zk zh v2 v3 v5 (v6 + (1 : Int32))
    else
      (f_countIndex v7 v6).bind fun r70 =>
      (rdA zh r70).bind fun x71 =>
      (wrA zh r70 (x71 + v2)).bind fun A72 =>
      f_adjustCoverage_84 k53 zd zb zc n zk A72 v2 v3 v5 v6 (v7 + (1 : Int32))
def f_adjustCoverage_53 (zd zb zc : List Int32) : Nat → List Int32 → List Int32 → Int32 → Int32 → Int32 → Int32 → Option (List Int32 × List Int32)
  | 0, _, _, _, _, _, _ => none
  | n + 1, zk, zh, v2, v3, v5, v6 =>
    if v6 < (0 : Int32) then
      some (zk, zh)
    else
      if v6 < v5 then
        (f_countIndex v3 v6).bind fun r67 =>
        (rdA zk r67).bind fun x68 =>
        (wrA zk r67 (x68 + v2)).bind fun A69 =>
        f_adjustCoverage_84 (f_adjustCoverage_53 zd zb zc n) zd zb zc 100000 A69 zh v2 v3 v5 v6 (0 : Int32)
      else
        some (zk, zh)
def f_adjustCoverage (zd zb zc zk zh : List Int32) (v1 v2 : Int32) : Option (List Int32 × List Int32) :=
  if v1 < (0 : Int32) then
    some (zk, zh)
  else
    if v1 < (32 : Int32) then
      (rdA zd v1).bind fun x62 =>
      (f_isValidType x62).bind fun r63 =>
      if r63 = (0 : Int32) then
        some (zk, zh)
      else
        (rdA zb v1).bind fun x64 =>
        (rdA zc v1).bind fun x65 =>
        (f_endOf x64 x65).bind fun r66 =>
        f_adjustCoverage_53 zd zb zc 100000 zk zh v2 x62 r66 x64
    else
      some (zk, zh)
def f_activateStay (za zd zb zc zk zh : List Int32) (zm v1 v2 v3 v4 : Int32) : Option (List Int32 × List Int32 × List Int32 × List Int32 × List Int32 × List Int32 × Int32) :=
  (f_storeStay zd zb zc v1 v2 v3 v4).bind fun (s73, s74, s75) =>
  (wrA za v1 (1 : Int32)).bind fun A76 =>
  (f_adjustCoverage s73 s74 s75 zk zh v1 (1 : Int32)).bind fun (s77, s78) =>
  some (A76, s73, s74, s75, s77, s78, (zm + (1 : Int32)))
def f_discardPlan (zo : Int32) : Option (Int32) :=
  some (0 : Int32)
def f_book (zn za zd zb zc zk zh : List Int32) (zm zo v1 v2 v3 : Int32) : Option (Int32 × List Int32 × List Int32 × List Int32 × List Int32 × List Int32 × List Int32 × Int32 × Int32) :=
  (f_requestError v1 v2 v3).bind fun r79 =>
  if r79 = (0 : Int32) then
    if zm < (32 : Int32) then
      (f_fitsWith zn za zd zb zc zh (-1 : Int32) v1 v2 v3).bind fun r80 =>
      if r80 = (0 : Int32) then
        some ((-4 : Int32), za, zd, zb, zc, zk, zh, zm, zo)
      else
        (f_lowestInactiveSlot za).bind fun r81 =>
        if r81 < (0 : Int32) then
          some ((-3 : Int32), za, zd, zb, zc, zk, zh, zm, zo)
        else
          (f_activateStay za zd zb zc zk zh zm r81 v1 v2 v3).bind fun (s82, s83, s84, s85, s86, s87, s88) =>
          (f_discardPlan zo).bind fun s89 =>
          some (r81, s82, s83, s84, s85, s86, s87, s88, s89)
    else
      some ((-3 : Int32), za, zd, zb, zc, zk, zh, zm, zo)
  else
    some (r79, za, zd, zb, zc, zk, zh, zm, zo)
def f_amend (zn za zd zb zc zk zh : List Int32) (zo v1 v2 v3 v4 : Int32) : Option (Int32 × List Int32 × List Int32 × List Int32 × List Int32 × List Int32 × Int32) :=
  (f_isActiveStay za v1).bind fun r90 =>
  if r90 = (0 : Int32) then
    some ((-5 : Int32), zd, zb, zc, zk, zh, zo)
  else
    (f_requestError v2 v3 v4).bind fun r91 =>
    if r91 = (0 : Int32) then
      (f_fitsWith zn za zd zb zc zh v1 v2 v3 v4).bind fun r92 =>
      if r92 = (0 : Int32) then
        some ((-4 : Int32), zd, zb, zc, zk, zh, zo)
      else
        (f_adjustCoverage zd zb zc zk zh v1 (-1 : Int32)).bind fun (s93, s94) =>
        (f_storeStay zd zb zc v1 v2 v3 v4).bind fun (s95, s96, s97) =>
        (f_adjustCoverage s95 s96 s97 s93 s94 v1 (1 : Int32)).bind fun (s98, s99) =>
        (f_discardPlan zo).bind fun s100 =>
        some ((0 : Int32), s95, s96, s97, s98, s99, s100)
    else
      some (r91, zd, zb, zc, zk, zh, zo)
def f_deactivateStay (za zd zb zc zk zh : List Int32) (zm v1 : Int32) : Option (List Int32 × List Int32 × List Int32 × List Int32 × List Int32 × List Int32 × Int32) :=
  (f_adjustCoverage zd zb zc zk zh v1 (-1 : Int32)).bind fun (s101, s102) =>
  (wrA za v1 (0 : Int32)).bind fun A103 =>
  (f_storeStay zd zb zc v1 (0 : Int32) (0 : Int32) (0 : Int32)).bind fun (s104, s105, s106) =>
  some (A103, s104, s105, s106, s101, s102, (zm - (1 : Int32)))
def f_cancel (za zd zb zc zk zh : List Int32) (zm zo v1 : Int32) : Option (Int32 × List Int32 × List Int32 × List Int32 × List Int32 × List Int32 × List Int32 × Int32 × Int32) :=
  (f_isActiveStay za v1).bind fun r107 =>
  if r107 = (0 : Int32) then
    some ((-5 : Int32), za, zd, zb, zc, zk, zh, zm, zo)
  else
    (f_deactivateStay za zd zb zc zk zh zm v1).bind fun (s108, s109, s110, s111, s112, s113, s114) =>
    (f_discardPlan zo).bind fun s115 =>
    some ((0 : Int32), s108, s109, s110, s111, s112, s113, s114, s115)
def f_appendToOrder (zg : List Int32) (ze v1 : Int32) : Option (List Int32 × Int32) :=
  if ze < (0 : Int32) then
    some (zg, ze)
  else
    if ze < (32 : Int32) then
      (wrA zg ze v1).bind fun A116 =>
      some (A116, (ze + (1 : Int32)))
    else
      some (zg, ze)
def f_buildOrder_15 (k7 : List Int32 → Int32 → Int32 → Option (List Int32 × Int32)) (za zb : List Int32) : Nat → List Int32 → Int32 → Int32 → Int32 → Option (List Int32 × Int32)
  | 0, _, _, _, _ => none
  | n + 1, zg, ze, v1, v2 =>
    if v2 < (32 : Int32) then
      (rdA za v2).bind fun x117 =>
      if x117 = (0 : Int32) then
        f_buildOrder_15 k7 za zb n zg ze v1 (v2 + (1 : Int32))
      else
        (rdA zb v2).bind fun x118 =>
        if x118 = v1 then
          (f_appendToOrder zg ze v2).bind fun (s119, s120) =>
          f_buildOrder_15 k7 za zb n s119 s120 v1 (v2 + (1 : Int32))
        else
          f_buildOrder_15 k7 za zb n zg ze v1 (v2 + (1 : Int32))
    else
      k7 zg ze (v1 + (1 : Int32))
def f_buildOrder_7 (za zb : List Int32) : Nat → List Int32 → Int32 → Int32 → Option (List Int32 × Int32)
  | 0, _, _, _ => none
  | n + 1, zg, ze, v1 =>
    if v1 < (32 : Int32) then
      f_buildOrder_15 (f_buildOrder_7 za zb n) za zb 100000 zg ze v1 (0 : Int32)
    else
      some (zg, ze)
def f_buildOrder (za zb zg : List Int32) (ze : Int32) : Option (List Int32 × Int32) :=
  f_buildOrder_7 za zb 100000 zg (0 : Int32) (0 : Int32)
def f_gridIndex (v1 v2 : Int32) : Option (Int32) :=
  some ((v1 * (32 : Int32)) + v2)
def f_gridAt (zf : List Int32) (v1 v2 : Int32) : Option (Int32) :=
  if v1 < (0 : Int32) then
    some (-1 : Int32)
  else
    if v1 < (24 : Int32) then
      (f_isValidNight v2).bind fun r121 =>
      if r121 = (0 : Int32) then
        some (-1 : Int32)
      else
        (f_gridIndex v1 v2).bind fun r122 =>
        (rdA zf r122).bind fun x123 =>
        some x123
    else
      some (-1 : Int32)
def f_roomIsFree_11 (zf : List Int32) : Nat → Int32 → Int32 → Int32 → Option (Int32)
  | 0, _, _, _ => none
  | n + 1, v1, v4, v5 =>
    if v5 < (0 : Int32) then
      some (1 : Int32)
    else
      if v5 < v4 then
        (f_gridAt zf v1 v5).bind fun r125 =>
        if r125 = (-1 : Int32) then
          f_roomIsFree_11 zf n v1 v4 (v5 + (1 : Int32))
        else
          some (0 : Int32)
      else
        some (1 : Int32)
def f_roomIsFree (zf : List Int32) (v1 v2 v3 : Int32) : Option (Int32) :=
  (f_endOf v2 v3).bind fun r124 =>
  f_roomIsFree_11 zf 100000 v1 r124 v2
def f_markRoom_23 : Nat → List Int32 → Int32 → Int32 → Int32 → Int32 → Option (List Int32)
  | 0, _, _, _, _, _ => none
  | n + 1, zf, v1, v2, v5, v6 =>
    if v6 < (0 : Int32) then
      some zf
    else
      if v6 < v5 then
        (f_gridIndex v1 v6).bind fun r127 =>
        (wrA zf r127 v2).bind fun A128 =>
        f_markRoom_23 n A128 v1 v2 v5 (v6 + (1 : Int32))
      else
        some zf
def f_markRoom (zf : List Int32) (v1 v2 v3 v4 : Int32) : Option (List Int32) :=
  if v1 < (0 : Int32) then
    some zf
  else
    if v1 < (24 : Int32) then
      (f_endOf v3 v4).bind fun r126 =>
      f_markRoom_23 100000 zf v1 v2 r126 v3
    else
      some zf
def f_placeStay_78 (zl za zd zb zc : List Int32) (zj : Int32) (zi zf : List Int32) (v1 v3 v4 v5 : Int32) : Option (Int32 × List Int32 × List Int32) :=
  (f_markRoom zf v5 v1 v3 v4).bind fun s136 =>
  (wrA zi v1 v5).bind fun A137 =>
  some ((1 : Int32), A137, s136)
def f_placeStay_50 (k78 : List Int32 → List Int32 → Int32 → Int32 → Int32 → Int32 → Option (Int32 × List Int32 × List Int32)) (zl za zd zb zc : List Int32) (zj : Int32) : Nat → List Int32 → List Int32 → Int32 → Int32 → Int32 → Int32 → Option (Int32 × List Int32 × List Int32)
  | 0, _, _, _, _, _, _ => none
  | n + 1, zi, zf, v1, v3, v4, v5 =>
    if v5 < zj then
      if v5 < (24 : Int32) then
        (f_roomIsFree zf v5 v3 v4).bind fun r135 =>
        if r135 = (0 : Int32) then
          f_placeStay_50 k78 zl za zd zb zc zj n zi zf v1 v3 v4 (v5 + (1 : Int32))
        else
          k78 zi zf v1 v3 v4 v5
      else
        some ((0 : Int32), zi, zf)
    else
      some ((0 : Int32), zi, zf)
def f_placeStay (zl za zd zb zc : List Int32) (zj : Int32) (zi zf : List Int32) (v1 : Int32) : Option (Int32 × List Int32 × List Int32) :=
  (f_isActiveStay za v1).bind fun r129 =>
  if r129 = (0 : Int32) then
    some ((0 : Int32), zi, zf)
  else
    (rdA zd v1).bind fun x130 =>
    (f_isValidType x130).bind fun r131 =>
    if r131 = (0 : Int32) then
      some ((0 : Int32), zi, zf)
    else
      (rdA zb v1).bind fun x132 =>
      (rdA zc v1).bind fun x133 =>
      (rdA zl x130).bind fun x134 =>
      f_placeStay_50 (f_placeStay_78 zl za zd zb zc zj) zl za zd zb zc zj 100000 zi zf v1 x132 x133 x134
def f_assign_58 (zl za zd zb zc : List Int32) (zj : Int32) (zi zf zg : List Int32) (ze zo zp v1 : Int32) : Option (Int32 × List Int32 × List Int32 × List Int32 × Int32 × Int32 × Int32) :=
  some (v1, zi, zf, zg, ze, (1 : Int32), v1)
def f_assign_16 (k58 : List Int32 → List Int32 → List Int32 → Int32 → Int32 → Int32 → Int32 → Option (Int32 × List Int32 × List Int32 × List Int32 × Int32 × Int32 × Int32)) (zl za zd zb zc : List Int32) (zj : Int32) : Nat → List Int32 → List Int32 → List Int32 → Int32 → Int32 → Int32 → Int32 → Int32 → Option (Int32 × List Int32 × List Int32 × List Int32 × Int32 × Int32 × Int32)
  | 0, _, _, _, _, _, _, _, _ => none
  | n + 1, zi, zf, zg, ze, zo, zp, v1, v2 =>
    if v2 < ze then
      if v2 < (32 : Int32) then
        (rdA zg v2).bind fun x145 =>
        (f_placeStay zl za zd zb zc zj zi zf x145).bind fun (r146, s147, s148) =>
        f_assign_16 k58 zl za zd zb zc zj n s147 s148 zg ze zo zp (if r146 = (0 : Int32) then (v1 + (1 : Int32)) else v1) (v2 + (1 : Int32))
      else
        k58 zi zf zg ze zo zp v1
    else
      k58 zi zf zg ze zo zp v1
def f_assign (zl za zd zb zc : List Int32) (zj : Int32) (zi zf zg : List Int32) (ze zo zp : Int32) : Option (Int32 × List Int32 × List Int32 × List Int32 × Int32 × Int32 × Int32) :=
  (f_discardPlan zo).bind fun s138 =>
  (f_clearPlan zi zf zg ze).bind fun (s139, s140, s141, s142) =>
  (f_buildOrder za zb s141 s142).bind fun (s143, s144) =>
  f_assign_16 (f_assign_58 zl za zd zb zc zj) zl za zd zb zc zj 100000 s139 s140 s143 s144 s138 zp (0 : Int32) (0 : Int32)
def f_L_step (zx zy : List Int32) (zz : Int32) (zr zt zu zv zw zag zaa zab zac : List Int32) (zs zad zah zae v1 v2 v3 v4 v5 : Int32) : Option (List Int32 × List Int32 × List Int32 × List Int32 × List Int32 × List Int32 × List Int32 × List Int32 × List Int32 × Int32 × Int32 × Int32 × Int32) :=
  if v1 = (0 : Int32) then
    (f_book zx zr zt zu zv zw zag zs zah v2 v3 v4).bind fun (r172, s173, s174, s175, s176, s177, s178, s179, s180) =>
    some (s173, s174, s175, s176, s177, s178, zaa, zab, zac, s179, zad, s180, zae)
  else
    if v1 = (1 : Int32) then
      (f_amend zx zr zt zu zv zw zag zah v2 v3 v4 v5).bind fun (r165, s166, s167, s168, s169, s170, s171) =>
      some (zr, s166, s167, s168, s169, s170, zaa, zab, zac, zs, zad, s171, zae)
    else
      if v1 = (2 : Int32) then
        (f_cancel zr zt zu zv zw zag zs zah v2).bind fun (r156, s157, s158, s159, s160, s161, s162, s163, s164) =>
        some (s157, s158, s159, s160, s161, s162, zaa, zab, zac, s163, zad, s164, zae)
      else
        (f_assign zy zr zt zu zv zz zaa zab zac zad zah zae).bind fun (r149, s150, s151, s152, s153, s154, s155) =>
        some (zr, zt, zu, zv, zw, zag, s150, s151, s152, zs, s153, s154, s155)
def f_stayType (za zd : List Int32) (v1 : Int32) : Option (Int32) :=
  (f_isActiveStay za v1).bind fun r181 =>
  if r181 = (0 : Int32) then
    some (-1 : Int32)
  else
    (rdA zd v1).bind fun x182 =>
    some x182
def f_activeCount (zm : Int32) : Option (Int32) :=
  some zm
def f_stayArrive (za zb : List Int32) (v1 : Int32) : Option (Int32) :=
  (f_isActiveStay za v1).bind fun r183 =>
  if r183 = (0 : Int32) then
    some (-1 : Int32)
  else
    (rdA zb v1).bind fun x184 =>
    some x184
def f_stayNights (za zc : List Int32) (v1 : Int32) : Option (Int32) :=
  (f_isActiveStay za v1).bind fun r185 =>
  if r185 = (0 : Int32) then
    some (-1 : Int32)
  else
    (rdA zc v1).bind fun x186 =>
    some x186
def f_exactAt (zk : List Int32) (v1 v2 : Int32) : Option (Int32) :=
  (f_isValidType v1).bind fun r187 =>
  if r187 = (0 : Int32) then
    some (0 : Int32)
  else
    (f_isValidNight v2).bind fun r188 =>
    if r188 = (0 : Int32) then
      some (0 : Int32)
    else
      (f_countIndex v1 v2).bind fun r189 =>
      (rdA zk r189).bind fun x190 =>
      some x190
def f_occupancy (zk : List Int32) (v1 v2 : Int32) : Option (Int32) :=
  (f_isValidType v1).bind fun r191 =>
  if r191 = (0 : Int32) then
    some (-1 : Int32)
  else
    (f_isValidNight v2).bind fun r192 =>
    if r192 = (0 : Int32) then
      some (-2 : Int32)
    else
      (f_exactAt zk v1 v2).bind fun r193 =>
      some r193
def f_L_same_81 (k74 : Int32 → Option (Int32)) (zr zt zu zv zw : List Int32) (zs : Int32) (zai zaj zak zal zam : List Int32) (zan : Int32) : Nat → Int32 → Int32 → Option (Int32)
  | 0, _, _ => none
  | n + 1, v2, v3 =>
    if v3 < (32 : Int32) then
      (f_occupancy zw v2 v3).bind fun r202 =>
      (f_occupancy zam v2 v3).bind fun r203 =>
      if r202 = r203 then
        f_L_same_81 k74 zr zt zu zv zw zs zai zaj zak zal zam zan n v2 (v3 + (1 : Int32))
      else
        some (0 : Int32)
    else
      k74 (v2 + (1 : Int32))
def f_L_same_74 (zr zt zu zv zw : List Int32) (zs : Int32) (zai zaj zak zal zam : List Int32) (zan : Int32) : Nat → Int32 → Option (Int32)
  | 0, _ => none
  | n + 1, v2 =>
    if v2 < (3 : Int32) then
      f_L_same_81 (f_L_same_74 zr zt zu zv zw zs zai zaj zak zal zam zan n) zr zt zu zv zw zs zai zaj zak zal zam zan 100000 v2 (0 : Int32)
    else
      some (1 : Int32)
def f_L_same_15 (k74 : Int32 → Option (Int32)) (zr zt zu zv zw : List Int32) (zs : Int32) (zai zaj zak zal zam : List Int32) (zan : Int32) : Nat → Int32 → Option (Int32)
  | 0, _ => none
  | n + 1, v2 =>
    if v2 < (32 : Int32) then
      (f_stayType zr zt v2).bind fun r196 =>
      (f_stayType zai zaj v2).bind fun r197 =>
      if r196 = r197 then
        (f_stayArrive zr zu v2).bind fun r198 =>
        (f_stayArrive zai zak v2).bind fun r199 =>
        if r198 = r199 then
          (f_stayNights zr zv v2).bind fun r200 =>
          (f_stayNights zai zal v2).bind fun r201 =>
          if r200 = r201 then
            f_L_same_15 k74 zr zt zu zv zw zs zai zaj zak zal zam zan n (v2 + (1 : Int32))
          else
            some (0 : Int32)
        else
          some (0 : Int32)
      else
        some (0 : Int32)
    else
      k74 (0 : Int32)
def f_L_same (zr zt zu zv zw : List Int32) (zs : Int32) (zai zaj zak zal zam : List Int32) (zan : Int32) : Option (Int32) :=
  (f_activeCount zs).bind fun r194 =>
  (f_activeCount zan).bind fun r195 =>
  if r194 = r195 then
    f_L_same_15 (f_L_same_74 zr zt zu zv zw zs zai zaj zak zal zam zan 100000) zr zt zu zv zw zs zai zaj zak zal zam zan 100000 (0 : Int32)
  else
    some (0 : Int32)
def f_L_law_150 (kb : List Int32 → List Int32 → List Int32 → List Int32 → List Int32 → List Int32 → List Int32 → List Int32 → List Int32 → List Int32 → List Int32 → Int32 → Int32 → Int32 → Int32 → Int32 → List Int32 → List Int32 → List Int32 → List Int32 → List Int32 → List Int32 → List Int32 → List Int32 → List Int32 → List Int32 → List Int32 → Int32 → Int32 → Int32 → Int32 → Int32 → Int32 → Int32 → Option (Int32)) (scr zaz zba zbn zbo zbp zbq zbr zca zcb zcc zcd : List Int32) (zbb zbs zce zcf zcg : Int32) (zbc zbd zbh zbi zbj zbk zbl zbt zbu zbv zbw : List Int32) (zbe zbm zbx zby zbz v3 v4 : Int32) : Option (Int32) :=
  (f_L_same zbn zbo zbp zbq zbr zbs zbh zbi zbj zbk zbl zbm).bind fun r288 =>
  if r288 = (0 : Int32) then
    some (0 : Int32)
  else
    kb zaz zba zbn zbo zbp zbq zbr zca zcb zcc zcd zbb zbs zce zcf zcg zbc zbd zbh zbi zbj zbk zbl zbt zbu zbv zbw zbe zbm zbx zby zbz v3 (v4 + (1 : Int32))
def f_L_law_30 (scr : List Int32) : Nat → List Int32 → List Int32 → List Int32 → List Int32 → List Int32 → List Int32 → List Int32 → List Int32 → List Int32 → List Int32 → List Int32 → Int32 → Int32 → Int32 → Int32 → Int32 → List Int32 → List Int32 → List Int32 → List Int32 → List Int32 → List Int32 → List Int32 → List Int32 → List Int32 → List Int32 → List Int32 → Int32 → Int32 → Int32 → Int32 → Int32 → Int32 → Int32 → Option (Int32)
  | 0, _, _, _, _, _, _, _, _, _, _, _, _, _, _, _, _, _, _, _, _, _, _, _, _, _, _, _, _, _, _, _, _, _, _ => none
  | n + 1, zaz, zba, zbn, zbo, zbp, zbq, zbr, zca, zcb, zcc, zcd, zbb, zbs, zce, zcf, zcg, zbc, zbd, zbh, zbi, zbj, zbk, zbl, zbt, zbu, zbv, zbw, zbe, zbm, zbx, zby, zbz, v3, v4 =>
    if v4 < v3 then
      (rdA scr (v4 * (5 : Int32))).bind fun x238 =>
      (rdA scr ((v4 * (5 : Int32)) + (1 : Int32))).bind fun x239 =>
      (rdA scr ((v4 * (5 : Int32)) + (2 : Int32))).bind fun x240 =>
      (rdA scr ((v4 * (5 : Int32)) + (3 : Int32))).bind fun x241 =>
      (rdA scr ((v4 * (5 : Int32)) + (4 : Int32))).bind fun x242 =>
      (f_L_step zaz zba zbb zbn zbo zbp zbq zbr zca zcb zcc zcd zbs zce zcf zcg (x238 &&& (3 : Int32)) x239 x240 x241 x242).bind fun (s243, s244, s245, s246, s247, s248, s249, s250, s251, s252, s253, s254, s255) =>
      (f_L_step zbc zbd zbe zbh zbi zbj zbk zbl zbt zbu zbv zbw zbm zbx zby zbz (x238 &&& (3 : Int32)) x239 x240 x241 x242).bind fun (s256, s257, s258, s259, s260, s261, s262, s263, s264, s265, s266, s267, s268) =>
      (f_book zaz s243 s244 s245 s246 s247 s248 s252 s254 x239 x240 x241).bind fun (r269, s270, s271, s272, s273, s274, s275, s276, s277) =>
      if r269 < (0 : Int32) then
        f_L_law_150 (f_L_law_30 scr n) scr zaz zba s270 s271 s272 s273 s274 s275 s249 s250 s251 zbb s276 s253 s277 s255 zbc zbd s256 s257 s258 s259 s260 s261 s262 s263 s264 zbe s265 s266 s267 s268 v3 v4
      else
        (f_stayType s256 s257 r269).bind fun r278 =>
        if r278 = (-1 : Int32) then
          (f_cancel s270 s271 s272 s273 s274 s275 s276 s277 r269).bind fun (r279, s280, s281, s282, s283, s284, s285, s286, s287) =>
          if r279 = (0 : Int32) then
            f_L_law_150 (f_L_law_30 scr n) scr zaz zba s280 s281 s282 s283 s284 s285 s249 s250 s251 zbb s286 s253 s287 s255 zbc zbd s256 s257 s258 s259 s260 s261 s262 s263 s264 zbe s265 s266 s267 s268 v3 v4
          else
            some (0 : Int32)
        else
          some (0 : Int32)
    else
      some (1 : Int32)
def f_L_law (scr : List Int32) : Option (Int32) :=
  (f_init (2 : Int32) (2 : Int32) (1 : Int32)).bind fun (s204, s205, s206, s207, s208, s209, s210, s211, s212, s213, s214, s215, s216, s217, s218, s219, s220) =>
  (f_init (2 : Int32) (2 : Int32) (1 : Int32)).bind fun (s221, s222, s223, s224, s225, s226, s227, s228, s229, s230, s231, s232, s233, s234, s235, s236, s237) =>
  f_L_law_30 scr 100000 s205 s206 s207 s208 s209 s210 s211 s212 s213 s214 s215 s216 s217 s218 s219 s220 s222 s223 s224 s225 s226 s227 s228 s229 s230 s231 s232 s233 s234 s235 s236 s237 (scr.length.toInt32 / (5 : Int32)) (0 : Int32)
set_option maxHeartbeats 4000000
set_option maxRecDepth 10000
abbrev qi (x : Int32) : Slot := .val (.int x)
abbrev ql (x : Int64) : Slot := .val (.long x)
abbrev qr (x : Nat) : Slot := .val (.ref x)
abbrev qu : Slot := .unset
abbrev qw : Slot := .second
abbrev qa (l : List Int32) : ACell := .inr (.inl (false, l))
theorem ok_clampRooms_0 {zq zn zl za zd zb zc zk zh zi zf zg : List Int32} {zj zm ze zo zp : Int32} {c0 : ACell} {po : List ACell} {v1 res : Int32} (h : f_clampRooms v1 = some res) : OEnds own_P 2 0 [qr 1, qi v1] [] (c0 :: bk0 zq zn zl za zd zb zc zk zh zi zf zg zj zm ze zo zp po) (some (.int res), (c0 :: bk0 zq zn zl za zd zb zc zk zh zi zf zg zj zm ze zo zp po), 0, 0) := by
  unfold f_clampRooms at h
  refine OEnds.adv hm_2 1 (pc' := 1) (L' := [qr 1, qi v1]) (S' := [.int v1]) (H' := (c0 :: bk0 zq zn zl za zd zb zc zk zh zi zf zg zj zm ze zo zp po)) rfl ?_
  by_cases hc1 : v1 < (0 : Int32)
  · simp only [if_pos hc1] at h
    refine OEnds.ifF hm_2 rfl ((tlt hc1).2.1) ?_
    refine OEnds.adv hm_2 1 (pc' := 5) (L' := [qr 1, qi v1]) (S' := [.int 0]) (H' := (c0 :: bk0 zq zn zl za zd zb zc zk zh zi zf zg zj zm ze zo zp po)) rfl ?_
    cases h
    exact OEnds.iret hm_2 rfl rfl
  · simp only [if_neg hc1] at h
    refine OEnds.ifT hm_2 rfl (q := 6) rfl ((flt hc1).2.1) ?_
    refine OEnds.adv hm_2 2 (pc' := 9) (L' := [qr 1, qi v1]) (S' := [.int 8, .int v1]) (H' := (c0 :: bk0 zq zn zl za zd zb zc zk zh zi zf zg zj zm ze zo zp po)) rfl ?_
    by_cases hc2 : (8 : Int32) < v1
    · simp only [if_pos hc2] at h
      refine OEnds.icmpF hm_2 rfl ((tlt hc2).2.2.2) ?_
      refine OEnds.adv hm_2 1 (pc' := 14) (L' := [qr 1, qi v1]) (S' := [.int 8]) (H' := (c0 :: bk0 zq zn zl za zd zb zc zk zh zi zf zg zj zm ze zo zp po)) rfl ?_
      cases h
      exact OEnds.iret hm_2 rfl rfl
    · simp only [if_neg hc2] at h
      refine OEnds.icmpT hm_2 rfl (q := 15) rfl ((flt hc2).2.2.2) ?_
      refine OEnds.adv hm_2 1 (pc' := 16) (L' := [qr 1, qi v1]) (S' := [.int v1]) (H' := (c0 :: bk0 zq zn zl za zd zb zc zk zh zi zf zg zj zm ze zo zp po)) rfl ?_
      cases h
      exact OEnds.iret hm_2 rfl rfl
theorem ok_computeRoomTables_0 {zq za zd zb zc zk zh zi zf zg : List Int32} {zm ze zo zp : Int32} {c0 : ACell} {po : List ACell} {zn zl : List Int32} {zj : Int32} {w_o_roomsAtLeast w_o_firstRoomOfType : List Int32} {w_o_totalRooms : Int32} (h : f_computeRoomTables zq zn zl zj = some (w_o_roomsAtLeast, w_o_firstRoomOfType, w_o_totalRooms)) : OEnds own_P 3 0 [qr 1, qu, qu, qu] [] (c0 :: bk0 zq zn zl za zd zb zc zk zh zi zf zg zj zm ze zo zp po) (none, (c0 :: bk0 zq w_o_roomsAtLeast w_o_firstRoomOfType za zd zb zc zk zh zi zf zg w_o_totalRooms zm ze zo zp po), 0, 0) := by
  unfold f_computeRoomTables at h
  refine OEnds.adv hm_3 3 (pc' := 5) (L' := [qr 1, qu, qu, qu]) (S' := [.int 0, .ref 2]) (H' := (c0 :: bk0 zq zn zl za zd zb zc zk zh zi zf zg zj zm ze zo zp po)) rfl ?_
  obtain ⟨x1, hx1, h⟩ := bnd h
  refine OEnds.plain hm_3 rfl rfl (x_iaload rfl hx1) ?_
  refine OEnds.adv hm_3 4 (pc' := 12) (L' := [qr 1, qi x1, qu, qu]) (S' := [.int 1, .ref 2]) (H' := (c0 :: bk0 zq zn zl za zd zb zc zk zh zi zf zg zj zm ze zo zp po)) rfl ?_
  obtain ⟨x2, hx2, h⟩ := bnd h
  refine OEnds.plain hm_3 rfl rfl (x_iaload rfl hx2) ?_
  refine OEnds.adv hm_3 4 (pc' := 19) (L' := [qr 1, qi x1, qi x2, qu]) (S' := [.int 2, .ref 2]) (H' := (c0 :: bk0 zq zn zl za zd zb zc zk zh zi zf zg zj zm ze zo zp po)) rfl ?_
  obtain ⟨x3, hx3, h⟩ := bnd h
  refine OEnds.plain hm_3 rfl rfl (x_iaload rfl hx3) ?_
  refine OEnds.adv hm_3 5 (pc' := 27) (L' := [qr 1, qi x1, qi x2, qi x3]) (S' := [.int x3, .int 2, .ref 3]) (H' := (c0 :: bk0 zq zn zl za zd zb zc zk zh zi zf zg zj zm ze zo zp po)) rfl ?_
  obtain ⟨A4, hA4, h⟩ := bnd h
  refine OEnds.plain hm_3 rfl rfl (x_iastore rfl (Nat.le_of_ble_eq_true rfl) hA4) ?_
  refine OEnds.adv hm_3 6 (pc' := 36) (L' := [qr 1, qi x1, qi x2, qi x3]) (S' := [.int (x2 + x3), .int 1, .ref 3]) (H' := (c0 :: bk0 zq A4 zl za zd zb zc zk zh zi zf zg zj zm ze zo zp po)) rfl ?_
  obtain ⟨A5, hA5, h⟩ := bnd h
  refine OEnds.plain hm_3 rfl rfl (x_iastore rfl (Nat.le_of_ble_eq_true rfl) hA5) ?_
  refine OEnds.adv hm_3 8 (pc' := 47) (L' := [qr 1, qi x1, qi x2, qi x3]) (S' := [.int ((x1 + x2) + x3), .int 0, .ref 3]) (H' := (c0 :: bk0 zq A5 zl za zd zb zc zk zh zi zf zg zj zm ze zo zp po)) rfl ?_
  obtain ⟨A6, hA6, h⟩ := bnd h
  refine OEnds.plain hm_3 rfl rfl (x_iastore rfl (Nat.le_of_ble_eq_true rfl) hA6) ?_
  refine OEnds.adv hm_3 4 (pc' := 54) (L' := [qr 1, qi x1, qi x2, qi x3]) (S' := [.int 0, .int 0, .ref 4]) (H' := (c0 :: bk0 zq A6 zl za zd zb zc zk zh zi zf zg zj zm ze zo zp po)) rfl ?_
  obtain ⟨A7, hA7, h⟩ := bnd h
  refine OEnds.plain hm_3 rfl rfl (x_iastore rfl (Nat.le_of_ble_eq_true rfl) hA7) ?_
  refine OEnds.adv hm_3 4 (pc' := 61) (L' := [qr 1, qi x1, qi x2, qi x3]) (S' := [.int x1, .int 1, .ref 4]) (H' := (c0 :: bk0 zq A6 A7 za zd zb zc zk zh zi zf zg zj zm ze zo zp po)) rfl ?_
  obtain ⟨A8, hA8, h⟩ := bnd h
  refine OEnds.plain hm_3 rfl rfl (x_iastore rfl (Nat.le_of_ble_eq_true rfl) hA8) ?_
  refine OEnds.adv hm_3 6 (pc' := 70) (L' := [qr 1, qi x1, qi x2, qi x3]) (S' := [.int (x1 + x2), .int 2, .ref 4]) (H' := (c0 :: bk0 zq A6 A8 za zd zb zc zk zh zi zf zg zj zm ze zo zp po)) rfl ?_
  obtain ⟨A9, hA9, h⟩ := bnd h
  refine OEnds.plain hm_3 rfl rfl (x_iastore rfl (Nat.le_of_ble_eq_true rfl) hA9) ?_
  refine OEnds.adv hm_3 7 (pc' := 80) (L' := [qr 1, qi x1, qi x2, qi x3]) (S' := []) (H' := (c0 :: bk0 zq A6 A9 za zd zb zc zk zh zi zf zg ((x1 + x2) + x3) zm ze zo zp po)) rfl ?_
  cases h
  exact OEnds.vret hm_3 rfl rfl
theorem ok_resetStays_2_0 {zq zn zl zk zh zi zf zg : List Int32} {zj ze zo zp : Int32} {c0 : ACell} {po : List ACell} : ∀ (n : Nat), ∀ {za zd zb zc : List Int32} {zm v1 : Int32} {w_o_slotActive w_o_slotType w_o_slotArrive w_o_slotNights : List Int32} {w_o_activeStays : Int32}, f_resetStays_2 n za zd zb zc zm v1 = some (w_o_slotActive, w_o_slotType, w_o_slotArrive, w_o_slotNights, w_o_activeStays) → OEnds own_P 4 2 [qr 1, qi v1] [] (c0 :: bk0 zq zn zl za zd zb zc zk zh zi zf zg zj zm ze zo zp po) (none, (c0 :: bk0 zq zn zl w_o_slotActive w_o_slotType w_o_slotArrive w_o_slotNights zk zh zi zf zg zj w_o_activeStays ze zo zp po), 0, 0) := by
  intro n
  induction n with
  | zero => intro za zd zb zc zm v1 w_o_slotActive w_o_slotType w_o_slotArrive w_o_slotNights w_o_activeStays h; cases h
  | succ n ih =>
    intro za zd zb zc zm v1 w_o_slotActive w_o_slotType w_o_slotArrive w_o_slotNights w_o_activeStays h
    unfold f_resetStays_2 at h
    refine OEnds.adv hm_4 2 (pc' := 5) (L' := [qr 1, qi v1]) (S' := [.int 32, .int v1]) (H' := (c0 :: bk0 zq zn zl za zd zb zc zk zh zi zf zg zj zm ze zo zp po)) rfl ?_
    by_cases hc3 : v1 < (32 : Int32)
    · simp only [if_pos hc3] at h
      refine OEnds.icmpF hm_4 rfl ((tlt hc3).2.1) ?_
      refine OEnds.adv hm_4 4 (pc' := 14) (L' := [qr 1, qi v1]) (S' := [.int 0, .int v1, .ref 5]) (H' := (c0 :: bk0 zq zn zl za zd zb zc zk zh zi zf zg zj zm ze zo zp po)) rfl ?_
      obtain ⟨A10, hA10, h⟩ := bnd h
      refine OEnds.plain hm_4 rfl rfl (x_bastore rfl (Nat.le_of_ble_eq_true rfl) hA10) ?_
      refine OEnds.adv hm_4 4 (pc' := 21) (L' := [qr 1, qi v1]) (S' := [.int 0, .int v1, .ref 6]) (H' := (c0 :: bk0 zq zn zl A10 zd zb zc zk zh zi zf zg zj zm ze zo zp po)) rfl ?_
      obtain ⟨A11, hA11, h⟩ := bnd h
      refine OEnds.plain hm_4 rfl rfl (x_iastore rfl (Nat.le_of_ble_eq_true rfl) hA11) ?_
      refine OEnds.adv hm_4 4 (pc' := 28) (L' := [qr 1, qi v1]) (S' := [.int 0, .int v1, .ref 7]) (H' := (c0 :: bk0 zq zn zl A10 A11 zb zc zk zh zi zf zg zj zm ze zo zp po)) rfl ?_
      obtain ⟨A12, hA12, h⟩ := bnd h
      refine OEnds.plain hm_4 rfl rfl (x_iastore rfl (Nat.le_of_ble_eq_true rfl) hA12) ?_
      refine OEnds.adv hm_4 4 (pc' := 35) (L' := [qr 1, qi v1]) (S' := [.int 0, .int v1, .ref 8]) (H' := (c0 :: bk0 zq zn zl A10 A11 A12 zc zk zh zi zf zg zj zm ze zo zp po)) rfl ?_
      obtain ⟨A13, hA13, h⟩ := bnd h
      refine OEnds.plain hm_4 rfl rfl (x_iastore rfl (Nat.le_of_ble_eq_true rfl) hA13) ?_
      refine OEnds.adv hm_4 2 (pc' := 2) (L' := [qr 1, qi (v1 + (1 : Int32))]) (S' := []) (H' := (c0 :: bk0 zq zn zl A10 A11 A12 A13 zk zh zi zf zg zj zm ze zo zp po)) rfl ?_
      exact ih h
    · simp only [if_neg hc3] at h
      refine OEnds.icmpT hm_4 rfl (q := 42) rfl ((flt hc3).2.1) ?_
      refine OEnds.adv hm_4 3 (pc' := 47) (L' := [qr 1, qi v1]) (S' := []) (H' := (c0 :: bk0 zq zn zl za zd zb zc zk zh zi zf zg zj 0 ze zo zp po)) rfl ?_
      cases h
      exact OEnds.vret hm_4 rfl rfl
theorem ok_resetStays_0 {zq zn zl zk zh zi zf zg : List Int32} {zj ze zo zp : Int32} {c0 : ACell} {po : List ACell} {za zd zb zc : List Int32} {zm : Int32} {w_o_slotActive w_o_slotType w_o_slotArrive w_o_slotNights : List Int32} {w_o_activeStays : Int32} (h : f_resetStays za zd zb zc zm = some (w_o_slotActive, w_o_slotType, w_o_slotArrive, w_o_slotNights, w_o_activeStays)) : OEnds own_P 4 0 [qr 1, qu] [] (c0 :: bk0 zq zn zl za zd zb zc zk zh zi zf zg zj zm ze zo zp po) (none, (c0 :: bk0 zq zn zl w_o_slotActive w_o_slotType w_o_slotArrive w_o_slotNights zk zh zi zf zg zj w_o_activeStays ze zo zp po), 0, 0) := by
  unfold f_resetStays at h
  refine OEnds.adv hm_4 2 (pc' := 2) (L' := [qr 1, qi 0]) (S' := []) (H' := (c0 :: bk0 zq zn zl za zd zb zc zk zh zi zf zg zj zm ze zo zp po)) rfl ?_
  exact ok_resetStays_2_0 100000 h
theorem ok_resetCounts_2_0 {zq zn zl za zd zb zc zi zf zg : List Int32} {zj zm ze zo zp : Int32} {c0 : ACell} {po : List ACell} : ∀ (n : Nat), ∀ {zk zh : List Int32} {v1 : Int32} {w_o_exactCount : List Int32} {w_o_atLeastCount : List Int32}, f_resetCounts_2 n zk zh v1 = some (w_o_exactCount, w_o_atLeastCount) → OEnds own_P 5 2 [qr 1, qi v1] [] (c0 :: bk0 zq zn zl za zd zb zc zk zh zi zf zg zj zm ze zo zp po) (none, (c0 :: bk0 zq zn zl za zd zb zc w_o_exactCount w_o_atLeastCount zi zf zg zj zm ze zo zp po), 0, 0) := by
  intro n
  induction n with
  | zero => intro zk zh v1 w_o_exactCount w_o_atLeastCount h; cases h
  | succ n ih =>
    intro zk zh v1 w_o_exactCount w_o_atLeastCount h
    unfold f_resetCounts_2 at h
    refine OEnds.adv hm_5 2 (pc' := 5) (L' := [qr 1, qi v1]) (S' := [.int 96, .int v1]) (H' := (c0 :: bk0 zq zn zl za zd zb zc zk zh zi zf zg zj zm ze zo zp po)) rfl ?_
    by_cases hc4 : v1 < (96 : Int32)
    · simp only [if_pos hc4] at h
      refine OEnds.icmpF hm_5 rfl ((tlt hc4).2.1) ?_
      refine OEnds.adv hm_5 4 (pc' := 14) (L' := [qr 1, qi v1]) (S' := [.int 0, .int v1, .ref 9]) (H' := (c0 :: bk0 zq zn zl za zd zb zc zk zh zi zf zg zj zm ze zo zp po)) rfl ?_
      obtain ⟨A14, hA14, h⟩ := bnd h
      refine OEnds.plain hm_5 rfl rfl (x_iastore rfl (Nat.le_of_ble_eq_true rfl) hA14) ?_
      refine OEnds.adv hm_5 4 (pc' := 21) (L' := [qr 1, qi v1]) (S' := [.int 0, .int v1, .ref 10]) (H' := (c0 :: bk0 zq zn zl za zd zb zc A14 zh zi zf zg zj zm ze zo zp po)) rfl ?_
      obtain ⟨A15, hA15, h⟩ := bnd h
      refine OEnds.plain hm_5 rfl rfl (x_iastore rfl (Nat.le_of_ble_eq_true rfl) hA15) ?_
      refine OEnds.adv hm_5 2 (pc' := 2) (L' := [qr 1, qi (v1 + (1 : Int32))]) (S' := []) (H' := (c0 :: bk0 zq zn zl za zd zb zc A14 A15 zi zf zg zj zm ze zo zp po)) rfl ?_
      exact ih h
    · simp only [if_neg hc4] at h
      refine OEnds.icmpT hm_5 rfl (q := 28) rfl ((flt hc4).2.1) ?_
      show OEnds own_P 5 28 [qr 1, qi v1] [] (c0 :: bk0 zq zn zl za zd zb zc zk zh zi zf zg zj zm ze zo zp po) _
      cases h
      exact OEnds.vret hm_5 rfl rfl
theorem ok_resetCounts_0 {zq zn zl za zd zb zc zi zf zg : List Int32} {zj zm ze zo zp : Int32} {c0 : ACell} {po : List ACell} {zk zh w_o_exactCount w_o_atLeastCount : List Int32} (h : f_resetCounts zk zh = some (w_o_exactCount, w_o_atLeastCount)) : OEnds own_P 5 0 [qr 1, qu] [] (c0 :: bk0 zq zn zl za zd zb zc zk zh zi zf zg zj zm ze zo zp po) (none, (c0 :: bk0 zq zn zl za zd zb zc w_o_exactCount w_o_atLeastCount zi zf zg zj zm ze zo zp po), 0, 0) := by
  unfold f_resetCounts at h
  refine OEnds.adv hm_5 2 (pc' := 2) (L' := [qr 1, qi 0]) (S' := []) (H' := (c0 :: bk0 zq zn zl za zd zb zc zk zh zi zf zg zj zm ze zo zp po)) rfl ?_
  exact ok_resetCounts_2_0 100000 h
theorem ok_clearPlan_30_0 {zq zn zl za zd zb zc zk zh : List Int32} {zj zm zo zp : Int32} {c0 : ACell} {po : List ACell} : ∀ (n : Nat), ∀ {zi zf zg : List Int32} {ze v1 : Int32} {w_o_planRoom w_o_planGrid w_o_planOrder : List Int32} {w_o_planOrderLength : Int32}, f_clearPlan_30 n zi zf zg ze v1 = some (w_o_planRoom, w_o_planGrid, w_o_planOrder, w_o_planOrderLength) → OEnds own_P 6 30 [qr 1, qi v1] [] (c0 :: bk0 zq zn zl za zd zb zc zk zh zi zf zg zj zm ze zo zp po) (none, (c0 :: bk0 zq zn zl za zd zb zc zk zh w_o_planRoom w_o_planGrid w_o_planOrder zj zm w_o_planOrderLength zo zp po), 0, 0) := by
  intro n
  induction n with
  | zero => intro zi zf zg ze v1 w_o_planRoom w_o_planGrid w_o_planOrder w_o_planOrderLength h; cases h
  | succ n ih =>
    intro zi zf zg ze v1 w_o_planRoom w_o_planGrid w_o_planOrder w_o_planOrderLength h
    unfold f_clearPlan_30 at h
    refine OEnds.adv hm_6 2 (pc' := 34) (L' := [qr 1, qi v1]) (S' := [.int 768, .int v1]) (H' := (c0 :: bk0 zq zn zl za zd zb zc zk zh zi zf zg zj zm ze zo zp po)) rfl ?_
    by_cases hc5 : v1 < (768 : Int32)
    · simp only [if_pos hc5] at h
      refine OEnds.icmpF hm_6 rfl ((tlt hc5).2.1) ?_
      refine OEnds.adv hm_6 4 (pc' := 43) (L' := [qr 1, qi v1]) (S' := [.int (-1), .int v1, .ref 12]) (H' := (c0 :: bk0 zq zn zl za zd zb zc zk zh zi zf zg zj zm ze zo zp po)) rfl ?_
      obtain ⟨A18, hA18, h⟩ := bnd h
      refine OEnds.plain hm_6 rfl rfl (x_iastore rfl (Nat.le_of_ble_eq_true rfl) hA18) ?_
      refine OEnds.adv hm_6 2 (pc' := 30) (L' := [qr 1, qi (v1 + (1 : Int32))]) (S' := []) (H' := (c0 :: bk0 zq zn zl za zd zb zc zk zh zi A18 zg zj zm ze zo zp po)) rfl ?_
      exact ih h
    · simp only [if_neg hc5] at h
      refine OEnds.icmpT hm_6 rfl (q := 50) rfl ((flt hc5).2.1) ?_
      refine OEnds.adv hm_6 3 (pc' := 55) (L' := [qr 1, qi v1]) (S' := []) (H' := (c0 :: bk0 zq zn zl za zd zb zc zk zh zi zf zg zj zm 0 zo zp po)) rfl ?_
      cases h
      exact OEnds.vret hm_6 rfl rfl
theorem ok_clearPlan_2_0 {zq zn zl za zd zb zc zk zh : List Int32} {zj zm zo zp : Int32} {c0 : ACell} {po : List ACell} {k30 : List Int32 → List Int32 → List Int32 → Int32 → Int32 → Option (List Int32 × List Int32 × List Int32 × Int32)} (hk30 : ∀ {zi zf zg : List Int32} {ze v1 : Int32} {w_o_planRoom w_o_planGrid w_o_planOrder : List Int32} {w_o_planOrderLength : Int32}, k30 zi zf zg ze v1 = some (w_o_planRoom, w_o_planGrid, w_o_planOrder, w_o_planOrderLength) → OEnds own_P 6 30 [qr 1, qi v1] [] (c0 :: bk0 zq zn zl za zd zb zc zk zh zi zf zg zj zm ze zo zp po) (none, (c0 :: bk0 zq zn zl za zd zb zc zk zh w_o_planRoom w_o_planGrid w_o_planOrder zj zm w_o_planOrderLength zo zp po), 0, 0)) : ∀ (n : Nat), ∀ {zi zf zg : List Int32} {ze v1 : Int32} {w_o_planRoom w_o_planGrid w_o_planOrder : List Int32} {w_o_planOrderLength : Int32}, f_clearPlan_2 k30 n zi zf zg ze v1 = some (w_o_planRoom, w_o_planGrid, w_o_planOrder, w_o_planOrderLength) → OEnds own_P 6 2 [qr 1, qi v1] [] (c0 :: bk0 zq zn zl za zd zb zc zk zh zi zf zg zj zm ze zo zp po) (none, (c0 :: bk0 zq zn zl za zd zb zc zk zh w_o_planRoom w_o_planGrid w_o_planOrder zj zm w_o_planOrderLength zo zp po), 0, 0) := by
  intro n
  induction n with
  | zero => intro zi zf zg ze v1 w_o_planRoom w_o_planGrid w_o_planOrder w_o_planOrderLength h; cases h
  | succ n ih =>
    intro zi zf zg ze v1 w_o_planRoom w_o_planGrid w_o_planOrder w_o_planOrderLength h
    unfold f_clearPlan_2 at h
    refine OEnds.adv hm_6 2 (pc' := 5) (L' := [qr 1, qi v1]) (S' := [.int 32, .int v1]) (H' := (c0 :: bk0 zq zn zl za zd zb zc zk zh zi zf zg zj zm ze zo zp po)) rfl ?_
    by_cases hc6 : v1 < (32 : Int32)
    · simp only [if_pos hc6] at h
      refine OEnds.icmpF hm_6 rfl ((tlt hc6).2.1) ?_
      refine OEnds.adv hm_6 4 (pc' := 14) (L' := [qr 1, qi v1]) (S' := [.int (-1), .int v1, .ref 11]) (H' := (c0 :: bk0 zq zn zl za zd zb zc zk zh zi zf zg zj zm ze zo zp po)) rfl ?_
      obtain ⟨A16, hA16, h⟩ := bnd h
      refine OEnds.plain hm_6 rfl rfl (x_iastore rfl (Nat.le_of_ble_eq_true rfl) hA16) ?_
      refine OEnds.adv hm_6 4 (pc' := 21) (L' := [qr 1, qi v1]) (S' := [.int 0, .int v1, .ref 13]) (H' := (c0 :: bk0 zq zn zl za zd zb zc zk zh A16 zf zg zj zm ze zo zp po)) rfl ?_
      obtain ⟨A17, hA17, h⟩ := bnd h
      refine OEnds.plain hm_6 rfl rfl (x_iastore rfl (Nat.le_of_ble_eq_true rfl) hA17) ?_
      refine OEnds.adv hm_6 2 (pc' := 2) (L' := [qr 1, qi (v1 + (1 : Int32))]) (S' := []) (H' := (c0 :: bk0 zq zn zl za zd zb zc zk zh A16 zf A17 zj zm ze zo zp po)) rfl ?_
      exact ih h
    · simp only [if_neg hc6] at h
      refine OEnds.icmpT hm_6 rfl (q := 28) rfl ((flt hc6).2.1) ?_
      refine OEnds.adv hm_6 2 (pc' := 30) (L' := [qr 1, qi 0]) (S' := []) (H' := (c0 :: bk0 zq zn zl za zd zb zc zk zh zi zf zg zj zm ze zo zp po)) rfl ?_
      exact hk30 h
theorem ok_clearPlan_0 {zq zn zl za zd zb zc zk zh : List Int32} {zj zm zo zp : Int32} {c0 : ACell} {po : List ACell} {zi zf zg : List Int32} {ze : Int32} {w_o_planRoom w_o_planGrid w_o_planOrder : List Int32} {w_o_planOrderLength : Int32} (h : f_clearPlan zi zf zg ze = some (w_o_planRoom, w_o_planGrid, w_o_planOrder, w_o_planOrderLength)) : OEnds own_P 6 0 [qr 1, qu] [] (c0 :: bk0 zq zn zl za zd zb zc zk zh zi zf zg zj zm ze zo zp po) (none, (c0 :: bk0 zq zn zl za zd zb zc zk zh w_o_planRoom w_o_planGrid w_o_planOrder zj zm w_o_planOrderLength zo zp po), 0, 0) := by
  unfold f_clearPlan at h
  refine OEnds.adv hm_6 2 (pc' := 2) (L' := [qr 1, qi 0]) (S' := []) (H' := (c0 :: bk0 zq zn zl za zd zb zc zk zh zi zf zg zj zm ze zo zp po)) rfl ?_
  exact ok_clearPlan_2_0 (k30 := f_clearPlan_30 100000) (ok_clearPlan_30_0 100000) 100000 h
theorem ok_init_0 {c0 : ACell} {v1 v2 v3 : Int32} {w_o_roomsOfType w_o_roomsAtLeast w_o_firstRoomOfType w_o_slotActive w_o_slotType w_o_slotArrive w_o_slotNights w_o_exactCount w_o_atLeastCount w_o_planRoom w_o_planGrid w_o_planOrder : List Int32} {w_o_totalRooms w_o_activeStays w_o_planOrderLength w_o_planCurrent w_o_planUnplaced : Int32} (h : f_init v1 v2 v3 = some (w_o_roomsOfType, w_o_roomsAtLeast, w_o_firstRoomOfType, w_o_slotActive, w_o_slotType, w_o_slotArrive, w_o_slotNights, w_o_exactCount, w_o_atLeastCount, w_o_planRoom, w_o_planGrid, w_o_planOrder, w_o_totalRooms, w_o_activeStays, w_o_planOrderLength, w_o_planCurrent, w_o_planUnplaced)) : OEnds own_P 1 0 [qr 1, qi v1, qi v2, qi v3] [] (c0 :: (.inl (0, [.null, .null, .null, .null, .null, .null, .null, .null, .null, .null, .null, .null, .int 0, .int 0, .int 0, .int 0, .int 0]) : ACell) :: []) (none, (c0 :: bk0 w_o_roomsOfType w_o_roomsAtLeast w_o_firstRoomOfType w_o_slotActive w_o_slotType w_o_slotArrive w_o_slotNights w_o_exactCount w_o_atLeastCount w_o_planRoom w_o_planGrid w_o_planOrder w_o_totalRooms w_o_activeStays w_o_planOrderLength w_o_planCurrent w_o_planUnplaced []), 12, 1161) := by
  unfold f_init at h
  refine OEnds.adv hm_1 1 (pc' := 1) (L' := [qr 1, qi v1, qi v2, qi v3]) (S' := [.ref 1]) (H' := (c0 :: (.inl (0, [.null, .null, .null, .null, .null, .null, .null, .null, .null, .null, .null, .null, .int 0, .int 0, .int 0, .int 0, .int 0]) : ACell) :: [])) rfl ?_
  refine OEnds.oinit hm_1 rfl ⟨Nat.le_of_ble_eq_true rfl, Nat.le_of_ble_eq_true rfl⟩ ?_
  refine OEnds.adv hm_1 2 (pc' := 6) (L' := [qr 1, qi v1, qi v2, qi v3]) (S' := [.int 3, .ref 1]) (H' := (c0 :: (.inl (0, [.null, .null, .null, .null, .null, .null, .null, .null, .null, .null, .null, .null, .int 0, .int 0, .int 0, .int 0, .int 0]) : ACell) :: [])) rfl ?_
  refine OEnds.made1 hm_1 rfl rfl (ks := 3) rfl rfl ?_
  refine OEnds.adv hm_1 3 (pc' := 13) (L' := [qr 1, qi v1, qi v2, qi v3]) (S' := [.int 3, .ref 1]) (H' := (c0 :: (.inl (0, [.ref 2, .null, .null, .null, .null, .null, .null, .null, .null, .null, .null, .null, .int 0, .int 0, .int 0, .int 0, .int 0]) : ACell) :: .inr (.inl (false, (List.replicate 3 0))) :: [])) rfl ?_
  refine OEnds.made1 hm_1 rfl rfl (ks := 3) rfl rfl ?_
  refine OEnds.adv hm_1 3 (pc' := 20) (L' := [qr 1, qi v1, qi v2, qi v3]) (S' := [.int 3, .ref 1]) (H' := (c0 :: (.inl (0, [.ref 2, .ref 3, .null, .null, .null, .null, .null, .null, .null, .null, .null, .null, .int 0, .int 0, .int 0, .int 0, .int 0]) : ACell) :: .inr (.inl (false, (List.replicate 3 0))) :: .inr (.inl (false, (List.replicate 3 0))) :: [])) rfl ?_
  refine OEnds.made1 hm_1 rfl rfl (ks := 3) rfl rfl ?_
  refine OEnds.adv hm_1 3 (pc' := 28) (L' := [qr 1, qi v1, qi v2, qi v3]) (S' := [.int 32, .ref 1]) (H' := (c0 :: (.inl (0, [.ref 2, .ref 3, .ref 4, .null, .null, .null, .null, .null, .null, .null, .null, .null, .int 0, .int 0, .int 0, .int 0, .int 0]) : ACell) :: .inr (.inl (false, (List.replicate 3 0))) :: .inr (.inl (false, (List.replicate 3 0))) :: .inr (.inl (false, (List.replicate 3 0))) :: [])) rfl ?_
  refine OEnds.made1 hm_1 rfl rfl (ks := 32) rfl rfl ?_
  refine OEnds.adv hm_1 3 (pc' := 36) (L' := [qr 1, qi v1, qi v2, qi v3]) (S' := [.int 32, .ref 1]) (H' := (c0 :: (.inl (0, [.ref 2, .ref 3, .ref 4, .ref 5, .null, .null, .null, .null, .null, .null, .null, .null, .int 0, .int 0, .int 0, .int 0, .int 0]) : ACell) :: .inr (.inl (false, (List.replicate 3 0))) :: .inr (.inl (false, (List.replicate 3 0))) :: .inr (.inl (false, (List.replicate 3 0))) :: .inr (.inl (true, (List.replicate 32 0))) :: [])) rfl ?_
  refine OEnds.made1 hm_1 rfl rfl (ks := 32) rfl rfl ?_
  refine OEnds.adv hm_1 3 (pc' := 44) (L' := [qr 1, qi v1, qi v2, qi v3]) (S' := [.int 32, .ref 1]) (H' := (c0 :: (.inl (0, [.ref 2, .ref 3, .ref 4, .ref 5, .ref 6, .null, .null, .null, .null, .null, .null, .null, .int 0, .int 0, .int 0, .int 0, .int 0]) : ACell) :: .inr (.inl (false, (List.replicate 3 0))) :: .inr (.inl (false, (List.replicate 3 0))) :: .inr (.inl (false, (List.replicate 3 0))) :: .inr (.inl (true, (List.replicate 32 0))) :: .inr (.inl (false, (List.replicate 32 0))) :: [])) rfl ?_
  refine OEnds.made1 hm_1 rfl rfl (ks := 32) rfl rfl ?_
  refine OEnds.adv hm_1 3 (pc' := 52) (L' := [qr 1, qi v1, qi v2, qi v3]) (S' := [.int 32, .ref 1]) (H' := (c0 :: (.inl (0, [.ref 2, .ref 3, .ref 4, .ref 5, .ref 6, .ref 7, .null, .null, .null, .null, .null, .null, .int 0, .int 0, .int 0, .int 0, .int 0]) : ACell) :: .inr (.inl (false, (List.replicate 3 0))) :: .inr (.inl (false, (List.replicate 3 0))) :: .inr (.inl (false, (List.replicate 3 0))) :: .inr (.inl (true, (List.replicate 32 0))) :: .inr (.inl (false, (List.replicate 32 0))) :: .inr (.inl (false, (List.replicate 32 0))) :: [])) rfl ?_
  refine OEnds.made1 hm_1 rfl rfl (ks := 32) rfl rfl ?_
  refine OEnds.adv hm_1 3 (pc' := 60) (L' := [qr 1, qi v1, qi v2, qi v3]) (S' := [.int 96, .ref 1]) (H' := (c0 :: (.inl (0, [.ref 2, .ref 3, .ref 4, .ref 5, .ref 6, .ref 7, .ref 8, .null, .null, .null, .null, .null, .int 0, .int 0, .int 0, .int 0, .int 0]) : ACell) :: .inr (.inl (false, (List.replicate 3 0))) :: .inr (.inl (false, (List.replicate 3 0))) :: .inr (.inl (false, (List.replicate 3 0))) :: .inr (.inl (true, (List.replicate 32 0))) :: .inr (.inl (false, (List.replicate 32 0))) :: .inr (.inl (false, (List.replicate 32 0))) :: .inr (.inl (false, (List.replicate 32 0))) :: [])) rfl ?_
  refine OEnds.made1 hm_1 rfl rfl (ks := 96) rfl rfl ?_
  refine OEnds.adv hm_1 3 (pc' := 68) (L' := [qr 1, qi v1, qi v2, qi v3]) (S' := [.int 96, .ref 1]) (H' := (c0 :: (.inl (0, [.ref 2, .ref 3, .ref 4, .ref 5, .ref 6, .ref 7, .ref 8, .ref 9, .null, .null, .null, .null, .int 0, .int 0, .int 0, .int 0, .int 0]) : ACell) :: .inr (.inl (false, (List.replicate 3 0))) :: .inr (.inl (false, (List.replicate 3 0))) :: .inr (.inl (false, (List.replicate 3 0))) :: .inr (.inl (true, (List.replicate 32 0))) :: .inr (.inl (false, (List.replicate 32 0))) :: .inr (.inl (false, (List.replicate 32 0))) :: .inr (.inl (false, (List.replicate 32 0))) :: .inr (.inl (false, (List.replicate 96 0))) :: [])) rfl ?_
  refine OEnds.made1 hm_1 rfl rfl (ks := 96) rfl rfl ?_
  refine OEnds.adv hm_1 3 (pc' := 76) (L' := [qr 1, qi v1, qi v2, qi v3]) (S' := [.int 32, .ref 1]) (H' := (c0 :: (.inl (0, [.ref 2, .ref 3, .ref 4, .ref 5, .ref 6, .ref 7, .ref 8, .ref 9, .ref 10, .null, .null, .null, .int 0, .int 0, .int 0, .int 0, .int 0]) : ACell) :: .inr (.inl (false, (List.replicate 3 0))) :: .inr (.inl (false, (List.replicate 3 0))) :: .inr (.inl (false, (List.replicate 3 0))) :: .inr (.inl (true, (List.replicate 32 0))) :: .inr (.inl (false, (List.replicate 32 0))) :: .inr (.inl (false, (List.replicate 32 0))) :: .inr (.inl (false, (List.replicate 32 0))) :: .inr (.inl (false, (List.replicate 96 0))) :: .inr (.inl (false, (List.replicate 96 0))) :: [])) rfl ?_
  refine OEnds.made1 hm_1 rfl rfl (ks := 32) rfl rfl ?_
  refine OEnds.adv hm_1 3 (pc' := 85) (L' := [qr 1, qi v1, qi v2, qi v3]) (S' := [.int 768, .ref 1]) (H' := (c0 :: (.inl (0, [.ref 2, .ref 3, .ref 4, .ref 5, .ref 6, .ref 7, .ref 8, .ref 9, .ref 10, .ref 11, .null, .null, .int 0, .int 0, .int 0, .int 0, .int 0]) : ACell) :: .inr (.inl (false, (List.replicate 3 0))) :: .inr (.inl (false, (List.replicate 3 0))) :: .inr (.inl (false, (List.replicate 3 0))) :: .inr (.inl (true, (List.replicate 32 0))) :: .inr (.inl (false, (List.replicate 32 0))) :: .inr (.inl (false, (List.replicate 32 0))) :: .inr (.inl (false, (List.replicate 32 0))) :: .inr (.inl (false, (List.replicate 96 0))) :: .inr (.inl (false, (List.replicate 96 0))) :: .inr (.inl (false, (List.replicate 32 0))) :: [])) rfl ?_
  refine OEnds.made1 hm_1 rfl rfl (ks := 768) rfl rfl ?_
  refine OEnds.adv hm_1 3 (pc' := 93) (L' := [qr 1, qi v1, qi v2, qi v3]) (S' := [.int 32, .ref 1]) (H' := (c0 :: (.inl (0, [.ref 2, .ref 3, .ref 4, .ref 5, .ref 6, .ref 7, .ref 8, .ref 9, .ref 10, .ref 11, .ref 12, .null, .int 0, .int 0, .int 0, .int 0, .int 0]) : ACell) :: .inr (.inl (false, (List.replicate 3 0))) :: .inr (.inl (false, (List.replicate 3 0))) :: .inr (.inl (false, (List.replicate 3 0))) :: .inr (.inl (true, (List.replicate 32 0))) :: .inr (.inl (false, (List.replicate 32 0))) :: .inr (.inl (false, (List.replicate 32 0))) :: .inr (.inl (false, (List.replicate 32 0))) :: .inr (.inl (false, (List.replicate 96 0))) :: .inr (.inl (false, (List.replicate 96 0))) :: .inr (.inl (false, (List.replicate 32 0))) :: .inr (.inl (false, (List.replicate 768 0))) :: [])) rfl ?_
  refine OEnds.made1 hm_1 rfl rfl (ks := 32) rfl rfl ?_
  refine OEnds.adv hm_1 6 (pc' := 105) (L' := [qr 1, qi v1, qi v2, qi v3]) (S' := [.int v1, .ref 1, .int 0, .ref 2]) (H' := (c0 :: bk0 (List.replicate 3 0) (List.replicate 3 0) (List.replicate 3 0) (List.replicate 32 0) (List.replicate 32 0) (List.replicate 32 0) (List.replicate 32 0) (List.replicate 96 0) (List.replicate 96 0) (List.replicate 32 0) (List.replicate 768 0) (List.replicate 32 0) 0 0 0 0 0 [])) rfl ?_
  obtain ⟨r19, hq7, h⟩ := bnd h
  refine OEnds.call0 hm_1 rfl rfl (by decide) rfl (as := [.ref 1, .int v1]) (rest := [.int 0, .ref 2]) rfl rfl (ok_clampRooms_0 hq7) ?_
  show OEnds own_P 1 108 [qr 1, qi v1, qi v2, qi v3] [.int r19, .int 0, .ref 2] (c0 :: bk0 (List.replicate 3 0) (List.replicate 3 0) (List.replicate 3 0) (List.replicate 32 0) (List.replicate 32 0) (List.replicate 32 0) (List.replicate 32 0) (List.replicate 96 0) (List.replicate 96 0) (List.replicate 32 0) (List.replicate 768 0) (List.replicate 32 0) 0 0 0 0 0 []) _
  obtain ⟨A20, hA20, h⟩ := bnd h
  refine OEnds.plain hm_1 rfl rfl (x_iastore rfl (Nat.le_of_ble_eq_true rfl) hA20) ?_
  refine OEnds.adv hm_1 5 (pc' := 116) (L' := [qr 1, qi v1, qi v2, qi v3]) (S' := [.int v2, .ref 1, .int 1, .ref 2]) (H' := (c0 :: bk0 A20 (List.replicate 3 0) (List.replicate 3 0) (List.replicate 32 0) (List.replicate 32 0) (List.replicate 32 0) (List.replicate 32 0) (List.replicate 96 0) (List.replicate 96 0) (List.replicate 32 0) (List.replicate 768 0) (List.replicate 32 0) 0 0 0 0 0 [])) rfl ?_
  obtain ⟨r21, hq8, h⟩ := bnd h
  refine OEnds.call0 hm_1 rfl rfl (by decide) rfl (as := [.ref 1, .int v2]) (rest := [.int 1, .ref 2]) rfl rfl (ok_clampRooms_0 hq8) ?_
  show OEnds own_P 1 119 [qr 1, qi v1, qi v2, qi v3] [.int r21, .int 1, .ref 2] (c0 :: bk0 A20 (List.replicate 3 0) (List.replicate 3 0) (List.replicate 32 0) (List.replicate 32 0) (List.replicate 32 0) (List.replicate 32 0) (List.replicate 96 0) (List.replicate 96 0) (List.replicate 32 0) (List.replicate 768 0) (List.replicate 32 0) 0 0 0 0 0 []) _
  obtain ⟨A22, hA22, h⟩ := bnd h
  refine OEnds.plain hm_1 rfl rfl (x_iastore rfl (Nat.le_of_ble_eq_true rfl) hA22) ?_
  refine OEnds.adv hm_1 5 (pc' := 127) (L' := [qr 1, qi v1, qi v2, qi v3]) (S' := [.int v3, .ref 1, .int 2, .ref 2]) (H' := (c0 :: bk0 A22 (List.replicate 3 0) (List.replicate 3 0) (List.replicate 32 0) (List.replicate 32 0) (List.replicate 32 0) (List.replicate 32 0) (List.replicate 96 0) (List.replicate 96 0) (List.replicate 32 0) (List.replicate 768 0) (List.replicate 32 0) 0 0 0 0 0 [])) rfl ?_
  obtain ⟨r23, hq9, h⟩ := bnd h
  refine OEnds.call0 hm_1 rfl rfl (by decide) rfl (as := [.ref 1, .int v3]) (rest := [.int 2, .ref 2]) rfl rfl (ok_clampRooms_0 hq9) ?_
  show OEnds own_P 1 130 [qr 1, qi v1, qi v2, qi v3] [.int r23, .int 2, .ref 2] (c0 :: bk0 A22 (List.replicate 3 0) (List.replicate 3 0) (List.replicate 32 0) (List.replicate 32 0) (List.replicate 32 0) (List.replicate 32 0) (List.replicate 96 0) (List.replicate 96 0) (List.replicate 32 0) (List.replicate 768 0) (List.replicate 32 0) 0 0 0 0 0 []) _
  obtain ⟨A24, hA24, h⟩ := bnd h
  refine OEnds.plain hm_1 rfl rfl (x_iastore rfl (Nat.le_of_ble_eq_true rfl) hA24) ?_
  refine OEnds.adv hm_1 1 (pc' := 132) (L' := [qr 1, qi v1, qi v2, qi v3]) (S' := [.ref 1]) (H' := (c0 :: bk0 A24 (List.replicate 3 0) (List.replicate 3 0) (List.replicate 32 0) (List.replicate 32 0) (List.replicate 32 0) (List.replicate 32 0) (List.replicate 96 0) (List.replicate 96 0) (List.replicate 32 0) (List.replicate 768 0) (List.replicate 32 0) 0 0 0 0 0 [])) rfl ?_
  obtain ⟨⟨s25, s26, s27⟩, hq10, h⟩ := bnd h
  refine OEnds.call0 hm_1 rfl rfl (by decide) rfl (as := [.ref 1]) (rest := []) rfl rfl (ok_computeRoomTables_0 hq10) ?_
  refine OEnds.adv hm_1 1 (pc' := 136) (L' := [qr 1, qi v1, qi v2, qi v3]) (S' := [.ref 1]) (H' := (c0 :: bk0 A24 s25 s26 (List.replicate 32 0) (List.replicate 32 0) (List.replicate 32 0) (List.replicate 32 0) (List.replicate 96 0) (List.replicate 96 0) (List.replicate 32 0) (List.replicate 768 0) (List.replicate 32 0) s27 0 0 0 0 [])) rfl ?_
  obtain ⟨⟨s28, s29, s30, s31, s32⟩, hq11, h⟩ := bnd h
  refine OEnds.call0 hm_1 rfl rfl (by decide) rfl (as := [.ref 1]) (rest := []) rfl rfl (ok_resetStays_0 hq11) ?_
  refine OEnds.adv hm_1 1 (pc' := 140) (L' := [qr 1, qi v1, qi v2, qi v3]) (S' := [.ref 1]) (H' := (c0 :: bk0 A24 s25 s26 s28 s29 s30 s31 (List.replicate 96 0) (List.replicate 96 0) (List.replicate 32 0) (List.replicate 768 0) (List.replicate 32 0) s27 s32 0 0 0 [])) rfl ?_
  obtain ⟨⟨s33, s34⟩, hq12, h⟩ := bnd h
  refine OEnds.call0 hm_1 rfl rfl (by decide) rfl (as := [.ref 1]) (rest := []) rfl rfl (ok_resetCounts_0 hq12) ?_
  refine OEnds.adv hm_1 1 (pc' := 144) (L' := [qr 1, qi v1, qi v2, qi v3]) (S' := [.ref 1]) (H' := (c0 :: bk0 A24 s25 s26 s28 s29 s30 s31 s33 s34 (List.replicate 32 0) (List.replicate 768 0) (List.replicate 32 0) s27 s32 0 0 0 [])) rfl ?_
  obtain ⟨⟨s35, s36, s37, s38⟩, hq13, h⟩ := bnd h
  refine OEnds.call0 hm_1 rfl rfl (by decide) rfl (as := [.ref 1]) (rest := []) rfl rfl (ok_clearPlan_0 hq13) ?_
  refine OEnds.adv hm_1 6 (pc' := 157) (L' := [qr 1, qi v1, qi v2, qi v3]) (S' := []) (H' := (c0 :: bk0 A24 s25 s26 s28 s29 s30 s31 s33 s34 s35 s36 s37 s27 s32 s38 0 0 [])) rfl ?_
  cases h
  exact OEnds.vret hm_1 rfl rfl
theorem ok_clampRooms_1 {zq zn zl za zd zb zc zk zh zi zf zg : List Int32} {zj zm ze zo zp : Int32} {c0 c1 c2 c3 c4 c5 c6 c7 c8 c9 c10 c11 c12 c13 : ACell} {po : List ACell} {v1 res : Int32} (h : f_clampRooms v1 = some res) : OEnds own_P 2 0 [qr 14, qi v1] [] (c0 :: c1 :: c2 :: c3 :: c4 :: c5 :: c6 :: c7 :: c8 :: c9 :: c10 :: c11 :: c12 :: c13 :: bk1 zq zn zl za zd zb zc zk zh zi zf zg zj zm ze zo zp po) (some (.int res), (c0 :: c1 :: c2 :: c3 :: c4 :: c5 :: c6 :: c7 :: c8 :: c9 :: c10 :: c11 :: c12 :: c13 :: bk1 zq zn zl za zd zb zc zk zh zi zf zg zj zm ze zo zp po), 0, 0) := by
  unfold f_clampRooms at h
  refine OEnds.adv hm_2 1 (pc' := 1) (L' := [qr 14, qi v1]) (S' := [.int v1]) (H' := (c0 :: c1 :: c2 :: c3 :: c4 :: c5 :: c6 :: c7 :: c8 :: c9 :: c10 :: c11 :: c12 :: c13 :: bk1 zq zn zl za zd zb zc zk zh zi zf zg zj zm ze zo zp po)) rfl ?_
  by_cases hc14 : v1 < (0 : Int32)
  · simp only [if_pos hc14] at h
    refine OEnds.ifF hm_2 rfl ((tlt hc14).2.1) ?_
    refine OEnds.adv hm_2 1 (pc' := 5) (L' := [qr 14, qi v1]) (S' := [.int 0]) (H' := (c0 :: c1 :: c2 :: c3 :: c4 :: c5 :: c6 :: c7 :: c8 :: c9 :: c10 :: c11 :: c12 :: c13 :: bk1 zq zn zl za zd zb zc zk zh zi zf zg zj zm ze zo zp po)) rfl ?_
    cases h
    exact OEnds.iret hm_2 rfl rfl
  · simp only [if_neg hc14] at h
    refine OEnds.ifT hm_2 rfl (q := 6) rfl ((flt hc14).2.1) ?_
    refine OEnds.adv hm_2 2 (pc' := 9) (L' := [qr 14, qi v1]) (S' := [.int 8, .int v1]) (H' := (c0 :: c1 :: c2 :: c3 :: c4 :: c5 :: c6 :: c7 :: c8 :: c9 :: c10 :: c11 :: c12 :: c13 :: bk1 zq zn zl za zd zb zc zk zh zi zf zg zj zm ze zo zp po)) rfl ?_
    by_cases hc15 : (8 : Int32) < v1
    · simp only [if_pos hc15] at h
      refine OEnds.icmpF hm_2 rfl ((tlt hc15).2.2.2) ?_
      refine OEnds.adv hm_2 1 (pc' := 14) (L' := [qr 14, qi v1]) (S' := [.int 8]) (H' := (c0 :: c1 :: c2 :: c3 :: c4 :: c5 :: c6 :: c7 :: c8 :: c9 :: c10 :: c11 :: c12 :: c13 :: bk1 zq zn zl za zd zb zc zk zh zi zf zg zj zm ze zo zp po)) rfl ?_
      cases h
      exact OEnds.iret hm_2 rfl rfl
    · simp only [if_neg hc15] at h
      refine OEnds.icmpT hm_2 rfl (q := 15) rfl ((flt hc15).2.2.2) ?_
      refine OEnds.adv hm_2 1 (pc' := 16) (L' := [qr 14, qi v1]) (S' := [.int v1]) (H' := (c0 :: c1 :: c2 :: c3 :: c4 :: c5 :: c6 :: c7 :: c8 :: c9 :: c10 :: c11 :: c12 :: c13 :: bk1 zq zn zl za zd zb zc zk zh zi zf zg zj zm ze zo zp po)) rfl ?_
      cases h
      exact OEnds.iret hm_2 rfl rfl
theorem ok_computeRoomTables_1 {zq za zd zb zc zk zh zi zf zg : List Int32} {zm ze zo zp : Int32} {c0 c1 c2 c3 c4 c5 c6 c7 c8 c9 c10 c11 c12 c13 : ACell} {po : List ACell} {zn zl : List Int32} {zj : Int32} {w_o_roomsAtLeast w_o_firstRoomOfType : List Int32} {w_o_totalRooms : Int32} (h : f_computeRoomTables zq zn zl zj = some (w_o_roomsAtLeast, w_o_firstRoomOfType, w_o_totalRooms)) : OEnds own_P 3 0 [qr 14, qu, qu, qu] [] (c0 :: c1 :: c2 :: c3 :: c4 :: c5 :: c6 :: c7 :: c8 :: c9 :: c10 :: c11 :: c12 :: c13 :: bk1 zq zn zl za zd zb zc zk zh zi zf zg zj zm ze zo zp po) (none, (c0 :: c1 :: c2 :: c3 :: c4 :: c5 :: c6 :: c7 :: c8 :: c9 :: c10 :: c11 :: c12 :: c13 :: bk1 zq w_o_roomsAtLeast w_o_firstRoomOfType za zd zb zc zk zh zi zf zg w_o_totalRooms zm ze zo zp po), 0, 0) := by
  unfold f_computeRoomTables at h
  refine OEnds.adv hm_3 3 (pc' := 5) (L' := [qr 14, qu, qu, qu]) (S' := [.int 0, .ref 15]) (H' := (c0 :: c1 :: c2 :: c3 :: c4 :: c5 :: c6 :: c7 :: c8 :: c9 :: c10 :: c11 :: c12 :: c13 :: bk1 zq zn zl za zd zb zc zk zh zi zf zg zj zm ze zo zp po)) rfl ?_
  obtain ⟨x1, hx1, h⟩ := bnd h
  refine OEnds.plain hm_3 rfl rfl (x_iaload rfl hx1) ?_
  refine OEnds.adv hm_3 4 (pc' := 12) (L' := [qr 14, qi x1, qu, qu]) (S' := [.int 1, .ref 15]) (H' := (c0 :: c1 :: c2 :: c3 :: c4 :: c5 :: c6 :: c7 :: c8 :: c9 :: c10 :: c11 :: c12 :: c13 :: bk1 zq zn zl za zd zb zc zk zh zi zf zg zj zm ze zo zp po)) rfl ?_
  obtain ⟨x2, hx2, h⟩ := bnd h
  refine OEnds.plain hm_3 rfl rfl (x_iaload rfl hx2) ?_
  refine OEnds.adv hm_3 4 (pc' := 19) (L' := [qr 14, qi x1, qi x2, qu]) (S' := [.int 2, .ref 15]) (H' := (c0 :: c1 :: c2 :: c3 :: c4 :: c5 :: c6 :: c7 :: c8 :: c9 :: c10 :: c11 :: c12 :: c13 :: bk1 zq zn zl za zd zb zc zk zh zi zf zg zj zm ze zo zp po)) rfl ?_
  obtain ⟨x3, hx3, h⟩ := bnd h
  refine OEnds.plain hm_3 rfl rfl (x_iaload rfl hx3) ?_
  refine OEnds.adv hm_3 5 (pc' := 27) (L' := [qr 14, qi x1, qi x2, qi x3]) (S' := [.int x3, .int 2, .ref 16]) (H' := (c0 :: c1 :: c2 :: c3 :: c4 :: c5 :: c6 :: c7 :: c8 :: c9 :: c10 :: c11 :: c12 :: c13 :: bk1 zq zn zl za zd zb zc zk zh zi zf zg zj zm ze zo zp po)) rfl ?_
  obtain ⟨A4, hA4, h⟩ := bnd h
  refine OEnds.plain hm_3 rfl rfl (x_iastore rfl (Nat.le_of_ble_eq_true rfl) hA4) ?_
  refine OEnds.adv hm_3 6 (pc' := 36) (L' := [qr 14, qi x1, qi x2, qi x3]) (S' := [.int (x2 + x3), .int 1, .ref 16]) (H' := (c0 :: c1 :: c2 :: c3 :: c4 :: c5 :: c6 :: c7 :: c8 :: c9 :: c10 :: c11 :: c12 :: c13 :: bk1 zq A4 zl za zd zb zc zk zh zi zf zg zj zm ze zo zp po)) rfl ?_
  obtain ⟨A5, hA5, h⟩ := bnd h
  refine OEnds.plain hm_3 rfl rfl (x_iastore rfl (Nat.le_of_ble_eq_true rfl) hA5) ?_
  refine OEnds.adv hm_3 8 (pc' := 47) (L' := [qr 14, qi x1, qi x2, qi x3]) (S' := [.int ((x1 + x2) + x3), .int 0, .ref 16]) (H' := (c0 :: c1 :: c2 :: c3 :: c4 :: c5 :: c6 :: c7 :: c8 :: c9 :: c10 :: c11 :: c12 :: c13 :: bk1 zq A5 zl za zd zb zc zk zh zi zf zg zj zm ze zo zp po)) rfl ?_
  obtain ⟨A6, hA6, h⟩ := bnd h
  refine OEnds.plain hm_3 rfl rfl (x_iastore rfl (Nat.le_of_ble_eq_true rfl) hA6) ?_
  refine OEnds.adv hm_3 4 (pc' := 54) (L' := [qr 14, qi x1, qi x2, qi x3]) (S' := [.int 0, .int 0, .ref 17]) (H' := (c0 :: c1 :: c2 :: c3 :: c4 :: c5 :: c6 :: c7 :: c8 :: c9 :: c10 :: c11 :: c12 :: c13 :: bk1 zq A6 zl za zd zb zc zk zh zi zf zg zj zm ze zo zp po)) rfl ?_
  obtain ⟨A7, hA7, h⟩ := bnd h
  refine OEnds.plain hm_3 rfl rfl (x_iastore rfl (Nat.le_of_ble_eq_true rfl) hA7) ?_
  refine OEnds.adv hm_3 4 (pc' := 61) (L' := [qr 14, qi x1, qi x2, qi x3]) (S' := [.int x1, .int 1, .ref 17]) (H' := (c0 :: c1 :: c2 :: c3 :: c4 :: c5 :: c6 :: c7 :: c8 :: c9 :: c10 :: c11 :: c12 :: c13 :: bk1 zq A6 A7 za zd zb zc zk zh zi zf zg zj zm ze zo zp po)) rfl ?_
  obtain ⟨A8, hA8, h⟩ := bnd h
  refine OEnds.plain hm_3 rfl rfl (x_iastore rfl (Nat.le_of_ble_eq_true rfl) hA8) ?_
  refine OEnds.adv hm_3 6 (pc' := 70) (L' := [qr 14, qi x1, qi x2, qi x3]) (S' := [.int (x1 + x2), .int 2, .ref 17]) (H' := (c0 :: c1 :: c2 :: c3 :: c4 :: c5 :: c6 :: c7 :: c8 :: c9 :: c10 :: c11 :: c12 :: c13 :: bk1 zq A6 A8 za zd zb zc zk zh zi zf zg zj zm ze zo zp po)) rfl ?_
  obtain ⟨A9, hA9, h⟩ := bnd h
  refine OEnds.plain hm_3 rfl rfl (x_iastore rfl (Nat.le_of_ble_eq_true rfl) hA9) ?_
  refine OEnds.adv hm_3 7 (pc' := 80) (L' := [qr 14, qi x1, qi x2, qi x3]) (S' := []) (H' := (c0 :: c1 :: c2 :: c3 :: c4 :: c5 :: c6 :: c7 :: c8 :: c9 :: c10 :: c11 :: c12 :: c13 :: bk1 zq A6 A9 za zd zb zc zk zh zi zf zg ((x1 + x2) + x3) zm ze zo zp po)) rfl ?_
  cases h
  exact OEnds.vret hm_3 rfl rfl
theorem ok_resetStays_2_1 {zq zn zl zk zh zi zf zg : List Int32} {zj ze zo zp : Int32} {c0 c1 c2 c3 c4 c5 c6 c7 c8 c9 c10 c11 c12 c13 : ACell} {po : List ACell} : ∀ (n : Nat), ∀ {za zd zb zc : List Int32} {zm v1 : Int32} {w_o_slotActive w_o_slotType w_o_slotArrive w_o_slotNights : List Int32} {w_o_activeStays : Int32}, f_resetStays_2 n za zd zb zc zm v1 = some (w_o_slotActive, w_o_slotType, w_o_slotArrive, w_o_slotNights, w_o_activeStays) → OEnds own_P 4 2 [qr 14, qi v1] [] (c0 :: c1 :: c2 :: c3 :: c4 :: c5 :: c6 :: c7 :: c8 :: c9 :: c10 :: c11 :: c12 :: c13 :: bk1 zq zn zl za zd zb zc zk zh zi zf zg zj zm ze zo zp po) (none, (c0 :: c1 :: c2 :: c3 :: c4 :: c5 :: c6 :: c7 :: c8 :: c9 :: c10 :: c11 :: c12 :: c13 :: bk1 zq zn zl w_o_slotActive w_o_slotType w_o_slotArrive w_o_slotNights zk zh zi zf zg zj w_o_activeStays ze zo zp po), 0, 0) := by
  intro n
  induction n with
  | zero => intro za zd zb zc zm v1 w_o_slotActive w_o_slotType w_o_slotArrive w_o_slotNights w_o_activeStays h; cases h
  | succ n ih =>
    intro za zd zb zc zm v1 w_o_slotActive w_o_slotType w_o_slotArrive w_o_slotNights w_o_activeStays h
    unfold f_resetStays_2 at h
    refine OEnds.adv hm_4 2 (pc' := 5) (L' := [qr 14, qi v1]) (S' := [.int 32, .int v1]) (H' := (c0 :: c1 :: c2 :: c3 :: c4 :: c5 :: c6 :: c7 :: c8 :: c9 :: c10 :: c11 :: c12 :: c13 :: bk1 zq zn zl za zd zb zc zk zh zi zf zg zj zm ze zo zp po)) rfl ?_
    by_cases hc16 : v1 < (32 : Int32)
    · simp only [if_pos hc16] at h
      refine OEnds.icmpF hm_4 rfl ((tlt hc16).2.1) ?_
      refine OEnds.adv hm_4 4 (pc' := 14) (L' := [qr 14, qi v1]) (S' := [.int 0, .int v1, .ref 18]) (H' := (c0 :: c1 :: c2 :: c3 :: c4 :: c5 :: c6 :: c7 :: c8 :: c9 :: c10 :: c11 :: c12 :: c13 :: bk1 zq zn zl za zd zb zc zk zh zi zf zg zj zm ze zo zp po)) rfl ?_
      obtain ⟨A10, hA10, h⟩ := bnd h
      refine OEnds.plain hm_4 rfl rfl (x_bastore rfl (Nat.le_of_ble_eq_true rfl) hA10) ?_
      refine OEnds.adv hm_4 4 (pc' := 21) (L' := [qr 14, qi v1]) (S' := [.int 0, .int v1, .ref 19]) (H' := (c0 :: c1 :: c2 :: c3 :: c4 :: c5 :: c6 :: c7 :: c8 :: c9 :: c10 :: c11 :: c12 :: c13 :: bk1 zq zn zl A10 zd zb zc zk zh zi zf zg zj zm ze zo zp po)) rfl ?_
      obtain ⟨A11, hA11, h⟩ := bnd h
      refine OEnds.plain hm_4 rfl rfl (x_iastore rfl (Nat.le_of_ble_eq_true rfl) hA11) ?_
      refine OEnds.adv hm_4 4 (pc' := 28) (L' := [qr 14, qi v1]) (S' := [.int 0, .int v1, .ref 20]) (H' := (c0 :: c1 :: c2 :: c3 :: c4 :: c5 :: c6 :: c7 :: c8 :: c9 :: c10 :: c11 :: c12 :: c13 :: bk1 zq zn zl A10 A11 zb zc zk zh zi zf zg zj zm ze zo zp po)) rfl ?_
      obtain ⟨A12, hA12, h⟩ := bnd h
      refine OEnds.plain hm_4 rfl rfl (x_iastore rfl (Nat.le_of_ble_eq_true rfl) hA12) ?_
      refine OEnds.adv hm_4 4 (pc' := 35) (L' := [qr 14, qi v1]) (S' := [.int 0, .int v1, .ref 21]) (H' := (c0 :: c1 :: c2 :: c3 :: c4 :: c5 :: c6 :: c7 :: c8 :: c9 :: c10 :: c11 :: c12 :: c13 :: bk1 zq zn zl A10 A11 A12 zc zk zh zi zf zg zj zm ze zo zp po)) rfl ?_
      obtain ⟨A13, hA13, h⟩ := bnd h
      refine OEnds.plain hm_4 rfl rfl (x_iastore rfl (Nat.le_of_ble_eq_true rfl) hA13) ?_
      refine OEnds.adv hm_4 2 (pc' := 2) (L' := [qr 14, qi (v1 + (1 : Int32))]) (S' := []) (H' := (c0 :: c1 :: c2 :: c3 :: c4 :: c5 :: c6 :: c7 :: c8 :: c9 :: c10 :: c11 :: c12 :: c13 :: bk1 zq zn zl A10 A11 A12 A13 zk zh zi zf zg zj zm ze zo zp po)) rfl ?_
      exact ih h
    · simp only [if_neg hc16] at h
      refine OEnds.icmpT hm_4 rfl (q := 42) rfl ((flt hc16).2.1) ?_
      refine OEnds.adv hm_4 3 (pc' := 47) (L' := [qr 14, qi v1]) (S' := []) (H' := (c0 :: c1 :: c2 :: c3 :: c4 :: c5 :: c6 :: c7 :: c8 :: c9 :: c10 :: c11 :: c12 :: c13 :: bk1 zq zn zl za zd zb zc zk zh zi zf zg zj 0 ze zo zp po)) rfl ?_
      cases h
      exact OEnds.vret hm_4 rfl rfl
theorem ok_resetStays_1 {zq zn zl zk zh zi zf zg : List Int32} {zj ze zo zp : Int32} {c0 c1 c2 c3 c4 c5 c6 c7 c8 c9 c10 c11 c12 c13 : ACell} {po : List ACell} {za zd zb zc : List Int32} {zm : Int32} {w_o_slotActive w_o_slotType w_o_slotArrive w_o_slotNights : List Int32} {w_o_activeStays : Int32} (h : f_resetStays za zd zb zc zm = some (w_o_slotActive, w_o_slotType, w_o_slotArrive, w_o_slotNights, w_o_activeStays)) : OEnds own_P 4 0 [qr 14, qu] [] (c0 :: c1 :: c2 :: c3 :: c4 :: c5 :: c6 :: c7 :: c8 :: c9 :: c10 :: c11 :: c12 :: c13 :: bk1 zq zn zl za zd zb zc zk zh zi zf zg zj zm ze zo zp po) (none, (c0 :: c1 :: c2 :: c3 :: c4 :: c5 :: c6 :: c7 :: c8 :: c9 :: c10 :: c11 :: c12 :: c13 :: bk1 zq zn zl w_o_slotActive w_o_slotType w_o_slotArrive w_o_slotNights zk zh zi zf zg zj w_o_activeStays ze zo zp po), 0, 0) := by
  unfold f_resetStays at h
  refine OEnds.adv hm_4 2 (pc' := 2) (L' := [qr 14, qi 0]) (S' := []) (H' := (c0 :: c1 :: c2 :: c3 :: c4 :: c5 :: c6 :: c7 :: c8 :: c9 :: c10 :: c11 :: c12 :: c13 :: bk1 zq zn zl za zd zb zc zk zh zi zf zg zj zm ze zo zp po)) rfl ?_
  exact ok_resetStays_2_1 100000 h
theorem ok_resetCounts_2_1 {zq zn zl za zd zb zc zi zf zg : List Int32} {zj zm ze zo zp : Int32} {c0 c1 c2 c3 c4 c5 c6 c7 c8 c9 c10 c11 c12 c13 : ACell} {po : List ACell} : ∀ (n : Nat), ∀ {zk zh : List Int32} {v1 : Int32} {w_o_exactCount : List Int32} {w_o_atLeastCount : List Int32}, f_resetCounts_2 n zk zh v1 = some (w_o_exactCount, w_o_atLeastCount) → OEnds own_P 5 2 [qr 14, qi v1] [] (c0 :: c1 :: c2 :: c3 :: c4 :: c5 :: c6 :: c7 :: c8 :: c9 :: c10 :: c11 :: c12 :: c13 :: bk1 zq zn zl za zd zb zc zk zh zi zf zg zj zm ze zo zp po) (none, (c0 :: c1 :: c2 :: c3 :: c4 :: c5 :: c6 :: c7 :: c8 :: c9 :: c10 :: c11 :: c12 :: c13 :: bk1 zq zn zl za zd zb zc w_o_exactCount w_o_atLeastCount zi zf zg zj zm ze zo zp po), 0, 0) := by
  intro n
  induction n with
  | zero => intro zk zh v1 w_o_exactCount w_o_atLeastCount h; cases h
  | succ n ih =>
    intro zk zh v1 w_o_exactCount w_o_atLeastCount h
    unfold f_resetCounts_2 at h
    refine OEnds.adv hm_5 2 (pc' := 5) (L' := [qr 14, qi v1]) (S' := [.int 96, .int v1]) (H' := (c0 :: c1 :: c2 :: c3 :: c4 :: c5 :: c6 :: c7 :: c8 :: c9 :: c10 :: c11 :: c12 :: c13 :: bk1 zq zn zl za zd zb zc zk zh zi zf zg zj zm ze zo zp po)) rfl ?_
    by_cases hc17 : v1 < (96 : Int32)
    · simp only [if_pos hc17] at h
      refine OEnds.icmpF hm_5 rfl ((tlt hc17).2.1) ?_
      refine OEnds.adv hm_5 4 (pc' := 14) (L' := [qr 14, qi v1]) (S' := [.int 0, .int v1, .ref 22]) (H' := (c0 :: c1 :: c2 :: c3 :: c4 :: c5 :: c6 :: c7 :: c8 :: c9 :: c10 :: c11 :: c12 :: c13 :: bk1 zq zn zl za zd zb zc zk zh zi zf zg zj zm ze zo zp po)) rfl ?_
      obtain ⟨A14, hA14, h⟩ := bnd h
      refine OEnds.plain hm_5 rfl rfl (x_iastore rfl (Nat.le_of_ble_eq_true rfl) hA14) ?_
      refine OEnds.adv hm_5 4 (pc' := 21) (L' := [qr 14, qi v1]) (S' := [.int 0, .int v1, .ref 23]) (H' := (c0 :: c1 :: c2 :: c3 :: c4 :: c5 :: c6 :: c7 :: c8 :: c9 :: c10 :: c11 :: c12 :: c13 :: bk1 zq zn zl za zd zb zc A14 zh zi zf zg zj zm ze zo zp po)) rfl ?_
      obtain ⟨A15, hA15, h⟩ := bnd h
      refine OEnds.plain hm_5 rfl rfl (x_iastore rfl (Nat.le_of_ble_eq_true rfl) hA15) ?_
      refine OEnds.adv hm_5 2 (pc' := 2) (L' := [qr 14, qi (v1 + (1 : Int32))]) (S' := []) (H' := (c0 :: c1 :: c2 :: c3 :: c4 :: c5 :: c6 :: c7 :: c8 :: c9 :: c10 :: c11 :: c12 :: c13 :: bk1 zq zn zl za zd zb zc A14 A15 zi zf zg zj zm ze zo zp po)) rfl ?_
      exact ih h
    · simp only [if_neg hc17] at h
      refine OEnds.icmpT hm_5 rfl (q := 28) rfl ((flt hc17).2.1) ?_
      show OEnds own_P 5 28 [qr 14, qi v1] [] (c0 :: c1 :: c2 :: c3 :: c4 :: c5 :: c6 :: c7 :: c8 :: c9 :: c10 :: c11 :: c12 :: c13 :: bk1 zq zn zl za zd zb zc zk zh zi zf zg zj zm ze zo zp po) _
      cases h
      exact OEnds.vret hm_5 rfl rfl
theorem ok_resetCounts_1 {zq zn zl za zd zb zc zi zf zg : List Int32} {zj zm ze zo zp : Int32} {c0 c1 c2 c3 c4 c5 c6 c7 c8 c9 c10 c11 c12 c13 : ACell} {po : List ACell} {zk zh w_o_exactCount w_o_atLeastCount : List Int32} (h : f_resetCounts zk zh = some (w_o_exactCount, w_o_atLeastCount)) : OEnds own_P 5 0 [qr 14, qu] [] (c0 :: c1 :: c2 :: c3 :: c4 :: c5 :: c6 :: c7 :: c8 :: c9 :: c10 :: c11 :: c12 :: c13 :: bk1 zq zn zl za zd zb zc zk zh zi zf zg zj zm ze zo zp po) (none, (c0 :: c1 :: c2 :: c3 :: c4 :: c5 :: c6 :: c7 :: c8 :: c9 :: c10 :: c11 :: c12 :: c13 :: bk1 zq zn zl za zd zb zc w_o_exactCount w_o_atLeastCount zi zf zg zj zm ze zo zp po), 0, 0) := by
  unfold f_resetCounts at h
  refine OEnds.adv hm_5 2 (pc' := 2) (L' := [qr 14, qi 0]) (S' := []) (H' := (c0 :: c1 :: c2 :: c3 :: c4 :: c5 :: c6 :: c7 :: c8 :: c9 :: c10 :: c11 :: c12 :: c13 :: bk1 zq zn zl za zd zb zc zk zh zi zf zg zj zm ze zo zp po)) rfl ?_
  exact ok_resetCounts_2_1 100000 h
theorem ok_clearPlan_30_1 {zq zn zl za zd zb zc zk zh : List Int32} {zj zm zo zp : Int32} {c0 c1 c2 c3 c4 c5 c6 c7 c8 c9 c10 c11 c12 c13 : ACell} {po : List ACell} : ∀ (n : Nat), ∀ {zi zf zg : List Int32} {ze v1 : Int32} {w_o_planRoom w_o_planGrid w_o_planOrder : List Int32} {w_o_planOrderLength : Int32}, f_clearPlan_30 n zi zf zg ze v1 = some (w_o_planRoom, w_o_planGrid, w_o_planOrder, w_o_planOrderLength) → OEnds own_P 6 30 [qr 14, qi v1] [] (c0 :: c1 :: c2 :: c3 :: c4 :: c5 :: c6 :: c7 :: c8 :: c9 :: c10 :: c11 :: c12 :: c13 :: bk1 zq zn zl za zd zb zc zk zh zi zf zg zj zm ze zo zp po) (none, (c0 :: c1 :: c2 :: c3 :: c4 :: c5 :: c6 :: c7 :: c8 :: c9 :: c10 :: c11 :: c12 :: c13 :: bk1 zq zn zl za zd zb zc zk zh w_o_planRoom w_o_planGrid w_o_planOrder zj zm w_o_planOrderLength zo zp po), 0, 0) := by
  intro n
  induction n with
  | zero => intro zi zf zg ze v1 w_o_planRoom w_o_planGrid w_o_planOrder w_o_planOrderLength h; cases h
  | succ n ih =>
    intro zi zf zg ze v1 w_o_planRoom w_o_planGrid w_o_planOrder w_o_planOrderLength h
    unfold f_clearPlan_30 at h
    refine OEnds.adv hm_6 2 (pc' := 34) (L' := [qr 14, qi v1]) (S' := [.int 768, .int v1]) (H' := (c0 :: c1 :: c2 :: c3 :: c4 :: c5 :: c6 :: c7 :: c8 :: c9 :: c10 :: c11 :: c12 :: c13 :: bk1 zq zn zl za zd zb zc zk zh zi zf zg zj zm ze zo zp po)) rfl ?_
    by_cases hc18 : v1 < (768 : Int32)
    · simp only [if_pos hc18] at h
      refine OEnds.icmpF hm_6 rfl ((tlt hc18).2.1) ?_
      refine OEnds.adv hm_6 4 (pc' := 43) (L' := [qr 14, qi v1]) (S' := [.int (-1), .int v1, .ref 25]) (H' := (c0 :: c1 :: c2 :: c3 :: c4 :: c5 :: c6 :: c7 :: c8 :: c9 :: c10 :: c11 :: c12 :: c13 :: bk1 zq zn zl za zd zb zc zk zh zi zf zg zj zm ze zo zp po)) rfl ?_
      obtain ⟨A18, hA18, h⟩ := bnd h
      refine OEnds.plain hm_6 rfl rfl (x_iastore rfl (Nat.le_of_ble_eq_true rfl) hA18) ?_
      refine OEnds.adv hm_6 2 (pc' := 30) (L' := [qr 14, qi (v1 + (1 : Int32))]) (S' := []) (H' := (c0 :: c1 :: c2 :: c3 :: c4 :: c5 :: c6 :: c7 :: c8 :: c9 :: c10 :: c11 :: c12 :: c13 :: bk1 zq zn zl za zd zb zc zk zh zi A18 zg zj zm ze zo zp po)) rfl ?_
      exact ih h
    · simp only [if_neg hc18] at h
      refine OEnds.icmpT hm_6 rfl (q := 50) rfl ((flt hc18).2.1) ?_
      refine OEnds.adv hm_6 3 (pc' := 55) (L' := [qr 14, qi v1]) (S' := []) (H' := (c0 :: c1 :: c2 :: c3 :: c4 :: c5 :: c6 :: c7 :: c8 :: c9 :: c10 :: c11 :: c12 :: c13 :: bk1 zq zn zl za zd zb zc zk zh zi zf zg zj zm 0 zo zp po)) rfl ?_
      cases h
      exact OEnds.vret hm_6 rfl rfl
theorem ok_clearPlan_2_1 {zq zn zl za zd zb zc zk zh : List Int32} {zj zm zo zp : Int32} {c0 c1 c2 c3 c4 c5 c6 c7 c8 c9 c10 c11 c12 c13 : ACell} {po : List ACell} {k30 : List Int32 → List Int32 → List Int32 → Int32 → Int32 → Option (List Int32 × List Int32 × List Int32 × Int32)} (hk30 : ∀ {zi zf zg : List Int32} {ze v1 : Int32} {w_o_planRoom w_o_planGrid w_o_planOrder : List Int32} {w_o_planOrderLength : Int32}, k30 zi zf zg ze v1 = some (w_o_planRoom, w_o_planGrid, w_o_planOrder, w_o_planOrderLength) → OEnds own_P 6 30 [qr 14, qi v1] [] (c0 :: c1 :: c2 :: c3 :: c4 :: c5 :: c6 :: c7 :: c8 :: c9 :: c10 :: c11 :: c12 :: c13 :: bk1 zq zn zl za zd zb zc zk zh zi zf zg zj zm ze zo zp po) (none, (c0 :: c1 :: c2 :: c3 :: c4 :: c5 :: c6 :: c7 :: c8 :: c9 :: c10 :: c11 :: c12 :: c13 :: bk1 zq zn zl za zd zb zc zk zh w_o_planRoom w_o_planGrid w_o_planOrder zj zm w_o_planOrderLength zo zp po), 0, 0)) : ∀ (n : Nat), ∀ {zi zf zg : List Int32} {ze v1 : Int32} {w_o_planRoom w_o_planGrid w_o_planOrder : List Int32} {w_o_planOrderLength : Int32}, f_clearPlan_2 k30 n zi zf zg ze v1 = some (w_o_planRoom, w_o_planGrid, w_o_planOrder, w_o_planOrderLength) → OEnds own_P 6 2 [qr 14, qi v1] [] (c0 :: c1 :: c2 :: c3 :: c4 :: c5 :: c6 :: c7 :: c8 :: c9 :: c10 :: c11 :: c12 :: c13 :: bk1 zq zn zl za zd zb zc zk zh zi zf zg zj zm ze zo zp po) (none, (c0 :: c1 :: c2 :: c3 :: c4 :: c5 :: c6 :: c7 :: c8 :: c9 :: c10 :: c11 :: c12 :: c13 :: bk1 zq zn zl za zd zb zc zk zh w_o_planRoom w_o_planGrid w_o_planOrder zj zm w_o_planOrderLength zo zp po), 0, 0) := by
  intro n
  induction n with
  | zero => intro zi zf zg ze v1 w_o_planRoom w_o_planGrid w_o_planOrder w_o_planOrderLength h; cases h
  | succ n ih =>
    intro zi zf zg ze v1 w_o_planRoom w_o_planGrid w_o_planOrder w_o_planOrderLength h
    unfold f_clearPlan_2 at h
    refine OEnds.adv hm_6 2 (pc' := 5) (L' := [qr 14, qi v1]) (S' := [.int 32, .int v1]) (H' := (c0 :: c1 :: c2 :: c3 :: c4 :: c5 :: c6 :: c7 :: c8 :: c9 :: c10 :: c11 :: c12 :: c13 :: bk1 zq zn zl za zd zb zc zk zh zi zf zg zj zm ze zo zp po)) rfl ?_
    by_cases hc19 : v1 < (32 : Int32)
    · simp only [if_pos hc19] at h
      refine OEnds.icmpF hm_6 rfl ((tlt hc19).2.1) ?_
      refine OEnds.adv hm_6 4 (pc' := 14) (L' := [qr 14, qi v1]) (S' := [.int (-1), .int v1, .ref 24]) (H' := (c0 :: c1 :: c2 :: c3 :: c4 :: c5 :: c6 :: c7 :: c8 :: c9 :: c10 :: c11 :: c12 :: c13 :: bk1 zq zn zl za zd zb zc zk zh zi zf zg zj zm ze zo zp po)) rfl ?_
      obtain ⟨A16, hA16, h⟩ := bnd h
      refine OEnds.plain hm_6 rfl rfl (x_iastore rfl (Nat.le_of_ble_eq_true rfl) hA16) ?_
      refine OEnds.adv hm_6 4 (pc' := 21) (L' := [qr 14, qi v1]) (S' := [.int 0, .int v1, .ref 26]) (H' := (c0 :: c1 :: c2 :: c3 :: c4 :: c5 :: c6 :: c7 :: c8 :: c9 :: c10 :: c11 :: c12 :: c13 :: bk1 zq zn zl za zd zb zc zk zh A16 zf zg zj zm ze zo zp po)) rfl ?_
      obtain ⟨A17, hA17, h⟩ := bnd h
      refine OEnds.plain hm_6 rfl rfl (x_iastore rfl (Nat.le_of_ble_eq_true rfl) hA17) ?_
      refine OEnds.adv hm_6 2 (pc' := 2) (L' := [qr 14, qi (v1 + (1 : Int32))]) (S' := []) (H' := (c0 :: c1 :: c2 :: c3 :: c4 :: c5 :: c6 :: c7 :: c8 :: c9 :: c10 :: c11 :: c12 :: c13 :: bk1 zq zn zl za zd zb zc zk zh A16 zf A17 zj zm ze zo zp po)) rfl ?_
      exact ih h
    · simp only [if_neg hc19] at h
      refine OEnds.icmpT hm_6 rfl (q := 28) rfl ((flt hc19).2.1) ?_
      refine OEnds.adv hm_6 2 (pc' := 30) (L' := [qr 14, qi 0]) (S' := []) (H' := (c0 :: c1 :: c2 :: c3 :: c4 :: c5 :: c6 :: c7 :: c8 :: c9 :: c10 :: c11 :: c12 :: c13 :: bk1 zq zn zl za zd zb zc zk zh zi zf zg zj zm ze zo zp po)) rfl ?_
      exact hk30 h
theorem ok_clearPlan_1 {zq zn zl za zd zb zc zk zh : List Int32} {zj zm zo zp : Int32} {c0 c1 c2 c3 c4 c5 c6 c7 c8 c9 c10 c11 c12 c13 : ACell} {po : List ACell} {zi zf zg : List Int32} {ze : Int32} {w_o_planRoom w_o_planGrid w_o_planOrder : List Int32} {w_o_planOrderLength : Int32} (h : f_clearPlan zi zf zg ze = some (w_o_planRoom, w_o_planGrid, w_o_planOrder, w_o_planOrderLength)) : OEnds own_P 6 0 [qr 14, qu] [] (c0 :: c1 :: c2 :: c3 :: c4 :: c5 :: c6 :: c7 :: c8 :: c9 :: c10 :: c11 :: c12 :: c13 :: bk1 zq zn zl za zd zb zc zk zh zi zf zg zj zm ze zo zp po) (none, (c0 :: c1 :: c2 :: c3 :: c4 :: c5 :: c6 :: c7 :: c8 :: c9 :: c10 :: c11 :: c12 :: c13 :: bk1 zq zn zl za zd zb zc zk zh w_o_planRoom w_o_planGrid w_o_planOrder zj zm w_o_planOrderLength zo zp po), 0, 0) := by
  unfold f_clearPlan at h
  refine OEnds.adv hm_6 2 (pc' := 2) (L' := [qr 14, qi 0]) (S' := []) (H' := (c0 :: c1 :: c2 :: c3 :: c4 :: c5 :: c6 :: c7 :: c8 :: c9 :: c10 :: c11 :: c12 :: c13 :: bk1 zq zn zl za zd zb zc zk zh zi zf zg zj zm ze zo zp po)) rfl ?_
  exact ok_clearPlan_2_1 (k30 := f_clearPlan_30 100000) (ok_clearPlan_30_1 100000) 100000 h
theorem ok_init_1 {c0 c1 c2 c3 c4 c5 c6 c7 c8 c9 c10 c11 c12 c13 : ACell} {v1 v2 v3 : Int32} {w_o_roomsOfType w_o_roomsAtLeast w_o_firstRoomOfType w_o_slotActive w_o_slotType w_o_slotArrive w_o_slotNights w_o_exactCount w_o_atLeastCount w_o_planRoom w_o_planGrid w_o_planOrder : List Int32} {w_o_totalRooms w_o_activeStays w_o_planOrderLength w_o_planCurrent w_o_planUnplaced : Int32} (h : f_init v1 v2 v3 = some (w_o_roomsOfType, w_o_roomsAtLeast, w_o_firstRoomOfType, w_o_slotActive, w_o_slotType, w_o_slotArrive, w_o_slotNights, w_o_exactCount, w_o_atLeastCount, w_o_planRoom, w_o_planGrid, w_o_planOrder, w_o_totalRooms, w_o_activeStays, w_o_planOrderLength, w_o_planCurrent, w_o_planUnplaced)) : OEnds own_P 1 0 [qr 14, qi v1, qi v2, qi v3] [] (c0 :: c1 :: c2 :: c3 :: c4 :: c5 :: c6 :: c7 :: c8 :: c9 :: c10 :: c11 :: c12 :: c13 :: (.inl (0, [.null, .null, .null, .null, .null, .null, .null, .null, .null, .null, .null, .null, .int 0, .int 0, .int 0, .int 0, .int 0]) : ACell) :: []) (none, (c0 :: c1 :: c2 :: c3 :: c4 :: c5 :: c6 :: c7 :: c8 :: c9 :: c10 :: c11 :: c12 :: c13 :: bk1 w_o_roomsOfType w_o_roomsAtLeast w_o_firstRoomOfType w_o_slotActive w_o_slotType w_o_slotArrive w_o_slotNights w_o_exactCount w_o_atLeastCount w_o_planRoom w_o_planGrid w_o_planOrder w_o_totalRooms w_o_activeStays w_o_planOrderLength w_o_planCurrent w_o_planUnplaced []), 12, 1161) := by
  unfold f_init at h
  refine OEnds.adv hm_1 1 (pc' := 1) (L' := [qr 14, qi v1, qi v2, qi v3]) (S' := [.ref 14]) (H' := (c0 :: c1 :: c2 :: c3 :: c4 :: c5 :: c6 :: c7 :: c8 :: c9 :: c10 :: c11 :: c12 :: c13 :: (.inl (0, [.null, .null, .null, .null, .null, .null, .null, .null, .null, .null, .null, .null, .int 0, .int 0, .int 0, .int 0, .int 0]) : ACell) :: [])) rfl ?_
  refine OEnds.oinit hm_1 rfl ⟨Nat.le_of_ble_eq_true rfl, Nat.le_of_ble_eq_true rfl⟩ ?_
  refine OEnds.adv hm_1 2 (pc' := 6) (L' := [qr 14, qi v1, qi v2, qi v3]) (S' := [.int 3, .ref 14]) (H' := (c0 :: c1 :: c2 :: c3 :: c4 :: c5 :: c6 :: c7 :: c8 :: c9 :: c10 :: c11 :: c12 :: c13 :: (.inl (0, [.null, .null, .null, .null, .null, .null, .null, .null, .null, .null, .null, .null, .int 0, .int 0, .int 0, .int 0, .int 0]) : ACell) :: [])) rfl ?_
  refine OEnds.made1 hm_1 rfl rfl (ks := 3) rfl rfl ?_
  refine OEnds.adv hm_1 3 (pc' := 13) (L' := [qr 14, qi v1, qi v2, qi v3]) (S' := [.int 3, .ref 14]) (H' := (c0 :: c1 :: c2 :: c3 :: c4 :: c5 :: c6 :: c7 :: c8 :: c9 :: c10 :: c11 :: c12 :: c13 :: (.inl (0, [.ref 15, .null, .null, .null, .null, .null, .null, .null, .null, .null, .null, .null, .int 0, .int 0, .int 0, .int 0, .int 0]) : ACell) :: .inr (.inl (false, (List.replicate 3 0))) :: [])) rfl ?_
  refine OEnds.made1 hm_1 rfl rfl (ks := 3) rfl rfl ?_
  refine OEnds.adv hm_1 3 (pc' := 20) (L' := [qr 14, qi v1, qi v2, qi v3]) (S' := [.int 3, .ref 14]) (H' := (c0 :: c1 :: c2 :: c3 :: c4 :: c5 :: c6 :: c7 :: c8 :: c9 :: c10 :: c11 :: c12 :: c13 :: (.inl (0, [.ref 15, .ref 16, .null, .null, .null, .null, .null, .null, .null, .null, .null, .null, .int 0, .int 0, .int 0, .int 0, .int 0]) : ACell) :: .inr (.inl (false, (List.replicate 3 0))) :: .inr (.inl (false, (List.replicate 3 0))) :: [])) rfl ?_
  refine OEnds.made1 hm_1 rfl rfl (ks := 3) rfl rfl ?_
  refine OEnds.adv hm_1 3 (pc' := 28) (L' := [qr 14, qi v1, qi v2, qi v3]) (S' := [.int 32, .ref 14]) (H' := (c0 :: c1 :: c2 :: c3 :: c4 :: c5 :: c6 :: c7 :: c8 :: c9 :: c10 :: c11 :: c12 :: c13 :: (.inl (0, [.ref 15, .ref 16, .ref 17, .null, .null, .null, .null, .null, .null, .null, .null, .null, .int 0, .int 0, .int 0, .int 0, .int 0]) : ACell) :: .inr (.inl (false, (List.replicate 3 0))) :: .inr (.inl (false, (List.replicate 3 0))) :: .inr (.inl (false, (List.replicate 3 0))) :: [])) rfl ?_
  refine OEnds.made1 hm_1 rfl rfl (ks := 32) rfl rfl ?_
  refine OEnds.adv hm_1 3 (pc' := 36) (L' := [qr 14, qi v1, qi v2, qi v3]) (S' := [.int 32, .ref 14]) (H' := (c0 :: c1 :: c2 :: c3 :: c4 :: c5 :: c6 :: c7 :: c8 :: c9 :: c10 :: c11 :: c12 :: c13 :: (.inl (0, [.ref 15, .ref 16, .ref 17, .ref 18, .null, .null, .null, .null, .null, .null, .null, .null, .int 0, .int 0, .int 0, .int 0, .int 0]) : ACell) :: .inr (.inl (false, (List.replicate 3 0))) :: .inr (.inl (false, (List.replicate 3 0))) :: .inr (.inl (false, (List.replicate 3 0))) :: .inr (.inl (true, (List.replicate 32 0))) :: [])) rfl ?_
  refine OEnds.made1 hm_1 rfl rfl (ks := 32) rfl rfl ?_
  refine OEnds.adv hm_1 3 (pc' := 44) (L' := [qr 14, qi v1, qi v2, qi v3]) (S' := [.int 32, .ref 14]) (H' := (c0 :: c1 :: c2 :: c3 :: c4 :: c5 :: c6 :: c7 :: c8 :: c9 :: c10 :: c11 :: c12 :: c13 :: (.inl (0, [.ref 15, .ref 16, .ref 17, .ref 18, .ref 19, .null, .null, .null, .null, .null, .null, .null, .int 0, .int 0, .int 0, .int 0, .int 0]) : ACell) :: .inr (.inl (false, (List.replicate 3 0))) :: .inr (.inl (false, (List.replicate 3 0))) :: .inr (.inl (false, (List.replicate 3 0))) :: .inr (.inl (true, (List.replicate 32 0))) :: .inr (.inl (false, (List.replicate 32 0))) :: [])) rfl ?_
  refine OEnds.made1 hm_1 rfl rfl (ks := 32) rfl rfl ?_
  refine OEnds.adv hm_1 3 (pc' := 52) (L' := [qr 14, qi v1, qi v2, qi v3]) (S' := [.int 32, .ref 14]) (H' := (c0 :: c1 :: c2 :: c3 :: c4 :: c5 :: c6 :: c7 :: c8 :: c9 :: c10 :: c11 :: c12 :: c13 :: (.inl (0, [.ref 15, .ref 16, .ref 17, .ref 18, .ref 19, .ref 20, .null, .null, .null, .null, .null, .null, .int 0, .int 0, .int 0, .int 0, .int 0]) : ACell) :: .inr (.inl (false, (List.replicate 3 0))) :: .inr (.inl (false, (List.replicate 3 0))) :: .inr (.inl (false, (List.replicate 3 0))) :: .inr (.inl (true, (List.replicate 32 0))) :: .inr (.inl (false, (List.replicate 32 0))) :: .inr (.inl (false, (List.replicate 32 0))) :: [])) rfl ?_
  refine OEnds.made1 hm_1 rfl rfl (ks := 32) rfl rfl ?_
  refine OEnds.adv hm_1 3 (pc' := 60) (L' := [qr 14, qi v1, qi v2, qi v3]) (S' := [.int 96, .ref 14]) (H' := (c0 :: c1 :: c2 :: c3 :: c4 :: c5 :: c6 :: c7 :: c8 :: c9 :: c10 :: c11 :: c12 :: c13 :: (.inl (0, [.ref 15, .ref 16, .ref 17, .ref 18, .ref 19, .ref 20, .ref 21, .null, .null, .null, .null, .null, .int 0, .int 0, .int 0, .int 0, .int 0]) : ACell) :: .inr (.inl (false, (List.replicate 3 0))) :: .inr (.inl (false, (List.replicate 3 0))) :: .inr (.inl (false, (List.replicate 3 0))) :: .inr (.inl (true, (List.replicate 32 0))) :: .inr (.inl (false, (List.replicate 32 0))) :: .inr (.inl (false, (List.replicate 32 0))) :: .inr (.inl (false, (List.replicate 32 0))) :: [])) rfl ?_
  refine OEnds.made1 hm_1 rfl rfl (ks := 96) rfl rfl ?_
  refine OEnds.adv hm_1 3 (pc' := 68) (L' := [qr 14, qi v1, qi v2, qi v3]) (S' := [.int 96, .ref 14]) (H' := (c0 :: c1 :: c2 :: c3 :: c4 :: c5 :: c6 :: c7 :: c8 :: c9 :: c10 :: c11 :: c12 :: c13 :: (.inl (0, [.ref 15, .ref 16, .ref 17, .ref 18, .ref 19, .ref 20, .ref 21, .ref 22, .null, .null, .null, .null, .int 0, .int 0, .int 0, .int 0, .int 0]) : ACell) :: .inr (.inl (false, (List.replicate 3 0))) :: .inr (.inl (false, (List.replicate 3 0))) :: .inr (.inl (false, (List.replicate 3 0))) :: .inr (.inl (true, (List.replicate 32 0))) :: .inr (.inl (false, (List.replicate 32 0))) :: .inr (.inl (false, (List.replicate 32 0))) :: .inr (.inl (false, (List.replicate 32 0))) :: .inr (.inl (false, (List.replicate 96 0))) :: [])) rfl ?_
  refine OEnds.made1 hm_1 rfl rfl (ks := 96) rfl rfl ?_
  refine OEnds.adv hm_1 3 (pc' := 76) (L' := [qr 14, qi v1, qi v2, qi v3]) (S' := [.int 32, .ref 14]) (H' := (c0 :: c1 :: c2 :: c3 :: c4 :: c5 :: c6 :: c7 :: c8 :: c9 :: c10 :: c11 :: c12 :: c13 :: (.inl (0, [.ref 15, .ref 16, .ref 17, .ref 18, .ref 19, .ref 20, .ref 21, .ref 22, .ref 23, .null, .null, .null, .int 0, .int 0, .int 0, .int 0, .int 0]) : ACell) :: .inr (.inl (false, (List.replicate 3 0))) :: .inr (.inl (false, (List.replicate 3 0))) :: .inr (.inl (false, (List.replicate 3 0))) :: .inr (.inl (true, (List.replicate 32 0))) :: .inr (.inl (false, (List.replicate 32 0))) :: .inr (.inl (false, (List.replicate 32 0))) :: .inr (.inl (false, (List.replicate 32 0))) :: .inr (.inl (false, (List.replicate 96 0))) :: .inr (.inl (false, (List.replicate 96 0))) :: [])) rfl ?_
  refine OEnds.made1 hm_1 rfl rfl (ks := 32) rfl rfl ?_
  refine OEnds.adv hm_1 3 (pc' := 85) (L' := [qr 14, qi v1, qi v2, qi v3]) (S' := [.int 768, .ref 14]) (H' := (c0 :: c1 :: c2 :: c3 :: c4 :: c5 :: c6 :: c7 :: c8 :: c9 :: c10 :: c11 :: c12 :: c13 :: (.inl (0, [.ref 15, .ref 16, .ref 17, .ref 18, .ref 19, .ref 20, .ref 21, .ref 22, .ref 23, .ref 24, .null, .null, .int 0, .int 0, .int 0, .int 0, .int 0]) : ACell) :: .inr (.inl (false, (List.replicate 3 0))) :: .inr (.inl (false, (List.replicate 3 0))) :: .inr (.inl (false, (List.replicate 3 0))) :: .inr (.inl (true, (List.replicate 32 0))) :: .inr (.inl (false, (List.replicate 32 0))) :: .inr (.inl (false, (List.replicate 32 0))) :: .inr (.inl (false, (List.replicate 32 0))) :: .inr (.inl (false, (List.replicate 96 0))) :: .inr (.inl (false, (List.replicate 96 0))) :: .inr (.inl (false, (List.replicate 32 0))) :: [])) rfl ?_
  refine OEnds.made1 hm_1 rfl rfl (ks := 768) rfl rfl ?_
  refine OEnds.adv hm_1 3 (pc' := 93) (L' := [qr 14, qi v1, qi v2, qi v3]) (S' := [.int 32, .ref 14]) (H' := (c0 :: c1 :: c2 :: c3 :: c4 :: c5 :: c6 :: c7 :: c8 :: c9 :: c10 :: c11 :: c12 :: c13 :: (.inl (0, [.ref 15, .ref 16, .ref 17, .ref 18, .ref 19, .ref 20, .ref 21, .ref 22, .ref 23, .ref 24, .ref 25, .null, .int 0, .int 0, .int 0, .int 0, .int 0]) : ACell) :: .inr (.inl (false, (List.replicate 3 0))) :: .inr (.inl (false, (List.replicate 3 0))) :: .inr (.inl (false, (List.replicate 3 0))) :: .inr (.inl (true, (List.replicate 32 0))) :: .inr (.inl (false, (List.replicate 32 0))) :: .inr (.inl (false, (List.replicate 32 0))) :: .inr (.inl (false, (List.replicate 32 0))) :: .inr (.inl (false, (List.replicate 96 0))) :: .inr (.inl (false, (List.replicate 96 0))) :: .inr (.inl (false, (List.replicate 32 0))) :: .inr (.inl (false, (List.replicate 768 0))) :: [])) rfl ?_
  refine OEnds.made1 hm_1 rfl rfl (ks := 32) rfl rfl ?_
  refine OEnds.adv hm_1 6 (pc' := 105) (L' := [qr 14, qi v1, qi v2, qi v3]) (S' := [.int v1, .ref 14, .int 0, .ref 15]) (H' := (c0 :: c1 :: c2 :: c3 :: c4 :: c5 :: c6 :: c7 :: c8 :: c9 :: c10 :: c11 :: c12 :: c13 :: bk1 (List.replicate 3 0) (List.replicate 3 0) (List.replicate 3 0) (List.replicate 32 0) (List.replicate 32 0) (List.replicate 32 0) (List.replicate 32 0) (List.replicate 96 0) (List.replicate 96 0) (List.replicate 32 0) (List.replicate 768 0) (List.replicate 32 0) 0 0 0 0 0 [])) rfl ?_
  obtain ⟨r19, hq20, h⟩ := bnd h
  refine OEnds.call0 hm_1 rfl rfl (by decide) rfl (as := [.ref 14, .int v1]) (rest := [.int 0, .ref 15]) rfl rfl (ok_clampRooms_1 hq20) ?_
  show OEnds own_P 1 108 [qr 14, qi v1, qi v2, qi v3] [.int r19, .int 0, .ref 15] (c0 :: c1 :: c2 :: c3 :: c4 :: c5 :: c6 :: c7 :: c8 :: c9 :: c10 :: c11 :: c12 :: c13 :: bk1 (List.replicate 3 0) (List.replicate 3 0) (List.replicate 3 0) (List.replicate 32 0) (List.replicate 32 0) (List.replicate 32 0) (List.replicate 32 0) (List.replicate 96 0) (List.replicate 96 0) (List.replicate 32 0) (List.replicate 768 0) (List.replicate 32 0) 0 0 0 0 0 []) _
  obtain ⟨A20, hA20, h⟩ := bnd h
  refine OEnds.plain hm_1 rfl rfl (x_iastore rfl (Nat.le_of_ble_eq_true rfl) hA20) ?_
  refine OEnds.adv hm_1 5 (pc' := 116) (L' := [qr 14, qi v1, qi v2, qi v3]) (S' := [.int v2, .ref 14, .int 1, .ref 15]) (H' := (c0 :: c1 :: c2 :: c3 :: c4 :: c5 :: c6 :: c7 :: c8 :: c9 :: c10 :: c11 :: c12 :: c13 :: bk1 A20 (List.replicate 3 0) (List.replicate 3 0) (List.replicate 32 0) (List.replicate 32 0) (List.replicate 32 0) (List.replicate 32 0) (List.replicate 96 0) (List.replicate 96 0) (List.replicate 32 0) (List.replicate 768 0) (List.replicate 32 0) 0 0 0 0 0 [])) rfl ?_
  obtain ⟨r21, hq21, h⟩ := bnd h
  refine OEnds.call0 hm_1 rfl rfl (by decide) rfl (as := [.ref 14, .int v2]) (rest := [.int 1, .ref 15]) rfl rfl (ok_clampRooms_1 hq21) ?_
  show OEnds own_P 1 119 [qr 14, qi v1, qi v2, qi v3] [.int r21, .int 1, .ref 15] (c0 :: c1 :: c2 :: c3 :: c4 :: c5 :: c6 :: c7 :: c8 :: c9 :: c10 :: c11 :: c12 :: c13 :: bk1 A20 (List.replicate 3 0) (List.replicate 3 0) (List.replicate 32 0) (List.replicate 32 0) (List.replicate 32 0) (List.replicate 32 0) (List.replicate 96 0) (List.replicate 96 0) (List.replicate 32 0) (List.replicate 768 0) (List.replicate 32 0) 0 0 0 0 0 []) _
  obtain ⟨A22, hA22, h⟩ := bnd h
  refine OEnds.plain hm_1 rfl rfl (x_iastore rfl (Nat.le_of_ble_eq_true rfl) hA22) ?_
  refine OEnds.adv hm_1 5 (pc' := 127) (L' := [qr 14, qi v1, qi v2, qi v3]) (S' := [.int v3, .ref 14, .int 2, .ref 15]) (H' := (c0 :: c1 :: c2 :: c3 :: c4 :: c5 :: c6 :: c7 :: c8 :: c9 :: c10 :: c11 :: c12 :: c13 :: bk1 A22 (List.replicate 3 0) (List.replicate 3 0) (List.replicate 32 0) (List.replicate 32 0) (List.replicate 32 0) (List.replicate 32 0) (List.replicate 96 0) (List.replicate 96 0) (List.replicate 32 0) (List.replicate 768 0) (List.replicate 32 0) 0 0 0 0 0 [])) rfl ?_
  obtain ⟨r23, hq22, h⟩ := bnd h
  refine OEnds.call0 hm_1 rfl rfl (by decide) rfl (as := [.ref 14, .int v3]) (rest := [.int 2, .ref 15]) rfl rfl (ok_clampRooms_1 hq22) ?_
  show OEnds own_P 1 130 [qr 14, qi v1, qi v2, qi v3] [.int r23, .int 2, .ref 15] (c0 :: c1 :: c2 :: c3 :: c4 :: c5 :: c6 :: c7 :: c8 :: c9 :: c10 :: c11 :: c12 :: c13 :: bk1 A22 (List.replicate 3 0) (List.replicate 3 0) (List.replicate 32 0) (List.replicate 32 0) (List.replicate 32 0) (List.replicate 32 0) (List.replicate 96 0) (List.replicate 96 0) (List.replicate 32 0) (List.replicate 768 0) (List.replicate 32 0) 0 0 0 0 0 []) _
  obtain ⟨A24, hA24, h⟩ := bnd h
  refine OEnds.plain hm_1 rfl rfl (x_iastore rfl (Nat.le_of_ble_eq_true rfl) hA24) ?_
  refine OEnds.adv hm_1 1 (pc' := 132) (L' := [qr 14, qi v1, qi v2, qi v3]) (S' := [.ref 14]) (H' := (c0 :: c1 :: c2 :: c3 :: c4 :: c5 :: c6 :: c7 :: c8 :: c9 :: c10 :: c11 :: c12 :: c13 :: bk1 A24 (List.replicate 3 0) (List.replicate 3 0) (List.replicate 32 0) (List.replicate 32 0) (List.replicate 32 0) (List.replicate 32 0) (List.replicate 96 0) (List.replicate 96 0) (List.replicate 32 0) (List.replicate 768 0) (List.replicate 32 0) 0 0 0 0 0 [])) rfl ?_
  obtain ⟨⟨s25, s26, s27⟩, hq23, h⟩ := bnd h
  refine OEnds.call0 hm_1 rfl rfl (by decide) rfl (as := [.ref 14]) (rest := []) rfl rfl (ok_computeRoomTables_1 hq23) ?_
  refine OEnds.adv hm_1 1 (pc' := 136) (L' := [qr 14, qi v1, qi v2, qi v3]) (S' := [.ref 14]) (H' := (c0 :: c1 :: c2 :: c3 :: c4 :: c5 :: c6 :: c7 :: c8 :: c9 :: c10 :: c11 :: c12 :: c13 :: bk1 A24 s25 s26 (List.replicate 32 0) (List.replicate 32 0) (List.replicate 32 0) (List.replicate 32 0) (List.replicate 96 0) (List.replicate 96 0) (List.replicate 32 0) (List.replicate 768 0) (List.replicate 32 0) s27 0 0 0 0 [])) rfl ?_
  obtain ⟨⟨s28, s29, s30, s31, s32⟩, hq24, h⟩ := bnd h
  refine OEnds.call0 hm_1 rfl rfl (by decide) rfl (as := [.ref 14]) (rest := []) rfl rfl (ok_resetStays_1 hq24) ?_
  refine OEnds.adv hm_1 1 (pc' := 140) (L' := [qr 14, qi v1, qi v2, qi v3]) (S' := [.ref 14]) (H' := (c0 :: c1 :: c2 :: c3 :: c4 :: c5 :: c6 :: c7 :: c8 :: c9 :: c10 :: c11 :: c12 :: c13 :: bk1 A24 s25 s26 s28 s29 s30 s31 (List.replicate 96 0) (List.replicate 96 0) (List.replicate 32 0) (List.replicate 768 0) (List.replicate 32 0) s27 s32 0 0 0 [])) rfl ?_
  obtain ⟨⟨s33, s34⟩, hq25, h⟩ := bnd h
  refine OEnds.call0 hm_1 rfl rfl (by decide) rfl (as := [.ref 14]) (rest := []) rfl rfl (ok_resetCounts_1 hq25) ?_
  refine OEnds.adv hm_1 1 (pc' := 144) (L' := [qr 14, qi v1, qi v2, qi v3]) (S' := [.ref 14]) (H' := (c0 :: c1 :: c2 :: c3 :: c4 :: c5 :: c6 :: c7 :: c8 :: c9 :: c10 :: c11 :: c12 :: c13 :: bk1 A24 s25 s26 s28 s29 s30 s31 s33 s34 (List.replicate 32 0) (List.replicate 768 0) (List.replicate 32 0) s27 s32 0 0 0 [])) rfl ?_
  obtain ⟨⟨s35, s36, s37, s38⟩, hq26, h⟩ := bnd h
  refine OEnds.call0 hm_1 rfl rfl (by decide) rfl (as := [.ref 14]) (rest := []) rfl rfl (ok_clearPlan_1 hq26) ?_
  refine OEnds.adv hm_1 6 (pc' := 157) (L' := [qr 14, qi v1, qi v2, qi v3]) (S' := []) (H' := (c0 :: c1 :: c2 :: c3 :: c4 :: c5 :: c6 :: c7 :: c8 :: c9 :: c10 :: c11 :: c12 :: c13 :: bk1 A24 s25 s26 s28 s29 s30 s31 s33 s34 s35 s36 s37 s27 s32 s38 0 0 [])) rfl ?_
  cases h
  exact OEnds.vret hm_1 rfl rfl
theorem ok_isValidType_0 {zq zn zl za zd zb zc zk zh zi zf zg : List Int32} {zj zm ze zo zp : Int32} {c0 : ACell} {po : List ACell} {v1 res : Int32} (h : f_isValidType v1 = some res) : OEnds own_P 13 0 [qr 1, qi v1] [] (c0 :: bk0 zq zn zl za zd zb zc zk zh zi zf zg zj zm ze zo zp po) (some (.int res), (c0 :: bk0 zq zn zl za zd zb zc zk zh zi zf zg zj zm ze zo zp po), 0, 0) := by
  unfold f_isValidType at h
  refine OEnds.adv hm_13 1 (pc' := 1) (L' := [qr 1, qi v1]) (S' := [.int v1]) (H' := (c0 :: bk0 zq zn zl za zd zb zc zk zh zi zf zg zj zm ze zo zp po)) rfl ?_
  by_cases hc27 : v1 < (0 : Int32)
  · simp only [if_pos hc27] at h
    refine OEnds.ifT hm_13 rfl (q := 13) rfl ((tlt hc27).1) ?_
    refine OEnds.adv hm_13 1 (pc' := 14) (L' := [qr 1, qi v1]) (S' := [.int 0]) (H' := (c0 :: bk0 zq zn zl za zd zb zc zk zh zi zf zg zj zm ze zo zp po)) rfl ?_
    cases h
    exact OEnds.iret hm_13 rfl rfl
  · simp only [if_neg hc27] at h
    refine OEnds.ifF hm_13 rfl ((flt hc27).1) ?_
    refine OEnds.adv hm_13 2 (pc' := 6) (L' := [qr 1, qi v1]) (S' := [.int 3, .int v1]) (H' := (c0 :: bk0 zq zn zl za zd zb zc zk zh zi zf zg zj zm ze zo zp po)) rfl ?_
    by_cases hc28 : v1 < (3 : Int32)
    · simp only [if_pos hc28] at h
      refine OEnds.icmpF hm_13 rfl ((tlt hc28).2.1) ?_
      refine OEnds.adv hm_13 2 (pc' := 14) (L' := [qr 1, qi v1]) (S' := [.int 1]) (H' := (c0 :: bk0 zq zn zl za zd zb zc zk zh zi zf zg zj zm ze zo zp po)) rfl ?_
      cases h
      exact OEnds.iret hm_13 rfl rfl
    · simp only [if_neg hc28] at h
      refine OEnds.icmpT hm_13 rfl (q := 13) rfl ((flt hc28).2.1) ?_
      refine OEnds.adv hm_13 1 (pc' := 14) (L' := [qr 1, qi v1]) (S' := [.int 0]) (H' := (c0 :: bk0 zq zn zl za zd zb zc zk zh zi zf zg zj zm ze zo zp po)) rfl ?_
      cases h
      exact OEnds.iret hm_13 rfl rfl
theorem ok_isValidNight_0 {zq zn zl za zd zb zc zk zh zi zf zg : List Int32} {zj zm ze zo zp : Int32} {c0 : ACell} {po : List ACell} {v1 res : Int32} (h : f_isValidNight v1 = some res) : OEnds own_P 14 0 [qr 1, qi v1] [] (c0 :: bk0 zq zn zl za zd zb zc zk zh zi zf zg zj zm ze zo zp po) (some (.int res), (c0 :: bk0 zq zn zl za zd zb zc zk zh zi zf zg zj zm ze zo zp po), 0, 0) := by
  unfold f_isValidNight at h
  refine OEnds.adv hm_14 1 (pc' := 1) (L' := [qr 1, qi v1]) (S' := [.int v1]) (H' := (c0 :: bk0 zq zn zl za zd zb zc zk zh zi zf zg zj zm ze zo zp po)) rfl ?_
  by_cases hc29 : v1 < (0 : Int32)
  · simp only [if_pos hc29] at h
    refine OEnds.ifT hm_14 rfl (q := 14) rfl ((tlt hc29).1) ?_
    refine OEnds.adv hm_14 1 (pc' := 15) (L' := [qr 1, qi v1]) (S' := [.int 0]) (H' := (c0 :: bk0 zq zn zl za zd zb zc zk zh zi zf zg zj zm ze zo zp po)) rfl ?_
    cases h
    exact OEnds.iret hm_14 rfl rfl
  · simp only [if_neg hc29] at h
    refine OEnds.ifF hm_14 rfl ((flt hc29).1) ?_
    refine OEnds.adv hm_14 2 (pc' := 7) (L' := [qr 1, qi v1]) (S' := [.int 32, .int v1]) (H' := (c0 :: bk0 zq zn zl za zd zb zc zk zh zi zf zg zj zm ze zo zp po)) rfl ?_
    by_cases hc30 : v1 < (32 : Int32)
    · simp only [if_pos hc30] at h
      refine OEnds.icmpF hm_14 rfl ((tlt hc30).2.1) ?_
      refine OEnds.adv hm_14 2 (pc' := 15) (L' := [qr 1, qi v1]) (S' := [.int 1]) (H' := (c0 :: bk0 zq zn zl za zd zb zc zk zh zi zf zg zj zm ze zo zp po)) rfl ?_
      cases h
      exact OEnds.iret hm_14 rfl rfl
    · simp only [if_neg hc30] at h
      refine OEnds.icmpT hm_14 rfl (q := 14) rfl ((flt hc30).2.1) ?_
      refine OEnds.adv hm_14 1 (pc' := 15) (L' := [qr 1, qi v1]) (S' := [.int 0]) (H' := (c0 :: bk0 zq zn zl za zd zb zc zk zh zi zf zg zj zm ze zo zp po)) rfl ?_
      cases h
      exact OEnds.iret hm_14 rfl rfl
theorem ok_isValidLength_0 {zq zn zl za zd zb zc zk zh zi zf zg : List Int32} {zj zm ze zo zp : Int32} {c0 : ACell} {po : List ACell} {v1 v2 res : Int32} (h : f_isValidLength v1 v2 = some res) : OEnds own_P 15 0 [qr 1, qi v1, qi v2] [] (c0 :: bk0 zq zn zl za zd zb zc zk zh zi zf zg zj zm ze zo zp po) (some (.int res), (c0 :: bk0 zq zn zl za zd zb zc zk zh zi zf zg zj zm ze zo zp po), 0, 0) := by
  unfold f_isValidLength at h
  refine OEnds.adv hm_15 2 (pc' := 2) (L' := [qr 1, qi v1, qi v2]) (S' := [.int 1, .int v2]) (H' := (c0 :: bk0 zq zn zl za zd zb zc zk zh zi zf zg zj zm ze zo zp po)) rfl ?_
  by_cases hc31 : v2 < (1 : Int32)
  · simp only [if_pos hc31] at h
    refine OEnds.icmpF hm_15 rfl ((tlt hc31).2.1) ?_
    refine OEnds.adv hm_15 1 (pc' := 6) (L' := [qr 1, qi v1, qi v2]) (S' := [.int 0]) (H' := (c0 :: bk0 zq zn zl za zd zb zc zk zh zi zf zg zj zm ze zo zp po)) rfl ?_
    cases h
    exact OEnds.iret hm_15 rfl rfl
  · simp only [if_neg hc31] at h
    refine OEnds.icmpT hm_15 rfl (q := 7) rfl ((flt hc31).2.1) ?_
    refine OEnds.adv hm_15 4 (pc' := 12) (L' := [qr 1, qi v1, qi v2]) (S' := [.int ((32 : Int32) - v1), .int v2]) (H' := (c0 :: bk0 zq zn zl za zd zb zc zk zh zi zf zg zj zm ze zo zp po)) rfl ?_
    by_cases hc32 : ((32 : Int32) - v1) < v2
    · simp only [if_pos hc32] at h
      refine OEnds.icmpT hm_15 rfl (q := 19) rfl ((tlt hc32).2.2.1) ?_
      refine OEnds.adv hm_15 1 (pc' := 20) (L' := [qr 1, qi v1, qi v2]) (S' := [.int 0]) (H' := (c0 :: bk0 zq zn zl za zd zb zc zk zh zi zf zg zj zm ze zo zp po)) rfl ?_
      cases h
      exact OEnds.iret hm_15 rfl rfl
    · simp only [if_neg hc32] at h
      refine OEnds.icmpF hm_15 rfl ((flt hc32).2.2.1) ?_
      refine OEnds.adv hm_15 2 (pc' := 20) (L' := [qr 1, qi v1, qi v2]) (S' := [.int 1]) (H' := (c0 :: bk0 zq zn zl za zd zb zc zk zh zi zf zg zj zm ze zo zp po)) rfl ?_
      cases h
      exact OEnds.iret hm_15 rfl rfl
theorem ok_requestError_0 {zq zn zl za zd zb zc zk zh zi zf zg : List Int32} {zj zm ze zo zp : Int32} {c0 : ACell} {po : List ACell} {v1 v2 v3 res : Int32} (h : f_requestError v1 v2 v3 = some res) : OEnds own_P 12 0 [qr 1, qi v1, qi v2, qi v3] [] (c0 :: bk0 zq zn zl za zd zb zc zk zh zi zf zg zj zm ze zo zp po) (some (.int res), (c0 :: bk0 zq zn zl za zd zb zc zk zh zi zf zg zj zm ze zo zp po), 0, 0) := by
  unfold f_requestError at h
  refine OEnds.adv hm_12 2 (pc' := 2) (L' := [qr 1, qi v1, qi v2, qi v3]) (S' := [.int v1, .ref 1]) (H' := (c0 :: bk0 zq zn zl za zd zb zc zk zh zi zf zg zj zm ze zo zp po)) rfl ?_
  obtain ⟨r39, hq33, h⟩ := bnd h
  refine OEnds.call0 hm_12 rfl rfl (by decide) rfl (as := [.ref 1, .int v1]) (rest := []) rfl rfl (ok_isValidType_0 hq33) ?_
  show OEnds own_P 12 5 [qr 1, qi v1, qi v2, qi v3] [.int r39] (c0 :: bk0 zq zn zl za zd zb zc zk zh zi zf zg zj zm ze zo zp po) _
  by_cases hc34 : r39 = (0 : Int32)
  · simp only [if_pos hc34] at h
    refine OEnds.ifF hm_12 rfl ((teq hc34).2) ?_
    refine OEnds.adv hm_12 1 (pc' := 9) (L' := [qr 1, qi v1, qi v2, qi v3]) (S' := [.int (-1)]) (H' := (c0 :: bk0 zq zn zl za zd zb zc zk zh zi zf zg zj zm ze zo zp po)) rfl ?_
    cases h
    exact OEnds.iret hm_12 rfl rfl
  · simp only [if_neg hc34] at h
    refine OEnds.ifT hm_12 rfl (q := 10) rfl ((feq hc34).2) ?_
    refine OEnds.adv hm_12 2 (pc' := 12) (L' := [qr 1, qi v1, qi v2, qi v3]) (S' := [.int v2, .ref 1]) (H' := (c0 :: bk0 zq zn zl za zd zb zc zk zh zi zf zg zj zm ze zo zp po)) rfl ?_
    obtain ⟨r40, hq35, h⟩ := bnd h
    refine OEnds.call0 hm_12 rfl rfl (by decide) rfl (as := [.ref 1, .int v2]) (rest := []) rfl rfl (ok_isValidNight_0 hq35) ?_
    show OEnds own_P 12 15 [qr 1, qi v1, qi v2, qi v3] [.int r40] (c0 :: bk0 zq zn zl za zd zb zc zk zh zi zf zg zj zm ze zo zp po) _
    by_cases hc36 : r40 = (0 : Int32)
    · simp only [if_pos hc36] at h
      refine OEnds.ifF hm_12 rfl ((teq hc36).2) ?_
      refine OEnds.adv hm_12 1 (pc' := 20) (L' := [qr 1, qi v1, qi v2, qi v3]) (S' := [.int (-2)]) (H' := (c0 :: bk0 zq zn zl za zd zb zc zk zh zi zf zg zj zm ze zo zp po)) rfl ?_
      cases h
      exact OEnds.iret hm_12 rfl rfl
    · simp only [if_neg hc36] at h
      refine OEnds.ifT hm_12 rfl (q := 21) rfl ((feq hc36).2) ?_
      refine OEnds.adv hm_12 3 (pc' := 24) (L' := [qr 1, qi v1, qi v2, qi v3]) (S' := [.int v3, .int v2, .ref 1]) (H' := (c0 :: bk0 zq zn zl za zd zb zc zk zh zi zf zg zj zm ze zo zp po)) rfl ?_
      obtain ⟨r41, hq37, h⟩ := bnd h
      refine OEnds.call0 hm_12 rfl rfl (by decide) rfl (as := [.ref 1, .int v2, .int v3]) (rest := []) rfl rfl (ok_isValidLength_0 hq37) ?_
      show OEnds own_P 12 27 [qr 1, qi v1, qi v2, qi v3] [.int r41] (c0 :: bk0 zq zn zl za zd zb zc zk zh zi zf zg zj zm ze zo zp po) _
      by_cases hc38 : r41 = (0 : Int32)
      · simp only [if_pos hc38] at h
        refine OEnds.ifF hm_12 rfl ((teq hc38).2) ?_
        refine OEnds.adv hm_12 1 (pc' := 32) (L' := [qr 1, qi v1, qi v2, qi v3]) (S' := [.int (-2)]) (H' := (c0 :: bk0 zq zn zl za zd zb zc zk zh zi zf zg zj zm ze zo zp po)) rfl ?_
        cases h
        exact OEnds.iret hm_12 rfl rfl
      · simp only [if_neg hc38] at h
        refine OEnds.ifT hm_12 rfl (q := 33) rfl ((feq hc38).2) ?_
        refine OEnds.adv hm_12 1 (pc' := 34) (L' := [qr 1, qi v1, qi v2, qi v3]) (S' := [.int 0]) (H' := (c0 :: bk0 zq zn zl za zd zb zc zk zh zi zf zg zj zm ze zo zp po)) rfl ?_
        cases h
        exact OEnds.iret hm_12 rfl rfl
theorem ok_endOf_0 {zq zn zl za zd zb zc zk zh zi zf zg : List Int32} {zj zm ze zo zp : Int32} {c0 : ACell} {po : List ACell} {v1 v2 res : Int32} (h : f_endOf v1 v2 = some res) : OEnds own_P 26 0 [qr 1, qi v1, qi v2, qu] [] (c0 :: bk0 zq zn zl za zd zb zc zk zh zi zf zg zj zm ze zo zp po) (some (.int res), (c0 :: bk0 zq zn zl za zd zb zc zk zh zi zf zg zj zm ze zo zp po), 0, 0) := by
  unfold f_endOf at h
  refine OEnds.adv hm_26 6 (pc' := 7) (L' := [qr 1, qi v1, qi v2, qi (v1 + v2)]) (S' := [.int 32, .int (v1 + v2)]) (H' := (c0 :: bk0 zq zn zl za zd zb zc zk zh zi zf zg zj zm ze zo zp po)) rfl ?_
  by_cases hc39 : (32 : Int32) < (v1 + v2)
  · simp only [if_pos hc39] at h
    refine OEnds.icmpF hm_26 rfl ((tlt hc39).2.2.2) ?_
    refine OEnds.adv hm_26 1 (pc' := 12) (L' := [qr 1, qi v1, qi v2, qi (v1 + v2)]) (S' := [.int 32]) (H' := (c0 :: bk0 zq zn zl za zd zb zc zk zh zi zf zg zj zm ze zo zp po)) rfl ?_
    cases h
    exact OEnds.iret hm_26 rfl rfl
  · simp only [if_neg hc39] at h
    refine OEnds.icmpT hm_26 rfl (q := 13) rfl ((flt hc39).2.2.2) ?_
    refine OEnds.adv hm_26 1 (pc' := 14) (L' := [qr 1, qi v1, qi v2, qi (v1 + v2)]) (S' := [.int (v1 + v2)]) (H' := (c0 :: bk0 zq zn zl za zd zb zc zk zh zi zf zg zj zm ze zo zp po)) rfl ?_
    cases h
    exact OEnds.iret hm_26 rfl rfl
theorem ok_countIndex_0 {zq zn zl za zd zb zc zk zh zi zf zg : List Int32} {zj zm ze zo zp : Int32} {c0 : ACell} {po : List ACell} {v1 v2 res : Int32} (h : f_countIndex v1 v2 = some res) : OEnds own_P 24 0 [qr 1, qi v1, qi v2] [] (c0 :: bk0 zq zn zl za zd zb zc zk zh zi zf zg zj zm ze zo zp po) (some (.int res), (c0 :: bk0 zq zn zl za zd zb zc zk zh zi zf zg zj zm ze zo zp po), 0, 0) := by
  unfold f_countIndex at h
  refine OEnds.adv hm_24 5 (pc' := 6) (L' := [qr 1, qi v1, qi v2]) (S' := [.int ((v1 * (32 : Int32)) + v2)]) (H' := (c0 :: bk0 zq zn zl za zd zb zc zk zh zi zf zg zj zm ze zo zp po)) rfl ?_
  cases h
  exact OEnds.iret hm_24 rfl rfl
theorem ok_atLeastAt_0 {zq zn zl za zd zb zc zk zh zi zf zg : List Int32} {zj zm ze zo zp : Int32} {c0 : ACell} {po : List ACell} {v1 v2 res : Int32} (h : f_atLeastAt zh v1 v2 = some res) : OEnds own_P 28 0 [qr 1, qi v1, qi v2] [] (c0 :: bk0 zq zn zl za zd zb zc zk zh zi zf zg zj zm ze zo zp po) (some (.int res), (c0 :: bk0 zq zn zl za zd zb zc zk zh zi zf zg zj zm ze zo zp po), 0, 0) := by
  unfold f_atLeastAt at h
  refine OEnds.adv hm_28 2 (pc' := 2) (L' := [qr 1, qi v1, qi v2]) (S' := [.int v1, .ref 1]) (H' := (c0 :: bk0 zq zn zl za zd zb zc zk zh zi zf zg zj zm ze zo zp po)) rfl ?_
  obtain ⟨r42, hq40, h⟩ := bnd h
  refine OEnds.call0 hm_28 rfl rfl (by decide) rfl (as := [.ref 1, .int v1]) (rest := []) rfl rfl (ok_isValidType_0 hq40) ?_
  show OEnds own_P 28 5 [qr 1, qi v1, qi v2] [.int r42] (c0 :: bk0 zq zn zl za zd zb zc zk zh zi zf zg zj zm ze zo zp po) _
  by_cases hc41 : r42 = (0 : Int32)
  · simp only [if_pos hc41] at h
    refine OEnds.ifT hm_28 rfl (q := 16) rfl ((teq hc41).1) ?_
    refine OEnds.adv hm_28 1 (pc' := 17) (L' := [qr 1, qi v1, qi v2]) (S' := [.int 0]) (H' := (c0 :: bk0 zq zn zl za zd zb zc zk zh zi zf zg zj zm ze zo zp po)) rfl ?_
    cases h
    exact OEnds.iret hm_28 rfl rfl
  · simp only [if_neg hc41] at h
    refine OEnds.ifF hm_28 rfl ((feq hc41).1) ?_
    refine OEnds.adv hm_28 2 (pc' := 10) (L' := [qr 1, qi v1, qi v2]) (S' := [.int v2, .ref 1]) (H' := (c0 :: bk0 zq zn zl za zd zb zc zk zh zi zf zg zj zm ze zo zp po)) rfl ?_
    obtain ⟨r43, hq42, h⟩ := bnd h
    refine OEnds.call0 hm_28 rfl rfl (by decide) rfl (as := [.ref 1, .int v2]) (rest := []) rfl rfl (ok_isValidNight_0 hq42) ?_
    show OEnds own_P 28 13 [qr 1, qi v1, qi v2] [.int r43] (c0 :: bk0 zq zn zl za zd zb zc zk zh zi zf zg zj zm ze zo zp po) _
    by_cases hc43 : r43 = (0 : Int32)
    · simp only [if_pos hc43] at h
      refine OEnds.ifF hm_28 rfl ((teq hc43).2) ?_
      refine OEnds.adv hm_28 1 (pc' := 17) (L' := [qr 1, qi v1, qi v2]) (S' := [.int 0]) (H' := (c0 :: bk0 zq zn zl za zd zb zc zk zh zi zf zg zj zm ze zo zp po)) rfl ?_
      cases h
      exact OEnds.iret hm_28 rfl rfl
    · simp only [if_neg hc43] at h
      refine OEnds.ifT hm_28 rfl (q := 18) rfl ((feq hc43).2) ?_
      refine OEnds.adv hm_28 5 (pc' := 25) (L' := [qr 1, qi v1, qi v2]) (S' := [.int v2, .int v1, .ref 1, .ref 10]) (H' := (c0 :: bk0 zq zn zl za zd zb zc zk zh zi zf zg zj zm ze zo zp po)) rfl ?_
      obtain ⟨r44, hq44, h⟩ := bnd h
      refine OEnds.call0 hm_28 rfl rfl (by decide) rfl (as := [.ref 1, .int v1, .int v2]) (rest := [.ref 10]) rfl rfl (ok_countIndex_0 hq44) ?_
      show OEnds own_P 28 28 [qr 1, qi v1, qi v2] [.int r44, .ref 10] (c0 :: bk0 zq zn zl za zd zb zc zk zh zi zf zg zj zm ze zo zp po) _
      obtain ⟨x45, hx45, h⟩ := bnd h
      refine OEnds.plain hm_28 rfl rfl (x_iaload rfl hx45) ?_
      show OEnds own_P 28 29 [qr 1, qi v1, qi v2] [.int x45] (c0 :: bk0 zq zn zl za zd zb zc zk zh zi zf zg zj zm ze zo zp po) _
      cases h
      exact OEnds.iret hm_28 rfl rfl
theorem ok_isActiveStay_0 {zq zn zl za zd zb zc zk zh zi zf zg : List Int32} {zj zm ze zo zp : Int32} {c0 : ACell} {po : List ACell} {v1 res : Int32} (h : f_isActiveStay za v1 = some res) : OEnds own_P 19 0 [qr 1, qi v1] [] (c0 :: bk0 zq zn zl za zd zb zc zk zh zi zf zg zj zm ze zo zp po) (some (.int res), (c0 :: bk0 zq zn zl za zd zb zc zk zh zi zf zg zj zm ze zo zp po), 0, 0) := by
  unfold f_isActiveStay at h
  refine OEnds.adv hm_19 1 (pc' := 1) (L' := [qr 1, qi v1]) (S' := [.int v1]) (H' := (c0 :: bk0 zq zn zl za zd zb zc zk zh zi zf zg zj zm ze zo zp po)) rfl ?_
  by_cases hc45 : v1 < (0 : Int32)
  · simp only [if_pos hc45] at h
    refine OEnds.ifT hm_19 rfl (q := 10) rfl ((tlt hc45).1) ?_
    refine OEnds.adv hm_19 1 (pc' := 11) (L' := [qr 1, qi v1]) (S' := [.int 0]) (H' := (c0 :: bk0 zq zn zl za zd zb zc zk zh zi zf zg zj zm ze zo zp po)) rfl ?_
    cases h
    exact OEnds.iret hm_19 rfl rfl
  · simp only [if_neg hc45] at h
    refine OEnds.ifF hm_19 rfl ((flt hc45).1) ?_
    refine OEnds.adv hm_19 2 (pc' := 7) (L' := [qr 1, qi v1]) (S' := [.int 32, .int v1]) (H' := (c0 :: bk0 zq zn zl za zd zb zc zk zh zi zf zg zj zm ze zo zp po)) rfl ?_
    by_cases hc46 : v1 < (32 : Int32)
    · simp only [if_pos hc46] at h
      refine OEnds.icmpT hm_19 rfl (q := 12) rfl ((tlt hc46).1) ?_
      refine OEnds.adv hm_19 3 (pc' := 17) (L' := [qr 1, qi v1]) (S' := [.int v1, .ref 5]) (H' := (c0 :: bk0 zq zn zl za zd zb zc zk zh zi zf zg zj zm ze zo zp po)) rfl ?_
      obtain ⟨x46, hx46, h⟩ := bnd h
      refine OEnds.plain hm_19 rfl rfl (x_baload rfl hx46) ?_
      show OEnds own_P 19 18 [qr 1, qi v1] [.int x46] (c0 :: bk0 zq zn zl za zd zb zc zk zh zi zf zg zj zm ze zo zp po) _
      cases h
      exact OEnds.iret hm_19 rfl rfl
    · simp only [if_neg hc46] at h
      refine OEnds.icmpF hm_19 rfl ((flt hc46).1) ?_
      refine OEnds.adv hm_19 1 (pc' := 11) (L' := [qr 1, qi v1]) (S' := [.int 0]) (H' := (c0 :: bk0 zq zn zl za zd zb zc zk zh zi zf zg zj zm ze zo zp po)) rfl ?_
      cases h
      exact OEnds.iret hm_19 rfl rfl
theorem ok_coversNight_0 {zq zn zl za zd zb zc zk zh zi zf zg : List Int32} {zj zm ze zo zp : Int32} {c0 : ACell} {po : List ACell} {v1 v2 res : Int32} (h : f_coversNight za zb zc v1 v2 = some res) : OEnds own_P 43 0 [qr 1, qi v1, qi v2, qu] [] (c0 :: bk0 zq zn zl za zd zb zc zk zh zi zf zg zj zm ze zo zp po) (some (.int res), (c0 :: bk0 zq zn zl za zd zb zc zk zh zi zf zg zj zm ze zo zp po), 0, 0) := by
  unfold f_coversNight at h
  refine OEnds.adv hm_43 2 (pc' := 2) (L' := [qr 1, qi v1, qi v2, qu]) (S' := [.int v1, .ref 1]) (H' := (c0 :: bk0 zq zn zl za zd zb zc zk zh zi zf zg zj zm ze zo zp po)) rfl ?_
  obtain ⟨r47, hq47, h⟩ := bnd h
  refine OEnds.call0 hm_43 rfl rfl (by decide) rfl (as := [.ref 1, .int v1]) (rest := []) rfl rfl (ok_isActiveStay_0 hq47) ?_
  show OEnds own_P 43 5 [qr 1, qi v1, qi v2, qu] [.int r47] (c0 :: bk0 zq zn zl za zd zb zc zk zh zi zf zg zj zm ze zo zp po) _
  by_cases hc48 : r47 = (0 : Int32)
  · simp only [if_pos hc48] at h
    refine OEnds.ifF hm_43 rfl ((teq hc48).2) ?_
    refine OEnds.adv hm_43 1 (pc' := 9) (L' := [qr 1, qi v1, qi v2, qu]) (S' := [.int 0]) (H' := (c0 :: bk0 zq zn zl za zd zb zc zk zh zi zf zg zj zm ze zo zp po)) rfl ?_
    cases h
    exact OEnds.iret hm_43 rfl rfl
  · simp only [if_neg hc48] at h
    refine OEnds.ifT hm_43 rfl (q := 10) rfl ((feq hc48).2) ?_
    refine OEnds.adv hm_43 3 (pc' := 15) (L' := [qr 1, qi v1, qi v2, qu]) (S' := [.int v1, .ref 7]) (H' := (c0 :: bk0 zq zn zl za zd zb zc zk zh zi zf zg zj zm ze zo zp po)) rfl ?_
    obtain ⟨x48, hx48, h⟩ := bnd h
    refine OEnds.plain hm_43 rfl rfl (x_iaload rfl hx48) ?_
    refine OEnds.adv hm_43 3 (pc' := 19) (L' := [qr 1, qi v1, qi v2, qi x48]) (S' := [.int x48, .int v2]) (H' := (c0 :: bk0 zq zn zl za zd zb zc zk zh zi zf zg zj zm ze zo zp po)) rfl ?_
    by_cases hc49 : v2 < x48
    · simp only [if_pos hc49] at h
      refine OEnds.icmpT hm_43 rfl (q := 38) rfl ((tlt hc49).1) ?_
      refine OEnds.adv hm_43 1 (pc' := 39) (L' := [qr 1, qi v1, qi v2, qi x48]) (S' := [.int 0]) (H' := (c0 :: bk0 zq zn zl za zd zb zc zk zh zi zf zg zj zm ze zo zp po)) rfl ?_
      cases h
      exact OEnds.iret hm_43 rfl rfl
    · simp only [if_neg hc49] at h
      refine OEnds.icmpF hm_43 rfl ((flt hc49).1) ?_
      refine OEnds.adv hm_43 6 (pc' := 30) (L' := [qr 1, qi v1, qi v2, qi x48]) (S' := [.int v1, .ref 8, .int (v2 - x48)]) (H' := (c0 :: bk0 zq zn zl za zd zb zc zk zh zi zf zg zj zm ze zo zp po)) rfl ?_
      obtain ⟨x49, hx49, h⟩ := bnd h
      refine OEnds.plain hm_43 rfl rfl (x_iaload rfl hx49) ?_
      show OEnds own_P 43 31 [qr 1, qi v1, qi v2, qi x48] [.int x49, .int (v2 - x48)] (c0 :: bk0 zq zn zl za zd zb zc zk zh zi zf zg zj zm ze zo zp po) _
      by_cases hc50 : (v2 - x48) < x49
      · simp only [if_pos hc50] at h
        refine OEnds.icmpF hm_43 rfl ((tlt hc50).2.1) ?_
        refine OEnds.adv hm_43 2 (pc' := 39) (L' := [qr 1, qi v1, qi v2, qi x48]) (S' := [.int 1]) (H' := (c0 :: bk0 zq zn zl za zd zb zc zk zh zi zf zg zj zm ze zo zp po)) rfl ?_
        cases h
        exact OEnds.iret hm_43 rfl rfl
      · simp only [if_neg hc50] at h
        refine OEnds.icmpT hm_43 rfl (q := 38) rfl ((flt hc50).2.1) ?_
        refine OEnds.adv hm_43 1 (pc' := 39) (L' := [qr 1, qi v1, qi v2, qi x48]) (S' := [.int 0]) (H' := (c0 :: bk0 zq zn zl za zd zb zc zk zh zi zf zg zj zm ze zo zp po)) rfl ?_
        cases h
        exact OEnds.iret hm_43 rfl rfl
theorem ok_exclusion_0 {zq zn zl za zd zb zc zk zh zi zf zg : List Int32} {zj zm ze zo zp : Int32} {c0 : ACell} {po : List ACell} {v1 v2 v3 res : Int32} (h : f_exclusion za zd zb zc v1 v2 v3 = some res) : OEnds own_P 29 0 [qr 1, qi v1, qi v2, qi v3] [] (c0 :: bk0 zq zn zl za zd zb zc zk zh zi zf zg zj zm ze zo zp po) (some (.int res), (c0 :: bk0 zq zn zl za zd zb zc zk zh zi zf zg zj zm ze zo zp po), 0, 0) := by
  unfold f_exclusion at h
  refine OEnds.adv hm_29 2 (pc' := 2) (L' := [qr 1, qi v1, qi v2, qi v3]) (S' := [.int v1, .ref 1]) (H' := (c0 :: bk0 zq zn zl za zd zb zc zk zh zi zf zg zj zm ze zo zp po)) rfl ?_
  obtain ⟨r50, hq51, h⟩ := bnd h
  refine OEnds.call0 hm_29 rfl rfl (by decide) rfl (as := [.ref 1, .int v1]) (rest := []) rfl rfl (ok_isActiveStay_0 hq51) ?_
  show OEnds own_P 29 5 [qr 1, qi v1, qi v2, qi v3] [.int r50] (c0 :: bk0 zq zn zl za zd zb zc zk zh zi zf zg zj zm ze zo zp po) _
  by_cases hc52 : r50 = (0 : Int32)
  · simp only [if_pos hc52] at h
    refine OEnds.ifF hm_29 rfl ((teq hc52).2) ?_
    refine OEnds.adv hm_29 1 (pc' := 9) (L' := [qr 1, qi v1, qi v2, qi v3]) (S' := [.int 0]) (H' := (c0 :: bk0 zq zn zl za zd zb zc zk zh zi zf zg zj zm ze zo zp po)) rfl ?_
    cases h
    exact OEnds.iret hm_29 rfl rfl
  · simp only [if_neg hc52] at h
    refine OEnds.ifT hm_29 rfl (q := 10) rfl ((feq hc52).2) ?_
    refine OEnds.adv hm_29 3 (pc' := 15) (L' := [qr 1, qi v1, qi v2, qi v3]) (S' := [.int v1, .ref 6]) (H' := (c0 :: bk0 zq zn zl za zd zb zc zk zh zi zf zg zj zm ze zo zp po)) rfl ?_
    obtain ⟨x51, hx51, h⟩ := bnd h
    refine OEnds.plain hm_29 rfl rfl (x_iaload rfl hx51) ?_
    refine OEnds.adv hm_29 1 (pc' := 17) (L' := [qr 1, qi v1, qi v2, qi v3]) (S' := [.int v2, .int x51]) (H' := (c0 :: bk0 zq zn zl za zd zb zc zk zh zi zf zg zj zm ze zo zp po)) rfl ?_
    by_cases hc53 : x51 < v2
    · simp only [if_pos hc53] at h
      refine OEnds.icmpF hm_29 rfl ((tlt hc53).2.1) ?_
      refine OEnds.adv hm_29 1 (pc' := 21) (L' := [qr 1, qi v1, qi v2, qi v3]) (S' := [.int 0]) (H' := (c0 :: bk0 zq zn zl za zd zb zc zk zh zi zf zg zj zm ze zo zp po)) rfl ?_
      cases h
      exact OEnds.iret hm_29 rfl rfl
    · simp only [if_neg hc53] at h
      refine OEnds.icmpT hm_29 rfl (q := 22) rfl ((flt hc53).2.1) ?_
      refine OEnds.adv hm_29 3 (pc' := 25) (L' := [qr 1, qi v1, qi v2, qi v3]) (S' := [.int v3, .int v1, .ref 1]) (H' := (c0 :: bk0 zq zn zl za zd zb zc zk zh zi zf zg zj zm ze zo zp po)) rfl ?_
      obtain ⟨r52, hq54, h⟩ := bnd h
      refine OEnds.call0 hm_29 rfl rfl (by decide) rfl (as := [.ref 1, .int v1, .int v3]) (rest := []) rfl rfl (ok_coversNight_0 hq54) ?_
      show OEnds own_P 29 28 [qr 1, qi v1, qi v2, qi v3] [.int r52] (c0 :: bk0 zq zn zl za zd zb zc zk zh zi zf zg zj zm ze zo zp po) _
      by_cases hc55 : r52 = (0 : Int32)
      · simp only [if_pos hc55] at h
        refine OEnds.ifT hm_29 rfl (q := 33) rfl ((teq hc55).1) ?_
        refine OEnds.adv hm_29 1 (pc' := 34) (L' := [qr 1, qi v1, qi v2, qi v3]) (S' := [.int 0]) (H' := (c0 :: bk0 zq zn zl za zd zb zc zk zh zi zf zg zj zm ze zo zp po)) rfl ?_
        cases h
        exact OEnds.iret hm_29 rfl rfl
      · simp only [if_neg hc55] at h
        refine OEnds.ifF hm_29 rfl ((feq hc55).1) ?_
        refine OEnds.adv hm_29 1 (pc' := 32) (L' := [qr 1, qi v1, qi v2, qi v3]) (S' := [.int 1]) (H' := (c0 :: bk0 zq zn zl za zd zb zc zk zh zi zf zg zj zm ze zo zp po)) rfl ?_
        cases h
        exact OEnds.iret hm_29 rfl rfl
theorem ok_nightFits_3_0 {zq zn zl za zd zb zc zk zh zi zf zg : List Int32} {zj zm ze zo zp : Int32} {c0 : ACell} {po : List ACell} : ∀ (n : Nat), ∀ {v1 v2 v3 v4 : Int32} {d5 d6 d7 : Slot} {res : Int32}, f_nightFits_3 zn za zd zb zc zh n v1 v2 v3 v4 = some res → OEnds own_P 27 3 [qr 1, qi v1, qi v2, qi v3, qi v4, d5, d6, d7] [] (c0 :: bk0 zq zn zl za zd zb zc zk zh zi zf zg zj zm ze zo zp po) (some (.int res), (c0 :: bk0 zq zn zl za zd zb zc zk zh zi zf zg zj zm ze zo zp po), 0, 0) := by
  intro n
  induction n with
  | zero => intro v1 v2 v3 v4 d5 d6 d7 res h; cases h
  | succ n ih =>
    intro v1 v2 v3 v4 d5 d6 d7 res h
    unfold f_nightFits_3 at h
    refine OEnds.adv hm_27 2 (pc' := 6) (L' := [qr 1, qi v1, qi v2, qi v3, qi v4, qu, qu, qu]) (S' := [.int v2, .int v4]) (H' := (c0 :: bk0 zq zn zl za zd zb zc zk zh zi zf zg zj zm ze zo zp po)) rfl ?_
    by_cases hc56 : v2 < v4
    · simp only [if_pos hc56] at h
      refine OEnds.icmpT hm_27 rfl (q := 63) rfl ((tlt hc56).2.2.1) ?_
      refine OEnds.adv hm_27 1 (pc' := 64) (L' := [qr 1, qi v1, qi v2, qi v3, qi v4, qu, qu, qu]) (S' := [.int 1]) (H' := (c0 :: bk0 zq zn zl za zd zb zc zk zh zi zf zg zj zm ze zo zp po)) rfl ?_
      cases h
      exact OEnds.iret hm_27 rfl rfl
    · simp only [if_neg hc56] at h
      refine OEnds.icmpF hm_27 rfl ((flt hc56).2.2.1) ?_
      refine OEnds.adv hm_27 2 (pc' := 12) (L' := [qr 1, qi v1, qi v2, qi v3, qi v4, qu, qu, qu]) (S' := [.int 3, .int v4]) (H' := (c0 :: bk0 zq zn zl za zd zb zc zk zh zi zf zg zj zm ze zo zp po)) rfl ?_
      by_cases hc57 : v4 < (3 : Int32)
      · simp only [if_pos hc57] at h
        refine OEnds.icmpF hm_27 rfl ((tlt hc57).2.1) ?_
        refine OEnds.adv hm_27 3 (pc' := 19) (L' := [qr 1, qi v1, qi v2, qi v3, qi v4, qu, qu, qu]) (S' := [.int v3, .int v4, .ref 1]) (H' := (c0 :: bk0 zq zn zl za zd zb zc zk zh zi zf zg zj zm ze zo zp po)) rfl ?_
        obtain ⟨r53, hq58, h⟩ := bnd h
        refine OEnds.call0 hm_27 rfl rfl (by decide) rfl (as := [.ref 1, .int v4, .int v3]) (rest := []) rfl rfl (ok_atLeastAt_0 hq58) ?_
        refine OEnds.adv hm_27 5 (pc' := 29) (L' := [qr 1, qi v1, qi v2, qi v3, qi v4, qi r53, qu, qu]) (S' := [.int v3, .int v4, .int v1, .ref 1]) (H' := (c0 :: bk0 zq zn zl za zd zb zc zk zh zi zf zg zj zm ze zo zp po)) rfl ?_
        obtain ⟨r54, hq59, h⟩ := bnd h
        refine OEnds.call0 hm_27 rfl rfl (by decide) rfl (as := [.ref 1, .int v1, .int v4, .int v3]) (rest := []) rfl rfl (ok_exclusion_0 hq59) ?_
        refine OEnds.adv hm_27 11 (pc' := 51) (L' := [qr 1, qi v1, qi v2, qi v3, qi v4, qi r53, qi r54, qi ((r53 - r54) + (1 : Int32))]) (S' := [.int v4, .ref 3, .int ((r53 - r54) + (1 : Int32))]) (H' := (c0 :: bk0 zq zn zl za zd zb zc zk zh zi zf zg zj zm ze zo zp po)) rfl ?_
        obtain ⟨x55, hx55, h⟩ := bnd h
        refine OEnds.plain hm_27 rfl rfl (x_iaload rfl hx55) ?_
        show OEnds own_P 27 52 [qr 1, qi v1, qi v2, qi v3, qi v4, qi r53, qi r54, qi ((r53 - r54) + (1 : Int32))] [.int x55, .int ((r53 - r54) + (1 : Int32))] (c0 :: bk0 zq zn zl za zd zb zc zk zh zi zf zg zj zm ze zo zp po) _
        by_cases hc60 : x55 < ((r53 - r54) + (1 : Int32))
        · simp only [if_pos hc60] at h
          refine OEnds.icmpF hm_27 rfl ((tlt hc60).2.2.2) ?_
          refine OEnds.adv hm_27 1 (pc' := 56) (L' := [qr 1, qi v1, qi v2, qi v3, qi v4, qi r53, qi r54, qi ((r53 - r54) + (1 : Int32))]) (S' := [.int 0]) (H' := (c0 :: bk0 zq zn zl za zd zb zc zk zh zi zf zg zj zm ze zo zp po)) rfl ?_
          cases h
          exact OEnds.iret hm_27 rfl rfl
        · simp only [if_neg hc60] at h
          refine OEnds.icmpT hm_27 rfl (q := 57) rfl ((flt hc60).2.2.2) ?_
          refine OEnds.adv hm_27 2 (pc' := 3) (L' := [qr 1, qi v1, qi v2, qi v3, qi (v4 + (1 : Int32)), qi r53, qi r54, qi ((r53 - r54) + (1 : Int32))]) (S' := []) (H' := (c0 :: bk0 zq zn zl za zd zb zc zk zh zi zf zg zj zm ze zo zp po)) rfl ?_
          exact ih h
      · simp only [if_neg hc57] at h
        refine OEnds.icmpT hm_27 rfl (q := 63) rfl ((flt hc57).2.1) ?_
        refine OEnds.adv hm_27 1 (pc' := 64) (L' := [qr 1, qi v1, qi v2, qi v3, qi v4, qu, qu, qu]) (S' := [.int 1]) (H' := (c0 :: bk0 zq zn zl za zd zb zc zk zh zi zf zg zj zm ze zo zp po)) rfl ?_
        cases h
        exact OEnds.iret hm_27 rfl rfl
theorem ok_nightFits_0 {zq zn zl za zd zb zc zk zh zi zf zg : List Int32} {zj zm ze zo zp : Int32} {c0 : ACell} {po : List ACell} {v1 v2 v3 res : Int32} (h : f_nightFits zn za zd zb zc zh v1 v2 v3 = some res) : OEnds own_P 27 0 [qr 1, qi v1, qi v2, qi v3, qu, qu, qu, qu] [] (c0 :: bk0 zq zn zl za zd zb zc zk zh zi zf zg zj zm ze zo zp po) (some (.int res), (c0 :: bk0 zq zn zl za zd zb zc zk zh zi zf zg zj zm ze zo zp po), 0, 0) := by
  unfold f_nightFits at h
  refine OEnds.adv hm_27 2 (pc' := 3) (L' := [qr 1, qi v1, qi v2, qi v3, qi 0, qu, qu, qu]) (S' := []) (H' := (c0 :: bk0 zq zn zl za zd zb zc zk zh zi zf zg zj zm ze zo zp po)) rfl ?_
  exact ok_nightFits_3_0 100000 h
theorem ok_fitsWith_12_0 {zq zn zl za zd zb zc zk zh zi zf zg : List Int32} {zj zm ze zo zp : Int32} {c0 : ACell} {po : List ACell} : ∀ (n : Nat), ∀ {v1 v2 v5 v6 : Int32} {d3 d4 : Slot} {res : Int32}, f_fitsWith_12 zn za zd zb zc zh n v1 v2 v5 v6 = some res → OEnds own_P 25 12 [qr 1, qi v1, qi v2, d3, d4, qi v5, qi v6] [] (c0 :: bk0 zq zn zl za zd zb zc zk zh zi zf zg zj zm ze zo zp po) (some (.int res), (c0 :: bk0 zq zn zl za zd zb zc zk zh zi zf zg zj zm ze zo zp po), 0, 0) := by
  intro n
  induction n with
  | zero => intro v1 v2 v5 v6 d3 d4 res h; cases h
  | succ n ih =>
    intro v1 v2 v5 v6 d3 d4 res h
    unfold f_fitsWith_12 at h
    refine OEnds.adv hm_25 1 (pc' := 14) (L' := [qr 1, qi v1, qi v2, qu, qu, qi v5, qi v6]) (S' := [.int v6]) (H' := (c0 :: bk0 zq zn zl za zd zb zc zk zh zi zf zg zj zm ze zo zp po)) rfl ?_
    by_cases hc61 : v6 < (0 : Int32)
    · simp only [if_pos hc61] at h
      refine OEnds.ifT hm_25 rfl (q := 43) rfl ((tlt hc61).1) ?_
      refine OEnds.adv hm_25 1 (pc' := 44) (L' := [qr 1, qi v1, qi v2, qu, qu, qi v5, qi v6]) (S' := [.int 1]) (H' := (c0 :: bk0 zq zn zl za zd zb zc zk zh zi zf zg zj zm ze zo zp po)) rfl ?_
      cases h
      exact OEnds.iret hm_25 rfl rfl
    · simp only [if_neg hc61] at h
      refine OEnds.ifF hm_25 rfl ((flt hc61).1) ?_
      refine OEnds.adv hm_25 2 (pc' := 21) (L' := [qr 1, qi v1, qi v2, qu, qu, qi v5, qi v6]) (S' := [.int v5, .int v6]) (H' := (c0 :: bk0 zq zn zl za zd zb zc zk zh zi zf zg zj zm ze zo zp po)) rfl ?_
      by_cases hc62 : v6 < v5
      · simp only [if_pos hc62] at h
        refine OEnds.icmpF hm_25 rfl ((tlt hc62).2.1) ?_
        refine OEnds.adv hm_25 4 (pc' := 29) (L' := [qr 1, qi v1, qi v2, qu, qu, qi v5, qi v6]) (S' := [.int v6, .int v2, .int v1, .ref 1]) (H' := (c0 :: bk0 zq zn zl za zd zb zc zk zh zi zf zg zj zm ze zo zp po)) rfl ?_
        obtain ⟨r57, hq63, h⟩ := bnd h
        refine OEnds.call0 hm_25 rfl rfl (by decide) rfl (as := [.ref 1, .int v1, .int v2, .int v6]) (rest := []) rfl rfl (ok_nightFits_0 hq63) ?_
        show OEnds own_P 25 32 [qr 1, qi v1, qi v2, qu, qu, qi v5, qi v6] [.int r57] (c0 :: bk0 zq zn zl za zd zb zc zk zh zi zf zg zj zm ze zo zp po) _
        by_cases hc64 : r57 = (0 : Int32)
        · simp only [if_pos hc64] at h
          refine OEnds.ifF hm_25 rfl ((teq hc64).2) ?_
          refine OEnds.adv hm_25 1 (pc' := 36) (L' := [qr 1, qi v1, qi v2, qu, qu, qi v5, qi v6]) (S' := [.int 0]) (H' := (c0 :: bk0 zq zn zl za zd zb zc zk zh zi zf zg zj zm ze zo zp po)) rfl ?_
          cases h
          exact OEnds.iret hm_25 rfl rfl
        · simp only [if_neg hc64] at h
          refine OEnds.ifT hm_25 rfl (q := 37) rfl ((feq hc64).2) ?_
          refine OEnds.adv hm_25 2 (pc' := 12) (L' := [qr 1, qi v1, qi v2, qu, qu, qi v5, qi (v6 + (1 : Int32))]) (S' := []) (H' := (c0 :: bk0 zq zn zl za zd zb zc zk zh zi zf zg zj zm ze zo zp po)) rfl ?_
          exact ih h
      · simp only [if_neg hc62] at h
        refine OEnds.icmpT hm_25 rfl (q := 43) rfl ((flt hc62).2.1) ?_
        refine OEnds.adv hm_25 1 (pc' := 44) (L' := [qr 1, qi v1, qi v2, qu, qu, qi v5, qi v6]) (S' := [.int 1]) (H' := (c0 :: bk0 zq zn zl za zd zb zc zk zh zi zf zg zj zm ze zo zp po)) rfl ?_
        cases h
        exact OEnds.iret hm_25 rfl rfl
theorem ok_fitsWith_0 {zq zn zl za zd zb zc zk zh zi zf zg : List Int32} {zj zm ze zo zp : Int32} {c0 : ACell} {po : List ACell} {v1 v2 v3 v4 res : Int32} (h : f_fitsWith zn za zd zb zc zh v1 v2 v3 v4 = some res) : OEnds own_P 25 0 [qr 1, qi v1, qi v2, qi v3, qi v4, qu, qu] [] (c0 :: bk0 zq zn zl za zd zb zc zk zh zi zf zg zj zm ze zo zp po) (some (.int res), (c0 :: bk0 zq zn zl za zd zb zc zk zh zi zf zg zj zm ze zo zp po), 0, 0) := by
  unfold f_fitsWith at h
  refine OEnds.adv hm_25 3 (pc' := 4) (L' := [qr 1, qi v1, qi v2, qi v3, qi v4, qu, qu]) (S' := [.int v4, .int v3, .ref 1]) (H' := (c0 :: bk0 zq zn zl za zd zb zc zk zh zi zf zg zj zm ze zo zp po)) rfl ?_
  obtain ⟨r56, hq65, h⟩ := bnd h
  refine OEnds.call0 hm_25 rfl rfl (by decide) rfl (as := [.ref 1, .int v3, .int v4]) (rest := []) rfl rfl (ok_endOf_0 hq65) ?_
  refine OEnds.adv hm_25 3 (pc' := 12) (L' := [qr 1, qi v1, qi v2, qi v3, qi v4, qi r56, qi v3]) (S' := []) (H' := (c0 :: bk0 zq zn zl za zd zb zc zk zh zi zf zg zj zm ze zo zp po)) rfl ?_
  exact ok_fitsWith_12_0 100000 h
theorem ok_lowestInactiveSlot_2_0 {zq zn zl za zd zb zc zk zh zi zf zg : List Int32} {zj zm ze zo zp : Int32} {c0 : ACell} {po : List ACell} : ∀ (n : Nat), ∀ {v1 : Int32} {res : Int32}, f_lowestInactiveSlot_2 za n v1 = some res → OEnds own_P 30 2 [qr 1, qi v1] [] (c0 :: bk0 zq zn zl za zd zb zc zk zh zi zf zg zj zm ze zo zp po) (some (.int res), (c0 :: bk0 zq zn zl za zd zb zc zk zh zi zf zg zj zm ze zo zp po), 0, 0) := by
  intro n
  induction n with
  | zero => intro v1 res h; cases h
  | succ n ih =>
    intro v1 res h
    unfold f_lowestInactiveSlot_2 at h
    refine OEnds.adv hm_30 2 (pc' := 5) (L' := [qr 1, qi v1]) (S' := [.int 32, .int v1]) (H' := (c0 :: bk0 zq zn zl za zd zb zc zk zh zi zf zg zj zm ze zo zp po)) rfl ?_
    by_cases hc66 : v1 < (32 : Int32)
    · simp only [if_pos hc66] at h
      refine OEnds.icmpF hm_30 rfl ((tlt hc66).2.1) ?_
      refine OEnds.adv hm_30 3 (pc' := 13) (L' := [qr 1, qi v1]) (S' := [.int v1, .ref 5]) (H' := (c0 :: bk0 zq zn zl za zd zb zc zk zh zi zf zg zj zm ze zo zp po)) rfl ?_
      obtain ⟨x58, hx58, h⟩ := bnd h
      refine OEnds.plain hm_30 rfl rfl (x_baload rfl hx58) ?_
      show OEnds own_P 30 14 [qr 1, qi v1] [.int x58] (c0 :: bk0 zq zn zl za zd zb zc zk zh zi zf zg zj zm ze zo zp po) _
      by_cases hc67 : x58 = (0 : Int32)
      · simp only [if_pos hc67] at h
        refine OEnds.ifF hm_30 rfl ((teq hc67).2) ?_
        refine OEnds.adv hm_30 1 (pc' := 18) (L' := [qr 1, qi v1]) (S' := [.int v1]) (H' := (c0 :: bk0 zq zn zl za zd zb zc zk zh zi zf zg zj zm ze zo zp po)) rfl ?_
        cases h
        exact OEnds.iret hm_30 rfl rfl
      · simp only [if_neg hc67] at h
        refine OEnds.ifT hm_30 rfl (q := 19) rfl ((feq hc67).2) ?_
        refine OEnds.adv hm_30 2 (pc' := 2) (L' := [qr 1, qi (v1 + (1 : Int32))]) (S' := []) (H' := (c0 :: bk0 zq zn zl za zd zb zc zk zh zi zf zg zj zm ze zo zp po)) rfl ?_
        exact ih h
    · simp only [if_neg hc66] at h
      refine OEnds.icmpT hm_30 rfl (q := 25) rfl ((flt hc66).2.1) ?_
      refine OEnds.adv hm_30 1 (pc' := 26) (L' := [qr 1, qi v1]) (S' := [.int (-1)]) (H' := (c0 :: bk0 zq zn zl za zd zb zc zk zh zi zf zg zj zm ze zo zp po)) rfl ?_
      cases h
      exact OEnds.iret hm_30 rfl rfl
theorem ok_lowestInactiveSlot_0 {zq zn zl za zd zb zc zk zh zi zf zg : List Int32} {zj zm ze zo zp : Int32} {c0 : ACell} {po : List ACell} {res : Int32} (h : f_lowestInactiveSlot za = some res) : OEnds own_P 30 0 [qr 1, qu] [] (c0 :: bk0 zq zn zl za zd zb zc zk zh zi zf zg zj zm ze zo zp po) (some (.int res), (c0 :: bk0 zq zn zl za zd zb zc zk zh zi zf zg zj zm ze zo zp po), 0, 0) := by
  unfold f_lowestInactiveSlot at h
  refine OEnds.adv hm_30 2 (pc' := 2) (L' := [qr 1, qi 0]) (S' := []) (H' := (c0 :: bk0 zq zn zl za zd zb zc zk zh zi zf zg zj zm ze zo zp po)) rfl ?_
  exact ok_lowestInactiveSlot_2_0 100000 h
theorem ok_storeStay_0 {zq zn zl za zk zh zi zf zg : List Int32} {zj zm ze zo zp : Int32} {c0 : ACell} {po : List ACell} {zd zb zc : List Int32} {v1 v2 v3 v4 : Int32} {w_o_slotType w_o_slotArrive w_o_slotNights : List Int32} (h : f_storeStay zd zb zc v1 v2 v3 v4 = some (w_o_slotType, w_o_slotArrive, w_o_slotNights)) : OEnds own_P 32 0 [qr 1, qi v1, qi v2, qi v3, qi v4] [] (c0 :: bk0 zq zn zl za zd zb zc zk zh zi zf zg zj zm ze zo zp po) (none, (c0 :: bk0 zq zn zl za w_o_slotType w_o_slotArrive w_o_slotNights zk zh zi zf zg zj zm ze zo zp po), 0, 0) := by
  unfold f_storeStay at h
  refine OEnds.adv hm_32 4 (pc' := 6) (L' := [qr 1, qi v1, qi v2, qi v3, qi v4]) (S' := [.int v2, .int v1, .ref 6]) (H' := (c0 :: bk0 zq zn zl za zd zb zc zk zh zi zf zg zj zm ze zo zp po)) rfl ?_
  obtain ⟨A59, hA59, h⟩ := bnd h
  refine OEnds.plain hm_32 rfl rfl (x_iastore rfl (Nat.le_of_ble_eq_true rfl) hA59) ?_
  refine OEnds.adv hm_32 4 (pc' := 13) (L' := [qr 1, qi v1, qi v2, qi v3, qi v4]) (S' := [.int v3, .int v1, .ref 7]) (H' := (c0 :: bk0 zq zn zl za A59 zb zc zk zh zi zf zg zj zm ze zo zp po)) rfl ?_
  obtain ⟨A60, hA60, h⟩ := bnd h
  refine OEnds.plain hm_32 rfl rfl (x_iastore rfl (Nat.le_of_ble_eq_true rfl) hA60) ?_
  refine OEnds.adv hm_32 4 (pc' := 21) (L' := [qr 1, qi v1, qi v2, qi v3, qi v4]) (S' := [.int v4, .int v1, .ref 8]) (H' := (c0 :: bk0 zq zn zl za A59 A60 zc zk zh zi zf zg zj zm ze zo zp po)) rfl ?_
  obtain ⟨A61, hA61, h⟩ := bnd h
  refine OEnds.plain hm_32 rfl rfl (x_iastore rfl (Nat.le_of_ble_eq_true rfl) hA61) ?_
  show OEnds own_P 32 22 [qr 1, qi v1, qi v2, qi v3, qi v4] [] (c0 :: bk0 zq zn zl za A59 A60 A61 zk zh zi zf zg zj zm ze zo zp po) _
  cases h
  exact OEnds.vret hm_32 rfl rfl
theorem ok_adjustCoverage_84_0 {zq zn zl za zd zb zc zi zf zg : List Int32} {zj zm ze zo zp : Int32} {c0 : ACell} {po : List ACell} {k53 : List Int32 → List Int32 → Int32 → Int32 → Int32 → Int32 → Option (List Int32 × List Int32)} (hk53 : ∀ {zk zh : List Int32} {v2 v3 v5 v6 : Int32} {d1 d4 d7 : Slot} {w_o_exactCount : List Int32} {w_o_atLeastCount : List Int32}, k53 zk zh v2 v3 v5 v6 = some (w_o_exactCount, w_o_atLeastCount) → OEnds own_P 33 53 [qr 1, d1, qi v2, qi v3, d4, qi v5, qi v6, d7] [] (c0 :: bk0 zq zn zl za zd zb zc zk zh zi zf zg zj zm ze zo zp po) (none, (c0 :: bk0 zq zn zl za zd zb zc w_o_exactCount w_o_atLeastCount zi zf zg zj zm ze zo zp po), 0, 0)) : ∀ (n : Nat), ∀ {zk zh : List Int32} {v2 v3 v5 v6 v7 : Int32} {d1 d4 : Slot} {w_o_exactCount : List Int32} {w_o_atLeastCount : List Int32}, f_adjustCoverage_84 k53 zd zb zc n zk zh v2 v3 v5 v6 v7 = some (w_o_exactCount, w_o_atLeastCount) → OEnds own_P 33 84 [qr 1, d1, qi v2, qi v3, d4, qi v5, qi v6, qi v7] [] (c0 :: bk0 zq zn zl za zd zb zc zk zh zi zf zg zj zm ze zo zp po) (none, (c0 :: bk0 zq zn zl za zd zb zc w_o_exactCount w_o_atLeastCount zi zf zg zj zm ze zo zp po), 0, 0) := by
  intro n
  induction n with
  | zero => intro zk zh v2 v3 v5 v6 v7 d1 d4 w_o_exactCount w_o_atLeastCount h; cases h
  | succ n ih =>
    intro zk zh v2 v3 v5 v6 v7 d1 d4 w_o_exactCount w_o_atLeastCount h
    unfold f_adjustCoverage_84 at h
    refine OEnds.adv hm_33 2 (pc' := 87) (L' := [qr 1, qu, qi v2, qi v3, qu, qi v5, qi v6, qi v7]) (S' := [.int v3, .int v7]) (H' := (c0 :: bk0 zq zn zl za zd zb zc zk zh zi zf zg zj zm ze zo zp po)) rfl ?_
    by_cases hc68 : v3 < v7
    · simp only [if_pos hc68] at h
      refine OEnds.icmpT hm_33 rfl (q := 113) rfl ((tlt hc68).2.2.1) ?_
      refine OEnds.adv hm_33 2 (pc' := 53) (L' := [qr 1, qu, qi v2, qi v3, qu, qi v5, qi (v6 + (1 : Int32)), qi v7]) (S' := []) (H' := (c0 :: bk0 zq zn zl za zd zb zc zk zh zi zf zg zj zm ze zo zp po)) rfl ?_
      exact hk53 h
    · simp only [if_neg hc68] at h
      refine OEnds.icmpF hm_33 rfl ((flt hc68).2.2.1) ?_
      refine OEnds.adv hm_33 5 (pc' := 99) (L' := [qr 1, qu, qi v2, qi v3, qu, qi v5, qi v6, qi v7]) (S' := [.int v6, .int v7, .ref 1, .ref 10]) (H' := (c0 :: bk0 zq zn zl za zd zb zc zk zh zi zf zg zj zm ze zo zp po)) rfl ?_
      obtain ⟨r70, hq69, h⟩ := bnd h
      refine OEnds.call0 hm_33 rfl rfl (by decide) rfl (as := [.ref 1, .int v7, .int v6]) (rest := [.ref 10]) rfl rfl (ok_countIndex_0 hq69) ?_
      refine OEnds.adv hm_33 1 (pc' := 103) (L' := [qr 1, qu, qi v2, qi v3, qu, qi v5, qi v6, qi v7]) (S' := [.int r70, .ref 10, .int r70, .ref 10]) (H' := (c0 :: bk0 zq zn zl za zd zb zc zk zh zi zf zg zj zm ze zo zp po)) rfl ?_
      obtain ⟨x71, hx71, h⟩ := bnd h
      refine OEnds.plain hm_33 rfl rfl (x_iaload rfl hx71) ?_
      refine OEnds.adv hm_33 2 (pc' := 106) (L' := [qr 1, qu, qi v2, qi v3, qu, qi v5, qi v6, qi v7]) (S' := [.int (x71 + v2), .int r70, .ref 10]) (H' := (c0 :: bk0 zq zn zl za zd zb zc zk zh zi zf zg zj zm ze zo zp po)) rfl ?_
      obtain ⟨A72, hA72, h⟩ := bnd h
      refine OEnds.plain hm_33 rfl rfl (x_iastore rfl (Nat.le_of_ble_eq_true rfl) hA72) ?_
      refine OEnds.adv hm_33 2 (pc' := 84) (L' := [qr 1, qu, qi v2, qi v3, qu, qi v5, qi v6, qi (v7 + (1 : Int32))]) (S' := []) (H' := (c0 :: bk0 zq zn zl za zd zb zc zk A72 zi zf zg zj zm ze zo zp po)) rfl ?_
      exact ih h
theorem ok_adjustCoverage_53_0 {zq zn zl za zd zb zc zi zf zg : List Int32} {zj zm ze zo zp : Int32} {c0 : ACell} {po : List ACell} : ∀ (n : Nat), ∀ {zk zh : List Int32} {v2 v3 v5 v6 : Int32} {d1 d4 d7 : Slot} {w_o_exactCount : List Int32} {w_o_atLeastCount : List Int32}, f_adjustCoverage_53 zd zb zc n zk zh v2 v3 v5 v6 = some (w_o_exactCount, w_o_atLeastCount) → OEnds own_P 33 53 [qr 1, d1, qi v2, qi v3, d4, qi v5, qi v6, d7] [] (c0 :: bk0 zq zn zl za zd zb zc zk zh zi zf zg zj zm ze zo zp po) (none, (c0 :: bk0 zq zn zl za zd zb zc w_o_exactCount w_o_atLeastCount zi zf zg zj zm ze zo zp po), 0, 0) := by
  intro n
  induction n with
  | zero => intro zk zh v2 v3 v5 v6 d1 d4 d7 w_o_exactCount w_o_atLeastCount h; cases h
  | succ n ih =>
    intro zk zh v2 v3 v5 v6 d1 d4 d7 w_o_exactCount w_o_atLeastCount h
    unfold f_adjustCoverage_53 at h
    refine OEnds.adv hm_33 1 (pc' := 55) (L' := [qr 1, qu, qi v2, qi v3, qu, qi v5, qi v6, qu]) (S' := [.int v6]) (H' := (c0 :: bk0 zq zn zl za zd zb zc zk zh zi zf zg zj zm ze zo zp po)) rfl ?_
    by_cases hc70 : v6 < (0 : Int32)
    · simp only [if_pos hc70] at h
      refine OEnds.ifT hm_33 rfl (q := 119) rfl ((tlt hc70).1) ?_
      show OEnds own_P 33 119 [qr 1, qu, qi v2, qi v3, qu, qi v5, qi v6, qu] [] (c0 :: bk0 zq zn zl za zd zb zc zk zh zi zf zg zj zm ze zo zp po) _
      cases h
      exact OEnds.vret hm_33 rfl rfl
    · simp only [if_neg hc70] at h
      refine OEnds.ifF hm_33 rfl ((flt hc70).1) ?_
      refine OEnds.adv hm_33 2 (pc' := 62) (L' := [qr 1, qu, qi v2, qi v3, qu, qi v5, qi v6, qu]) (S' := [.int v5, .int v6]) (H' := (c0 :: bk0 zq zn zl za zd zb zc zk zh zi zf zg zj zm ze zo zp po)) rfl ?_
      by_cases hc71 : v6 < v5
      · simp only [if_pos hc71] at h
        refine OEnds.icmpF hm_33 rfl ((tlt hc71).2.1) ?_
        refine OEnds.adv hm_33 5 (pc' := 73) (L' := [qr 1, qu, qi v2, qi v3, qu, qi v5, qi v6, qu]) (S' := [.int v6, .int v3, .ref 1, .ref 9]) (H' := (c0 :: bk0 zq zn zl za zd zb zc zk zh zi zf zg zj zm ze zo zp po)) rfl ?_
        obtain ⟨r67, hq72, h⟩ := bnd h
        refine OEnds.call0 hm_33 rfl rfl (by decide) rfl (as := [.ref 1, .int v3, .int v6]) (rest := [.ref 9]) rfl rfl (ok_countIndex_0 hq72) ?_
        refine OEnds.adv hm_33 1 (pc' := 77) (L' := [qr 1, qu, qi v2, qi v3, qu, qi v5, qi v6, qu]) (S' := [.int r67, .ref 9, .int r67, .ref 9]) (H' := (c0 :: bk0 zq zn zl za zd zb zc zk zh zi zf zg zj zm ze zo zp po)) rfl ?_
        obtain ⟨x68, hx68, h⟩ := bnd h
        refine OEnds.plain hm_33 rfl rfl (x_iaload rfl hx68) ?_
        refine OEnds.adv hm_33 2 (pc' := 80) (L' := [qr 1, qu, qi v2, qi v3, qu, qi v5, qi v6, qu]) (S' := [.int (x68 + v2), .int r67, .ref 9]) (H' := (c0 :: bk0 zq zn zl za zd zb zc zk zh zi zf zg zj zm ze zo zp po)) rfl ?_
        obtain ⟨A69, hA69, h⟩ := bnd h
        refine OEnds.plain hm_33 rfl rfl (x_iastore rfl (Nat.le_of_ble_eq_true rfl) hA69) ?_
        refine OEnds.adv hm_33 2 (pc' := 84) (L' := [qr 1, qu, qi v2, qi v3, qu, qi v5, qi v6, qi 0]) (S' := []) (H' := (c0 :: bk0 zq zn zl za zd zb zc A69 zh zi zf zg zj zm ze zo zp po)) rfl ?_
        exact ok_adjustCoverage_84_0 (k53 := f_adjustCoverage_53 zd zb zc n) ih 100000 h
      · simp only [if_neg hc71] at h
        refine OEnds.icmpT hm_33 rfl (q := 119) rfl ((flt hc71).2.1) ?_
        show OEnds own_P 33 119 [qr 1, qu, qi v2, qi v3, qu, qi v5, qi v6, qu] [] (c0 :: bk0 zq zn zl za zd zb zc zk zh zi zf zg zj zm ze zo zp po) _
        cases h
        exact OEnds.vret hm_33 rfl rfl
theorem ok_adjustCoverage_0 {zq zn zl za zd zb zc zi zf zg : List Int32} {zj zm ze zo zp : Int32} {c0 : ACell} {po : List ACell} {zk zh : List Int32} {v1 v2 : Int32} {w_o_exactCount w_o_atLeastCount : List Int32} (h : f_adjustCoverage zd zb zc zk zh v1 v2 = some (w_o_exactCount, w_o_atLeastCount)) : OEnds own_P 33 0 [qr 1, qi v1, qi v2, qu, qu, qu, qu, qu] [] (c0 :: bk0 zq zn zl za zd zb zc zk zh zi zf zg zj zm ze zo zp po) (none, (c0 :: bk0 zq zn zl za zd zb zc w_o_exactCount w_o_atLeastCount zi zf zg zj zm ze zo zp po), 0, 0) := by
  unfold f_adjustCoverage at h
  refine OEnds.adv hm_33 1 (pc' := 1) (L' := [qr 1, qi v1, qi v2, qu, qu, qu, qu, qu]) (S' := [.int v1]) (H' := (c0 :: bk0 zq zn zl za zd zb zc zk zh zi zf zg zj zm ze zo zp po)) rfl ?_
  by_cases hc73 : v1 < (0 : Int32)
  · simp only [if_pos hc73] at h
    refine OEnds.ifT hm_33 rfl (q := 10) rfl ((tlt hc73).1) ?_
    show OEnds own_P 33 10 [qr 1, qi v1, qi v2, qu, qu, qu, qu, qu] [] (c0 :: bk0 zq zn zl za zd zb zc zk zh zi zf zg zj zm ze zo zp po) _
    cases h
    exact OEnds.vret hm_33 rfl rfl
  · simp only [if_neg hc73] at h
    refine OEnds.ifF hm_33 rfl ((flt hc73).1) ?_
    refine OEnds.adv hm_33 2 (pc' := 7) (L' := [qr 1, qi v1, qi v2, qu, qu, qu, qu, qu]) (S' := [.int 32, .int v1]) (H' := (c0 :: bk0 zq zn zl za zd zb zc zk zh zi zf zg zj zm ze zo zp po)) rfl ?_
    by_cases hc74 : v1 < (32 : Int32)
    · simp only [if_pos hc74] at h
      refine OEnds.icmpT hm_33 rfl (q := 11) rfl ((tlt hc74).1) ?_
      refine OEnds.adv hm_33 3 (pc' := 16) (L' := [qr 1, qi v1, qi v2, qu, qu, qu, qu, qu]) (S' := [.int v1, .ref 6]) (H' := (c0 :: bk0 zq zn zl za zd zb zc zk zh zi zf zg zj zm ze zo zp po)) rfl ?_
      obtain ⟨x62, hx62, h⟩ := bnd h
      refine OEnds.plain hm_33 rfl rfl (x_iaload rfl hx62) ?_
      refine OEnds.adv hm_33 3 (pc' := 20) (L' := [qr 1, qi v1, qi v2, qi x62, qu, qu, qu, qu]) (S' := [.int x62, .ref 1]) (H' := (c0 :: bk0 zq zn zl za zd zb zc zk zh zi zf zg zj zm ze zo zp po)) rfl ?_
      obtain ⟨r63, hq75, h⟩ := bnd h
      refine OEnds.call0 hm_33 rfl rfl (by decide) rfl (as := [.ref 1, .int x62]) (rest := []) rfl rfl (ok_isValidType_0 hq75) ?_
      show OEnds own_P 33 23 [qr 1, qi v1, qi v2, qi x62, qu, qu, qu, qu] [.int r63] (c0 :: bk0 zq zn zl za zd zb zc zk zh zi zf zg zj zm ze zo zp po) _
      by_cases hc76 : r63 = (0 : Int32)
      · simp only [if_pos hc76] at h
        refine OEnds.ifF hm_33 rfl ((teq hc76).2) ?_
        show OEnds own_P 33 26 [qr 1, qi v1, qi v2, qi x62, qu, qu, qu, qu] [] (c0 :: bk0 zq zn zl za zd zb zc zk zh zi zf zg zj zm ze zo zp po) _
        cases h
        exact OEnds.vret hm_33 rfl rfl
      · simp only [if_neg hc76] at h
        refine OEnds.ifT hm_33 rfl (q := 27) rfl ((feq hc76).2) ?_
        refine OEnds.adv hm_33 3 (pc' := 32) (L' := [qr 1, qi v1, qi v2, qi x62, qu, qu, qu, qu]) (S' := [.int v1, .ref 7]) (H' := (c0 :: bk0 zq zn zl za zd zb zc zk zh zi zf zg zj zm ze zo zp po)) rfl ?_
        obtain ⟨x64, hx64, h⟩ := bnd h
        refine OEnds.plain hm_33 rfl rfl (x_iaload rfl hx64) ?_
        refine OEnds.adv hm_33 6 (pc' := 43) (L' := [qr 1, qi v1, qi v2, qi x62, qi x64, qu, qu, qu]) (S' := [.int v1, .ref 8, .int x64, .ref 1]) (H' := (c0 :: bk0 zq zn zl za zd zb zc zk zh zi zf zg zj zm ze zo zp po)) rfl ?_
        obtain ⟨x65, hx65, h⟩ := bnd h
        refine OEnds.plain hm_33 rfl rfl (x_iaload rfl hx65) ?_
        show OEnds own_P 33 44 [qr 1, qi v1, qi v2, qi x62, qi x64, qu, qu, qu] [.int x65, .int x64, .ref 1] (c0 :: bk0 zq zn zl za zd zb zc zk zh zi zf zg zj zm ze zo zp po) _
        obtain ⟨r66, hq77, h⟩ := bnd h
        refine OEnds.call0 hm_33 rfl rfl (by decide) rfl (as := [.ref 1, .int x64, .int x65]) (rest := []) rfl rfl (ok_endOf_0 hq77) ?_
        refine OEnds.adv hm_33 3 (pc' := 53) (L' := [qr 1, qi v1, qi v2, qi x62, qi x64, qi r66, qi x64, qu]) (S' := []) (H' := (c0 :: bk0 zq zn zl za zd zb zc zk zh zi zf zg zj zm ze zo zp po)) rfl ?_
        exact ok_adjustCoverage_53_0 100000 h
    · simp only [if_neg hc74] at h
      refine OEnds.icmpF hm_33 rfl ((flt hc74).1) ?_
      show OEnds own_P 33 10 [qr 1, qi v1, qi v2, qu, qu, qu, qu, qu] [] (c0 :: bk0 zq zn zl za zd zb zc zk zh zi zf zg zj zm ze zo zp po) _
      cases h
      exact OEnds.vret hm_33 rfl rfl
theorem ok_activateStay_0 {zq zn zl zi zf zg : List Int32} {zj ze zo zp : Int32} {c0 : ACell} {po : List ACell} {za zd zb zc zk zh : List Int32} {zm v1 v2 v3 v4 : Int32} {w_o_slotActive w_o_slotType w_o_slotArrive w_o_slotNights w_o_exactCount w_o_atLeastCount : List Int32} {w_o_activeStays : Int32} (h : f_activateStay za zd zb zc zk zh zm v1 v2 v3 v4 = some (w_o_slotActive, w_o_slotType, w_o_slotArrive, w_o_slotNights, w_o_exactCount, w_o_atLeastCount, w_o_activeStays)) : OEnds own_P 31 0 [qr 1, qi v1, qi v2, qi v3, qi v4] [] (c0 :: bk0 zq zn zl za zd zb zc zk zh zi zf zg zj zm ze zo zp po) (none, (c0 :: bk0 zq zn zl w_o_slotActive w_o_slotType w_o_slotArrive w_o_slotNights w_o_exactCount w_o_atLeastCount zi zf zg zj w_o_activeStays ze zo zp po), 0, 0) := by
  unfold f_activateStay at h
  refine OEnds.adv hm_31 5 (pc' := 6) (L' := [qr 1, qi v1, qi v2, qi v3, qi v4]) (S' := [.int v4, .int v3, .int v2, .int v1, .ref 1]) (H' := (c0 :: bk0 zq zn zl za zd zb zc zk zh zi zf zg zj zm ze zo zp po)) rfl ?_
  obtain ⟨⟨s73, s74, s75⟩, hq78, h⟩ := bnd h
  refine OEnds.call0 hm_31 rfl rfl (by decide) rfl (as := [.ref 1, .int v1, .int v2, .int v3, .int v4]) (rest := []) rfl rfl (ok_storeStay_0 hq78) ?_
  refine OEnds.adv hm_31 4 (pc' := 15) (L' := [qr 1, qi v1, qi v2, qi v3, qi v4]) (S' := [.int 1, .int v1, .ref 5]) (H' := (c0 :: bk0 zq zn zl za s73 s74 s75 zk zh zi zf zg zj zm ze zo zp po)) rfl ?_
  obtain ⟨A76, hA76, h⟩ := bnd h
  refine OEnds.plain hm_31 rfl rfl (x_bastore rfl (Nat.le_of_ble_eq_true rfl) hA76) ?_
  refine OEnds.adv hm_31 9 (pc' := 29) (L' := [qr 1, qi v1, qi v2, qi v3, qi v4]) (S' := [.int 1, .int v1, .ref 1]) (H' := (c0 :: bk0 zq zn zl A76 s73 s74 s75 zk zh zi zf zg zj (zm + (1 : Int32)) ze zo zp po)) rfl ?_
  obtain ⟨⟨s77, s78⟩, hq79, h⟩ := bnd h
  refine OEnds.call0 hm_31 rfl rfl (by decide) rfl (as := [.ref 1, .int v1, .int 1]) (rest := []) rfl rfl (ok_adjustCoverage_0 hq79) ?_
  show OEnds own_P 31 32 [qr 1, qi v1, qi v2, qi v3, qi v4] [] (c0 :: bk0 zq zn zl A76 s73 s74 s75 s77 s78 zi zf zg zj (zm + (1 : Int32)) ze zo zp po) _
  cases h
  exact OEnds.vret hm_31 rfl rfl
theorem ok_discardPlan_0 {zq zn zl za zd zb zc zk zh zi zf zg : List Int32} {zj zm ze zp : Int32} {c0 : ACell} {po : List ACell} {zo w_o_planCurrent : Int32} (h : f_discardPlan zo = some w_o_planCurrent) : OEnds own_P 9 0 [qr 1] [] (c0 :: bk0 zq zn zl za zd zb zc zk zh zi zf zg zj zm ze zo zp po) (none, (c0 :: bk0 zq zn zl za zd zb zc zk zh zi zf zg zj zm ze w_o_planCurrent zp po), 0, 0) := by
  unfold f_discardPlan at h
  refine OEnds.adv hm_9 3 (pc' := 5) (L' := [qr 1]) (S' := []) (H' := (c0 :: bk0 zq zn zl za zd zb zc zk zh zi zf zg zj zm ze 0 zp po)) rfl ?_
  cases h
  exact OEnds.vret hm_9 rfl rfl
theorem ok_book_0 {zq zn zl zi zf zg : List Int32} {zj ze zp : Int32} {c0 : ACell} {po : List ACell} {za zd zb zc zk zh : List Int32} {zm zo v1 v2 v3 res : Int32} {w_o_slotActive w_o_slotType w_o_slotArrive w_o_slotNights w_o_exactCount w_o_atLeastCount : List Int32} {w_o_activeStays w_o_planCurrent : Int32} (h : f_book zn za zd zb zc zk zh zm zo v1 v2 v3 = some (res, w_o_slotActive, w_o_slotType, w_o_slotArrive, w_o_slotNights, w_o_exactCount, w_o_atLeastCount, w_o_activeStays, w_o_planCurrent)) : OEnds own_P 11 0 [qr 1, qi v1, qi v2, qi v3, qu, qu] [] (c0 :: bk0 zq zn zl za zd zb zc zk zh zi zf zg zj zm ze zo zp po) (some (.int res), (c0 :: bk0 zq zn zl w_o_slotActive w_o_slotType w_o_slotArrive w_o_slotNights w_o_exactCount w_o_atLeastCount zi zf zg zj w_o_activeStays ze w_o_planCurrent zp po), 0, 0) := by
  unfold f_book at h
  refine OEnds.adv hm_11 4 (pc' := 4) (L' := [qr 1, qi v1, qi v2, qi v3, qu, qu]) (S' := [.int v3, .int v2, .int v1, .ref 1]) (H' := (c0 :: bk0 zq zn zl za zd zb zc zk zh zi zf zg zj zm ze zo zp po)) rfl ?_
  obtain ⟨r79, hq80, h⟩ := bnd h
  refine OEnds.call0 hm_11 rfl rfl (by decide) rfl (as := [.ref 1, .int v1, .int v2, .int v3]) (rest := []) rfl rfl (ok_requestError_0 hq80) ?_
  refine OEnds.adv hm_11 2 (pc' := 11) (L' := [qr 1, qi v1, qi v2, qi v3, qi r79, qu]) (S' := [.int r79]) (H' := (c0 :: bk0 zq zn zl za zd zb zc zk zh zi zf zg zj zm ze zo zp po)) rfl ?_
  by_cases hc81 : r79 = (0 : Int32)
  · simp only [if_pos hc81] at h
    refine OEnds.ifT hm_11 rfl (q := 17) rfl ((teq hc81).1) ?_
    refine OEnds.adv hm_11 3 (pc' := 23) (L' := [qr 1, qi v1, qi v2, qi v3, qi r79, qu]) (S' := [.int 32, .int zm]) (H' := (c0 :: bk0 zq zn zl za zd zb zc zk zh zi zf zg zj zm ze zo zp po)) rfl ?_
    by_cases hc82 : zm < (32 : Int32)
    · simp only [if_pos hc82] at h
      refine OEnds.icmpT hm_11 rfl (q := 29) rfl ((tlt hc82).1) ?_
      refine OEnds.adv hm_11 5 (pc' := 34) (L' := [qr 1, qi v1, qi v2, qi v3, qi r79, qu]) (S' := [.int v3, .int v2, .int v1, .int (-1), .ref 1]) (H' := (c0 :: bk0 zq zn zl za zd zb zc zk zh zi zf zg zj zm ze zo zp po)) rfl ?_
      obtain ⟨r80, hq83, h⟩ := bnd h
      refine OEnds.call0 hm_11 rfl rfl (by decide) rfl (as := [.ref 1, .int (-1), .int v1, .int v2, .int v3]) (rest := []) rfl rfl (ok_fitsWith_0 hq83) ?_
      show OEnds own_P 11 37 [qr 1, qi v1, qi v2, qi v3, qi r79, qu] [.int r80] (c0 :: bk0 zq zn zl za zd zb zc zk zh zi zf zg zj zm ze zo zp po) _
      by_cases hc84 : r80 = (0 : Int32)
      · simp only [if_pos hc84] at h
        refine OEnds.ifF hm_11 rfl ((teq hc84).2) ?_
        refine OEnds.adv hm_11 1 (pc' := 42) (L' := [qr 1, qi v1, qi v2, qi v3, qi r79, qu]) (S' := [.int (-4)]) (H' := (c0 :: bk0 zq zn zl za zd zb zc zk zh zi zf zg zj zm ze zo zp po)) rfl ?_
        cases h
        exact OEnds.iret hm_11 rfl rfl
      · simp only [if_neg hc84] at h
        refine OEnds.ifT hm_11 rfl (q := 43) rfl ((feq hc84).2) ?_
        refine OEnds.adv hm_11 1 (pc' := 44) (L' := [qr 1, qi v1, qi v2, qi v3, qi r79, qu]) (S' := [.ref 1]) (H' := (c0 :: bk0 zq zn zl za zd zb zc zk zh zi zf zg zj zm ze zo zp po)) rfl ?_
        obtain ⟨r81, hq85, h⟩ := bnd h
        refine OEnds.call0 hm_11 rfl rfl (by decide) rfl (as := [.ref 1]) (rest := []) rfl rfl (ok_lowestInactiveSlot_0 hq85) ?_
        refine OEnds.adv hm_11 2 (pc' := 51) (L' := [qr 1, qi v1, qi v2, qi v3, qi r79, qi r81]) (S' := [.int r81]) (H' := (c0 :: bk0 zq zn zl za zd zb zc zk zh zi zf zg zj zm ze zo zp po)) rfl ?_
        by_cases hc86 : r81 < (0 : Int32)
        · simp only [if_pos hc86] at h
          refine OEnds.ifF hm_11 rfl ((tlt hc86).2.1) ?_
          refine OEnds.adv hm_11 1 (pc' := 56) (L' := [qr 1, qi v1, qi v2, qi v3, qi r79, qi r81]) (S' := [.int (-3)]) (H' := (c0 :: bk0 zq zn zl za zd zb zc zk zh zi zf zg zj zm ze zo zp po)) rfl ?_
          cases h
          exact OEnds.iret hm_11 rfl rfl
        · simp only [if_neg hc86] at h
          refine OEnds.ifT hm_11 rfl (q := 57) rfl ((flt hc86).2.1) ?_
          refine OEnds.adv hm_11 5 (pc' := 63) (L' := [qr 1, qi v1, qi v2, qi v3, qi r79, qi r81]) (S' := [.int v3, .int v2, .int v1, .int r81, .ref 1]) (H' := (c0 :: bk0 zq zn zl za zd zb zc zk zh zi zf zg zj zm ze zo zp po)) rfl ?_
          obtain ⟨⟨s82, s83, s84, s85, s86, s87, s88⟩, hq87, h⟩ := bnd h
          refine OEnds.call0 hm_11 rfl rfl (by decide) rfl (as := [.ref 1, .int r81, .int v1, .int v2, .int v3]) (rest := []) rfl rfl (ok_activateStay_0 hq87) ?_
          refine OEnds.adv hm_11 1 (pc' := 67) (L' := [qr 1, qi v1, qi v2, qi v3, qi r79, qi r81]) (S' := [.ref 1]) (H' := (c0 :: bk0 zq zn zl s82 s83 s84 s85 s86 s87 zi zf zg zj s88 ze zo zp po)) rfl ?_
          obtain ⟨s89, hq88, h⟩ := bnd h
          refine OEnds.call0 hm_11 rfl rfl (by decide) rfl (as := [.ref 1]) (rest := []) rfl rfl (ok_discardPlan_0 hq88) ?_
          refine OEnds.adv hm_11 1 (pc' := 72) (L' := [qr 1, qi v1, qi v2, qi v3, qi r79, qi r81]) (S' := [.int r81]) (H' := (c0 :: bk0 zq zn zl s82 s83 s84 s85 s86 s87 zi zf zg zj s88 ze s89 zp po)) rfl ?_
          cases h
          exact OEnds.iret hm_11 rfl rfl
    · simp only [if_neg hc82] at h
      refine OEnds.icmpF hm_11 rfl ((flt hc82).1) ?_
      refine OEnds.adv hm_11 1 (pc' := 28) (L' := [qr 1, qi v1, qi v2, qi v3, qi r79, qu]) (S' := [.int (-3)]) (H' := (c0 :: bk0 zq zn zl za zd zb zc zk zh zi zf zg zj zm ze zo zp po)) rfl ?_
      cases h
      exact OEnds.iret hm_11 rfl rfl
  · simp only [if_neg hc81] at h
    refine OEnds.ifF hm_11 rfl ((feq hc81).1) ?_
    refine OEnds.adv hm_11 1 (pc' := 16) (L' := [qr 1, qi v1, qi v2, qi v3, qi r79, qu]) (S' := [.int r79]) (H' := (c0 :: bk0 zq zn zl za zd zb zc zk zh zi zf zg zj zm ze zo zp po)) rfl ?_
    cases h
    exact OEnds.iret hm_11 rfl rfl
theorem ok_amend_0 {zq zn zl za zi zf zg : List Int32} {zj zm ze zp : Int32} {c0 : ACell} {po : List ACell} {zd zb zc zk zh : List Int32} {zo v1 v2 v3 v4 res : Int32} {w_o_slotType w_o_slotArrive w_o_slotNights w_o_exactCount w_o_atLeastCount : List Int32} {w_o_planCurrent : Int32} (h : f_amend zn za zd zb zc zk zh zo v1 v2 v3 v4 = some (res, w_o_slotType, w_o_slotArrive, w_o_slotNights, w_o_exactCount, w_o_atLeastCount, w_o_planCurrent)) : OEnds own_P 36 0 [qr 1, qi v1, qi v2, qi v3, qi v4, qu] [] (c0 :: bk0 zq zn zl za zd zb zc zk zh zi zf zg zj zm ze zo zp po) (some (.int res), (c0 :: bk0 zq zn zl za w_o_slotType w_o_slotArrive w_o_slotNights w_o_exactCount w_o_atLeastCount zi zf zg zj zm ze w_o_planCurrent zp po), 0, 0) := by
  unfold f_amend at h
  refine OEnds.adv hm_36 2 (pc' := 2) (L' := [qr 1, qi v1, qi v2, qi v3, qi v4, qu]) (S' := [.int v1, .ref 1]) (H' := (c0 :: bk0 zq zn zl za zd zb zc zk zh zi zf zg zj zm ze zo zp po)) rfl ?_
  obtain ⟨r90, hq89, h⟩ := bnd h
  refine OEnds.call0 hm_36 rfl rfl (by decide) rfl (as := [.ref 1, .int v1]) (rest := []) rfl rfl (ok_isActiveStay_0 hq89) ?_
  show OEnds own_P 36 5 [qr 1, qi v1, qi v2, qi v3, qi v4, qu] [.int r90] (c0 :: bk0 zq zn zl za zd zb zc zk zh zi zf zg zj zm ze zo zp po) _
  by_cases hc90 : r90 = (0 : Int32)
  · simp only [if_pos hc90] at h
    refine OEnds.ifF hm_36 rfl ((teq hc90).2) ?_
    refine OEnds.adv hm_36 1 (pc' := 10) (L' := [qr 1, qi v1, qi v2, qi v3, qi v4, qu]) (S' := [.int (-5)]) (H' := (c0 :: bk0 zq zn zl za zd zb zc zk zh zi zf zg zj zm ze zo zp po)) rfl ?_
    cases h
    exact OEnds.iret hm_36 rfl rfl
  · simp only [if_neg hc90] at h
    refine OEnds.ifT hm_36 rfl (q := 11) rfl ((feq hc90).2) ?_
    refine OEnds.adv hm_36 4 (pc' := 16) (L' := [qr 1, qi v1, qi v2, qi v3, qi v4, qu]) (S' := [.int v4, .int v3, .int v2, .ref 1]) (H' := (c0 :: bk0 zq zn zl za zd zb zc zk zh zi zf zg zj zm ze zo zp po)) rfl ?_
    obtain ⟨r91, hq91, h⟩ := bnd h
    refine OEnds.call0 hm_36 rfl rfl (by decide) rfl (as := [.ref 1, .int v2, .int v3, .int v4]) (rest := []) rfl rfl (ok_requestError_0 hq91) ?_
    refine OEnds.adv hm_36 2 (pc' := 23) (L' := [qr 1, qi v1, qi v2, qi v3, qi v4, qi r91]) (S' := [.int r91]) (H' := (c0 :: bk0 zq zn zl za zd zb zc zk zh zi zf zg zj zm ze zo zp po)) rfl ?_
    by_cases hc92 : r91 = (0 : Int32)
    · simp only [if_pos hc92] at h
      refine OEnds.ifT hm_36 rfl (q := 29) rfl ((teq hc92).1) ?_
      refine OEnds.adv hm_36 5 (pc' := 35) (L' := [qr 1, qi v1, qi v2, qi v3, qi v4, qi r91]) (S' := [.int v4, .int v3, .int v2, .int v1, .ref 1]) (H' := (c0 :: bk0 zq zn zl za zd zb zc zk zh zi zf zg zj zm ze zo zp po)) rfl ?_
      obtain ⟨r92, hq93, h⟩ := bnd h
      refine OEnds.call0 hm_36 rfl rfl (by decide) rfl (as := [.ref 1, .int v1, .int v2, .int v3, .int v4]) (rest := []) rfl rfl (ok_fitsWith_0 hq93) ?_
      show OEnds own_P 36 38 [qr 1, qi v1, qi v2, qi v3, qi v4, qi r91] [.int r92] (c0 :: bk0 zq zn zl za zd zb zc zk zh zi zf zg zj zm ze zo zp po) _
      by_cases hc94 : r92 = (0 : Int32)
      · simp only [if_pos hc94] at h
        refine OEnds.ifF hm_36 rfl ((teq hc94).2) ?_
        refine OEnds.adv hm_36 1 (pc' := 43) (L' := [qr 1, qi v1, qi v2, qi v3, qi v4, qi r91]) (S' := [.int (-4)]) (H' := (c0 :: bk0 zq zn zl za zd zb zc zk zh zi zf zg zj zm ze zo zp po)) rfl ?_
        cases h
        exact OEnds.iret hm_36 rfl rfl
      · simp only [if_neg hc94] at h
        refine OEnds.ifT hm_36 rfl (q := 44) rfl ((feq hc94).2) ?_
        refine OEnds.adv hm_36 3 (pc' := 47) (L' := [qr 1, qi v1, qi v2, qi v3, qi v4, qi r91]) (S' := [.int (-1), .int v1, .ref 1]) (H' := (c0 :: bk0 zq zn zl za zd zb zc zk zh zi zf zg zj zm ze zo zp po)) rfl ?_
        obtain ⟨⟨s93, s94⟩, hq95, h⟩ := bnd h
        refine OEnds.call0 hm_36 rfl rfl (by decide) rfl (as := [.ref 1, .int v1, .int (-1)]) (rest := []) rfl rfl (ok_adjustCoverage_0 hq95) ?_
        refine OEnds.adv hm_36 5 (pc' := 56) (L' := [qr 1, qi v1, qi v2, qi v3, qi v4, qi r91]) (S' := [.int v4, .int v3, .int v2, .int v1, .ref 1]) (H' := (c0 :: bk0 zq zn zl za zd zb zc s93 s94 zi zf zg zj zm ze zo zp po)) rfl ?_
        obtain ⟨⟨s95, s96, s97⟩, hq96, h⟩ := bnd h
        refine OEnds.call0 hm_36 rfl rfl (by decide) rfl (as := [.ref 1, .int v1, .int v2, .int v3, .int v4]) (rest := []) rfl rfl (ok_storeStay_0 hq96) ?_
        refine OEnds.adv hm_36 3 (pc' := 62) (L' := [qr 1, qi v1, qi v2, qi v3, qi v4, qi r91]) (S' := [.int 1, .int v1, .ref 1]) (H' := (c0 :: bk0 zq zn zl za s95 s96 s97 s93 s94 zi zf zg zj zm ze zo zp po)) rfl ?_
        obtain ⟨⟨s98, s99⟩, hq97, h⟩ := bnd h
        refine OEnds.call0 hm_36 rfl rfl (by decide) rfl (as := [.ref 1, .int v1, .int 1]) (rest := []) rfl rfl (ok_adjustCoverage_0 hq97) ?_
        refine OEnds.adv hm_36 1 (pc' := 66) (L' := [qr 1, qi v1, qi v2, qi v3, qi v4, qi r91]) (S' := [.ref 1]) (H' := (c0 :: bk0 zq zn zl za s95 s96 s97 s98 s99 zi zf zg zj zm ze zo zp po)) rfl ?_
        obtain ⟨s100, hq98, h⟩ := bnd h
        refine OEnds.call0 hm_36 rfl rfl (by decide) rfl (as := [.ref 1]) (rest := []) rfl rfl (ok_discardPlan_0 hq98) ?_
        refine OEnds.adv hm_36 1 (pc' := 70) (L' := [qr 1, qi v1, qi v2, qi v3, qi v4, qi r91]) (S' := [.int 0]) (H' := (c0 :: bk0 zq zn zl za s95 s96 s97 s98 s99 zi zf zg zj zm ze s100 zp po)) rfl ?_
        cases h
        exact OEnds.iret hm_36 rfl rfl
    · simp only [if_neg hc92] at h
      refine OEnds.ifF hm_36 rfl ((feq hc92).1) ?_
      refine OEnds.adv hm_36 1 (pc' := 28) (L' := [qr 1, qi v1, qi v2, qi v3, qi v4, qi r91]) (S' := [.int r91]) (H' := (c0 :: bk0 zq zn zl za zd zb zc zk zh zi zf zg zj zm ze zo zp po)) rfl ?_
      cases h
      exact OEnds.iret hm_36 rfl rfl
theorem ok_deactivateStay_0 {zq zn zl zi zf zg : List Int32} {zj ze zo zp : Int32} {c0 : ACell} {po : List ACell} {za zd zb zc zk zh : List Int32} {zm v1 : Int32} {w_o_slotActive w_o_slotType w_o_slotArrive w_o_slotNights w_o_exactCount w_o_atLeastCount : List Int32} {w_o_activeStays : Int32} (h : f_deactivateStay za zd zb zc zk zh zm v1 = some (w_o_slotActive, w_o_slotType, w_o_slotArrive, w_o_slotNights, w_o_exactCount, w_o_atLeastCount, w_o_activeStays)) : OEnds own_P 35 0 [qr 1, qi v1] [] (c0 :: bk0 zq zn zl za zd zb zc zk zh zi zf zg zj zm ze zo zp po) (none, (c0 :: bk0 zq zn zl w_o_slotActive w_o_slotType w_o_slotArrive w_o_slotNights w_o_exactCount w_o_atLeastCount zi zf zg zj w_o_activeStays ze zo zp po), 0, 0) := by
  unfold f_deactivateStay at h
  refine OEnds.adv hm_35 3 (pc' := 3) (L' := [qr 1, qi v1]) (S' := [.int (-1), .int v1, .ref 1]) (H' := (c0 :: bk0 zq zn zl za zd zb zc zk zh zi zf zg zj zm ze zo zp po)) rfl ?_
  obtain ⟨⟨s101, s102⟩, hq99, h⟩ := bnd h
  refine OEnds.call0 hm_35 rfl rfl (by decide) rfl (as := [.ref 1, .int v1, .int (-1)]) (rest := []) rfl rfl (ok_adjustCoverage_0 hq99) ?_
  refine OEnds.adv hm_35 4 (pc' := 12) (L' := [qr 1, qi v1]) (S' := [.int 0, .int v1, .ref 5]) (H' := (c0 :: bk0 zq zn zl za zd zb zc s101 s102 zi zf zg zj zm ze zo zp po)) rfl ?_
  obtain ⟨A103, hA103, h⟩ := bnd h
  refine OEnds.plain hm_35 rfl rfl (x_bastore rfl (Nat.le_of_ble_eq_true rfl) hA103) ?_
  refine OEnds.adv hm_35 5 (pc' := 18) (L' := [qr 1, qi v1]) (S' := [.int 0, .int 0, .int 0, .int v1, .ref 1]) (H' := (c0 :: bk0 zq zn zl A103 zd zb zc s101 s102 zi zf zg zj zm ze zo zp po)) rfl ?_
  obtain ⟨⟨s104, s105, s106⟩, hq100, h⟩ := bnd h
  refine OEnds.call0 hm_35 rfl rfl (by decide) rfl (as := [.ref 1, .int v1, .int 0, .int 0, .int 0]) (rest := []) rfl rfl (ok_storeStay_0 hq100) ?_
  refine OEnds.adv hm_35 6 (pc' := 31) (L' := [qr 1, qi v1]) (S' := []) (H' := (c0 :: bk0 zq zn zl A103 s104 s105 s106 s101 s102 zi zf zg zj (zm - (1 : Int32)) ze zo zp po)) rfl ?_
  cases h
  exact OEnds.vret hm_35 rfl rfl
theorem ok_cancel_0 {zq zn zl zi zf zg : List Int32} {zj ze zp : Int32} {c0 : ACell} {po : List ACell} {za zd zb zc zk zh : List Int32} {zm zo v1 res : Int32} {w_o_slotActive w_o_slotType w_o_slotArrive w_o_slotNights w_o_exactCount w_o_atLeastCount : List Int32} {w_o_activeStays w_o_planCurrent : Int32} (h : f_cancel za zd zb zc zk zh zm zo v1 = some (res, w_o_slotActive, w_o_slotType, w_o_slotArrive, w_o_slotNights, w_o_exactCount, w_o_atLeastCount, w_o_activeStays, w_o_planCurrent)) : OEnds own_P 34 0 [qr 1, qi v1] [] (c0 :: bk0 zq zn zl za zd zb zc zk zh zi zf zg zj zm ze zo zp po) (some (.int res), (c0 :: bk0 zq zn zl w_o_slotActive w_o_slotType w_o_slotArrive w_o_slotNights w_o_exactCount w_o_atLeastCount zi zf zg zj w_o_activeStays ze w_o_planCurrent zp po), 0, 0) := by
  unfold f_cancel at h
  refine OEnds.adv hm_34 2 (pc' := 2) (L' := [qr 1, qi v1]) (S' := [.int v1, .ref 1]) (H' := (c0 :: bk0 zq zn zl za zd zb zc zk zh zi zf zg zj zm ze zo zp po)) rfl ?_
  obtain ⟨r107, hq101, h⟩ := bnd h
  refine OEnds.call0 hm_34 rfl rfl (by decide) rfl (as := [.ref 1, .int v1]) (rest := []) rfl rfl (ok_isActiveStay_0 hq101) ?_
  show OEnds own_P 34 5 [qr 1, qi v1] [.int r107] (c0 :: bk0 zq zn zl za zd zb zc zk zh zi zf zg zj zm ze zo zp po) _
  by_cases hc102 : r107 = (0 : Int32)
  · simp only [if_pos hc102] at h
    refine OEnds.ifF hm_34 rfl ((teq hc102).2) ?_
    refine OEnds.adv hm_34 1 (pc' := 10) (L' := [qr 1, qi v1]) (S' := [.int (-5)]) (H' := (c0 :: bk0 zq zn zl za zd zb zc zk zh zi zf zg zj zm ze zo zp po)) rfl ?_
    cases h
    exact OEnds.iret hm_34 rfl rfl
  · simp only [if_neg hc102] at h
    refine OEnds.ifT hm_34 rfl (q := 11) rfl ((feq hc102).2) ?_
    refine OEnds.adv hm_34 2 (pc' := 13) (L' := [qr 1, qi v1]) (S' := [.int v1, .ref 1]) (H' := (c0 :: bk0 zq zn zl za zd zb zc zk zh zi zf zg zj zm ze zo zp po)) rfl ?_
    obtain ⟨⟨s108, s109, s110, s111, s112, s113, s114⟩, hq103, h⟩ := bnd h
    refine OEnds.call0 hm_34 rfl rfl (by decide) rfl (as := [.ref 1, .int v1]) (rest := []) rfl rfl (ok_deactivateStay_0 hq103) ?_
    refine OEnds.adv hm_34 1 (pc' := 17) (L' := [qr 1, qi v1]) (S' := [.ref 1]) (H' := (c0 :: bk0 zq zn zl s108 s109 s110 s111 s112 s113 zi zf zg zj s114 ze zo zp po)) rfl ?_
    obtain ⟨s115, hq104, h⟩ := bnd h
    refine OEnds.call0 hm_34 rfl rfl (by decide) rfl (as := [.ref 1]) (rest := []) rfl rfl (ok_discardPlan_0 hq104) ?_
    refine OEnds.adv hm_34 1 (pc' := 21) (L' := [qr 1, qi v1]) (S' := [.int 0]) (H' := (c0 :: bk0 zq zn zl s108 s109 s110 s111 s112 s113 zi zf zg zj s114 ze s115 zp po)) rfl ?_
    cases h
    exact OEnds.iret hm_34 rfl rfl
theorem ok_appendToOrder_0 {zq zn zl za zd zb zc zk zh zi zf : List Int32} {zj zm zo zp : Int32} {c0 : ACell} {po : List ACell} {zg : List Int32} {ze v1 : Int32} {w_o_planOrder : List Int32} {w_o_planOrderLength : Int32} (h : f_appendToOrder zg ze v1 = some (w_o_planOrder, w_o_planOrderLength)) : OEnds own_P 37 0 [qr 1, qi v1] [] (c0 :: bk0 zq zn zl za zd zb zc zk zh zi zf zg zj zm ze zo zp po) (none, (c0 :: bk0 zq zn zl za zd zb zc zk zh zi zf w_o_planOrder zj zm w_o_planOrderLength zo zp po), 0, 0) := by
  unfold f_appendToOrder at h
  refine OEnds.adv hm_37 2 (pc' := 4) (L' := [qr 1, qi v1]) (S' := [.int ze]) (H' := (c0 :: bk0 zq zn zl za zd zb zc zk zh zi zf zg zj zm ze zo zp po)) rfl ?_
  by_cases hc105 : ze < (0 : Int32)
  · simp only [if_pos hc105] at h
    refine OEnds.ifT hm_37 rfl (q := 16) rfl ((tlt hc105).1) ?_
    show OEnds own_P 37 16 [qr 1, qi v1] [] (c0 :: bk0 zq zn zl za zd zb zc zk zh zi zf zg zj zm ze zo zp po) _
    cases h
    exact OEnds.vret hm_37 rfl rfl
  · simp only [if_neg hc105] at h
    refine OEnds.ifF hm_37 rfl ((flt hc105).1) ?_
    refine OEnds.adv hm_37 3 (pc' := 13) (L' := [qr 1, qi v1]) (S' := [.int 32, .int ze]) (H' := (c0 :: bk0 zq zn zl za zd zb zc zk zh zi zf zg zj zm ze zo zp po)) rfl ?_
    by_cases hc106 : ze < (32 : Int32)
    · simp only [if_pos hc106] at h
      refine OEnds.icmpT hm_37 rfl (q := 17) rfl ((tlt hc106).1) ?_
      refine OEnds.adv hm_37 5 (pc' := 26) (L' := [qr 1, qi v1]) (S' := [.int v1, .int ze, .ref 13]) (H' := (c0 :: bk0 zq zn zl za zd zb zc zk zh zi zf zg zj zm ze zo zp po)) rfl ?_
      obtain ⟨A116, hA116, h⟩ := bnd h
      refine OEnds.plain hm_37 rfl rfl (x_iastore rfl (Nat.le_of_ble_eq_true rfl) hA116) ?_
      refine OEnds.adv hm_37 6 (pc' := 37) (L' := [qr 1, qi v1]) (S' := []) (H' := (c0 :: bk0 zq zn zl za zd zb zc zk zh zi zf A116 zj zm (ze + (1 : Int32)) zo zp po)) rfl ?_
      cases h
      exact OEnds.vret hm_37 rfl rfl
    · simp only [if_neg hc106] at h
      refine OEnds.icmpF hm_37 rfl ((flt hc106).1) ?_
      show OEnds own_P 37 16 [qr 1, qi v1] [] (c0 :: bk0 zq zn zl za zd zb zc zk zh zi zf zg zj zm ze zo zp po) _
      cases h
      exact OEnds.vret hm_37 rfl rfl
theorem ok_buildOrder_15_0 {zq zn zl za zd zb zc zk zh zi zf : List Int32} {zj zm zo zp : Int32} {c0 : ACell} {po : List ACell} {k7 : List Int32 → Int32 → Int32 → Option (List Int32 × Int32)} (hk7 : ∀ {zg : List Int32} {ze v1 : Int32} {d2 : Slot} {w_o_planOrder : List Int32} {w_o_planOrderLength : Int32}, k7 zg ze v1 = some (w_o_planOrder, w_o_planOrderLength) → OEnds own_P 10 7 [qr 1, qi v1, d2] [] (c0 :: bk0 zq zn zl za zd zb zc zk zh zi zf zg zj zm ze zo zp po) (none, (c0 :: bk0 zq zn zl za zd zb zc zk zh zi zf w_o_planOrder zj zm w_o_planOrderLength zo zp po), 0, 0)) : ∀ (n : Nat), ∀ {zg : List Int32} {ze v1 v2 : Int32} {w_o_planOrder : List Int32} {w_o_planOrderLength : Int32}, f_buildOrder_15 k7 za zb n zg ze v1 v2 = some (w_o_planOrder, w_o_planOrderLength) → OEnds own_P 10 15 [qr 1, qi v1, qi v2] [] (c0 :: bk0 zq zn zl za zd zb zc zk zh zi zf zg zj zm ze zo zp po) (none, (c0 :: bk0 zq zn zl za zd zb zc zk zh zi zf w_o_planOrder zj zm w_o_planOrderLength zo zp po), 0, 0) := by
  intro n
  induction n with
  | zero => intro zg ze v1 v2 w_o_planOrder w_o_planOrderLength h; cases h
  | succ n ih =>
    intro zg ze v1 v2 w_o_planOrder w_o_planOrderLength h
    unfold f_buildOrder_15 at h
    refine OEnds.adv hm_10 2 (pc' := 18) (L' := [qr 1, qi v1, qi v2]) (S' := [.int 32, .int v2]) (H' := (c0 :: bk0 zq zn zl za zd zb zc zk zh zi zf zg zj zm ze zo zp po)) rfl ?_
    by_cases hc107 : v2 < (32 : Int32)
    · simp only [if_pos hc107] at h
      refine OEnds.icmpF hm_10 rfl ((tlt hc107).2.1) ?_
      refine OEnds.adv hm_10 3 (pc' := 26) (L' := [qr 1, qi v1, qi v2]) (S' := [.int v2, .ref 5]) (H' := (c0 :: bk0 zq zn zl za zd zb zc zk zh zi zf zg zj zm ze zo zp po)) rfl ?_
      obtain ⟨x117, hx117, h⟩ := bnd h
      refine OEnds.plain hm_10 rfl rfl (x_baload rfl hx117) ?_
      show OEnds own_P 10 27 [qr 1, qi v1, qi v2] [.int x117] (c0 :: bk0 zq zn zl za zd zb zc zk zh zi zf zg zj zm ze zo zp po) _
      by_cases hc108 : x117 = (0 : Int32)
      · simp only [if_pos hc108] at h
        refine OEnds.ifT hm_10 rfl (q := 45) rfl ((teq hc108).1) ?_
        refine OEnds.adv hm_10 2 (pc' := 15) (L' := [qr 1, qi v1, qi (v2 + (1 : Int32))]) (S' := []) (H' := (c0 :: bk0 zq zn zl za zd zb zc zk zh zi zf zg zj zm ze zo zp po)) rfl ?_
        exact ih h
      · simp only [if_neg hc108] at h
        refine OEnds.ifF hm_10 rfl ((feq hc108).1) ?_
        refine OEnds.adv hm_10 3 (pc' := 35) (L' := [qr 1, qi v1, qi v2]) (S' := [.int v2, .ref 7]) (H' := (c0 :: bk0 zq zn zl za zd zb zc zk zh zi zf zg zj zm ze zo zp po)) rfl ?_
        obtain ⟨x118, hx118, h⟩ := bnd h
        refine OEnds.plain hm_10 rfl rfl (x_iaload rfl hx118) ?_
        refine OEnds.adv hm_10 1 (pc' := 37) (L' := [qr 1, qi v1, qi v2]) (S' := [.int v1, .int x118]) (H' := (c0 :: bk0 zq zn zl za zd zb zc zk zh zi zf zg zj zm ze zo zp po)) rfl ?_
        by_cases hc109 : x118 = v1
        · simp only [if_pos hc109] at h
          refine OEnds.icmpF hm_10 rfl ((teq hc109).2) ?_
          refine OEnds.adv hm_10 2 (pc' := 42) (L' := [qr 1, qi v1, qi v2]) (S' := [.int v2, .ref 1]) (H' := (c0 :: bk0 zq zn zl za zd zb zc zk zh zi zf zg zj zm ze zo zp po)) rfl ?_
          obtain ⟨⟨s119, s120⟩, hq110, h⟩ := bnd h
          refine OEnds.call0 hm_10 rfl rfl (by decide) rfl (as := [.ref 1, .int v2]) (rest := []) rfl rfl (ok_appendToOrder_0 hq110) ?_
          refine OEnds.adv hm_10 2 (pc' := 15) (L' := [qr 1, qi v1, qi (v2 + (1 : Int32))]) (S' := []) (H' := (c0 :: bk0 zq zn zl za zd zb zc zk zh zi zf s119 zj zm s120 zo zp po)) rfl ?_
          exact ih h
        · simp only [if_neg hc109] at h
          refine OEnds.icmpT hm_10 rfl (q := 45) rfl ((feq hc109).2) ?_
          refine OEnds.adv hm_10 2 (pc' := 15) (L' := [qr 1, qi v1, qi (v2 + (1 : Int32))]) (S' := []) (H' := (c0 :: bk0 zq zn zl za zd zb zc zk zh zi zf zg zj zm ze zo zp po)) rfl ?_
          exact ih h
    · simp only [if_neg hc107] at h
      refine OEnds.icmpT hm_10 rfl (q := 51) rfl ((flt hc107).2.1) ?_
      refine OEnds.adv hm_10 2 (pc' := 7) (L' := [qr 1, qi (v1 + (1 : Int32)), qi v2]) (S' := []) (H' := (c0 :: bk0 zq zn zl za zd zb zc zk zh zi zf zg zj zm ze zo zp po)) rfl ?_
      exact hk7 h
theorem ok_buildOrder_7_0 {zq zn zl za zd zb zc zk zh zi zf : List Int32} {zj zm zo zp : Int32} {c0 : ACell} {po : List ACell} : ∀ (n : Nat), ∀ {zg : List Int32} {ze v1 : Int32} {d2 : Slot} {w_o_planOrder : List Int32} {w_o_planOrderLength : Int32}, f_buildOrder_7 za zb n zg ze v1 = some (w_o_planOrder, w_o_planOrderLength) → OEnds own_P 10 7 [qr 1, qi v1, d2] [] (c0 :: bk0 zq zn zl za zd zb zc zk zh zi zf zg zj zm ze zo zp po) (none, (c0 :: bk0 zq zn zl za zd zb zc zk zh zi zf w_o_planOrder zj zm w_o_planOrderLength zo zp po), 0, 0) := by
  intro n
  induction n with
  | zero => intro zg ze v1 d2 w_o_planOrder w_o_planOrderLength h; cases h
  | succ n ih =>
    intro zg ze v1 d2 w_o_planOrder w_o_planOrderLength h
    unfold f_buildOrder_7 at h
    refine OEnds.adv hm_10 2 (pc' := 10) (L' := [qr 1, qi v1, qu]) (S' := [.int 32, .int v1]) (H' := (c0 :: bk0 zq zn zl za zd zb zc zk zh zi zf zg zj zm ze zo zp po)) rfl ?_
    by_cases hc111 : v1 < (32 : Int32)
    · simp only [if_pos hc111] at h
      refine OEnds.icmpF hm_10 rfl ((tlt hc111).2.1) ?_
      refine OEnds.adv hm_10 2 (pc' := 15) (L' := [qr 1, qi v1, qi 0]) (S' := []) (H' := (c0 :: bk0 zq zn zl za zd zb zc zk zh zi zf zg zj zm ze zo zp po)) rfl ?_
      exact ok_buildOrder_15_0 (k7 := f_buildOrder_7 za zb n) ih 100000 h
    · simp only [if_neg hc111] at h
      refine OEnds.icmpT hm_10 rfl (q := 57) rfl ((flt hc111).2.1) ?_
      show OEnds own_P 10 57 [qr 1, qi v1, qu] [] (c0 :: bk0 zq zn zl za zd zb zc zk zh zi zf zg zj zm ze zo zp po) _
      cases h
      exact OEnds.vret hm_10 rfl rfl
theorem ok_buildOrder_0 {zq zn zl za zd zb zc zk zh zi zf : List Int32} {zj zm zo zp : Int32} {c0 : ACell} {po : List ACell} {zg : List Int32} {ze : Int32} {w_o_planOrder : List Int32} {w_o_planOrderLength : Int32} (h : f_buildOrder za zb zg ze = some (w_o_planOrder, w_o_planOrderLength)) : OEnds own_P 10 0 [qr 1, qu, qu] [] (c0 :: bk0 zq zn zl za zd zb zc zk zh zi zf zg zj zm ze zo zp po) (none, (c0 :: bk0 zq zn zl za zd zb zc zk zh zi zf w_o_planOrder zj zm w_o_planOrderLength zo zp po), 0, 0) := by
  unfold f_buildOrder at h
  refine OEnds.adv hm_10 5 (pc' := 7) (L' := [qr 1, qi 0, qu]) (S' := []) (H' := (c0 :: bk0 zq zn zl za zd zb zc zk zh zi zf zg zj zm 0 zo zp po)) rfl ?_
  exact ok_buildOrder_7_0 100000 h
theorem ok_gridIndex_0 {zq zn zl za zd zb zc zk zh zi zf zg : List Int32} {zj zm ze zo zp : Int32} {c0 : ACell} {po : List ACell} {v1 v2 res : Int32} (h : f_gridIndex v1 v2 = some res) : OEnds own_P 41 0 [qr 1, qi v1, qi v2] [] (c0 :: bk0 zq zn zl za zd zb zc zk zh zi zf zg zj zm ze zo zp po) (some (.int res), (c0 :: bk0 zq zn zl za zd zb zc zk zh zi zf zg zj zm ze zo zp po), 0, 0) := by
  unfold f_gridIndex at h
  refine OEnds.adv hm_41 5 (pc' := 6) (L' := [qr 1, qi v1, qi v2]) (S' := [.int ((v1 * (32 : Int32)) + v2)]) (H' := (c0 :: bk0 zq zn zl za zd zb zc zk zh zi zf zg zj zm ze zo zp po)) rfl ?_
  cases h
  exact OEnds.iret hm_41 rfl rfl
theorem ok_gridAt_0 {zq zn zl za zd zb zc zk zh zi zf zg : List Int32} {zj zm ze zo zp : Int32} {c0 : ACell} {po : List ACell} {v1 v2 res : Int32} (h : f_gridAt zf v1 v2 = some res) : OEnds own_P 40 0 [qr 1, qi v1, qi v2] [] (c0 :: bk0 zq zn zl za zd zb zc zk zh zi zf zg zj zm ze zo zp po) (some (.int res), (c0 :: bk0 zq zn zl za zd zb zc zk zh zi zf zg zj zm ze zo zp po), 0, 0) := by
  unfold f_gridAt at h
  refine OEnds.adv hm_40 1 (pc' := 1) (L' := [qr 1, qi v1, qi v2]) (S' := [.int v1]) (H' := (c0 :: bk0 zq zn zl za zd zb zc zk zh zi zf zg zj zm ze zo zp po)) rfl ?_
  by_cases hc112 : v1 < (0 : Int32)
  · simp only [if_pos hc112] at h
    refine OEnds.ifT hm_40 rfl (q := 18) rfl ((tlt hc112).1) ?_
    refine OEnds.adv hm_40 1 (pc' := 19) (L' := [qr 1, qi v1, qi v2]) (S' := [.int (-1)]) (H' := (c0 :: bk0 zq zn zl za zd zb zc zk zh zi zf zg zj zm ze zo zp po)) rfl ?_
    cases h
    exact OEnds.iret hm_40 rfl rfl
  · simp only [if_neg hc112] at h
    refine OEnds.ifF hm_40 rfl ((flt hc112).1) ?_
    refine OEnds.adv hm_40 2 (pc' := 7) (L' := [qr 1, qi v1, qi v2]) (S' := [.int 24, .int v1]) (H' := (c0 :: bk0 zq zn zl za zd zb zc zk zh zi zf zg zj zm ze zo zp po)) rfl ?_
    by_cases hc113 : v1 < (24 : Int32)
    · simp only [if_pos hc113] at h
      refine OEnds.icmpF hm_40 rfl ((tlt hc113).2.1) ?_
      refine OEnds.adv hm_40 2 (pc' := 12) (L' := [qr 1, qi v1, qi v2]) (S' := [.int v2, .ref 1]) (H' := (c0 :: bk0 zq zn zl za zd zb zc zk zh zi zf zg zj zm ze zo zp po)) rfl ?_
      obtain ⟨r121, hq114, h⟩ := bnd h
      refine OEnds.call0 hm_40 rfl rfl (by decide) rfl (as := [.ref 1, .int v2]) (rest := []) rfl rfl (ok_isValidNight_0 hq114) ?_
      show OEnds own_P 40 15 [qr 1, qi v1, qi v2] [.int r121] (c0 :: bk0 zq zn zl za zd zb zc zk zh zi zf zg zj zm ze zo zp po) _
      by_cases hc115 : r121 = (0 : Int32)
      · simp only [if_pos hc115] at h
        refine OEnds.ifF hm_40 rfl ((teq hc115).2) ?_
        refine OEnds.adv hm_40 1 (pc' := 19) (L' := [qr 1, qi v1, qi v2]) (S' := [.int (-1)]) (H' := (c0 :: bk0 zq zn zl za zd zb zc zk zh zi zf zg zj zm ze zo zp po)) rfl ?_
        cases h
        exact OEnds.iret hm_40 rfl rfl
      · simp only [if_neg hc115] at h
        refine OEnds.ifT hm_40 rfl (q := 20) rfl ((feq hc115).2) ?_
        refine OEnds.adv hm_40 5 (pc' := 27) (L' := [qr 1, qi v1, qi v2]) (S' := [.int v2, .int v1, .ref 1, .ref 12]) (H' := (c0 :: bk0 zq zn zl za zd zb zc zk zh zi zf zg zj zm ze zo zp po)) rfl ?_
        obtain ⟨r122, hq116, h⟩ := bnd h
        refine OEnds.call0 hm_40 rfl rfl (by decide) rfl (as := [.ref 1, .int v1, .int v2]) (rest := [.ref 12]) rfl rfl (ok_gridIndex_0 hq116) ?_
        show OEnds own_P 40 30 [qr 1, qi v1, qi v2] [.int r122, .ref 12] (c0 :: bk0 zq zn zl za zd zb zc zk zh zi zf zg zj zm ze zo zp po) _
        obtain ⟨x123, hx123, h⟩ := bnd h
        refine OEnds.plain hm_40 rfl rfl (x_iaload rfl hx123) ?_
        show OEnds own_P 40 31 [qr 1, qi v1, qi v2] [.int x123] (c0 :: bk0 zq zn zl za zd zb zc zk zh zi zf zg zj zm ze zo zp po) _
        cases h
        exact OEnds.iret hm_40 rfl rfl
    · simp only [if_neg hc113] at h
      refine OEnds.icmpT hm_40 rfl (q := 18) rfl ((flt hc113).2.1) ?_
      refine OEnds.adv hm_40 1 (pc' := 19) (L' := [qr 1, qi v1, qi v2]) (S' := [.int (-1)]) (H' := (c0 :: bk0 zq zn zl za zd zb zc zk zh zi zf zg zj zm ze zo zp po)) rfl ?_
      cases h
      exact OEnds.iret hm_40 rfl rfl
theorem ok_roomIsFree_11_0 {zq zn zl za zd zb zc zk zh zi zf zg : List Int32} {zj zm ze zo zp : Int32} {c0 : ACell} {po : List ACell} : ∀ (n : Nat), ∀ {v1 v4 v5 : Int32} {d2 d3 : Slot} {res : Int32}, f_roomIsFree_11 zf n v1 v4 v5 = some res → OEnds own_P 39 11 [qr 1, qi v1, d2, d3, qi v4, qi v5] [] (c0 :: bk0 zq zn zl za zd zb zc zk zh zi zf zg zj zm ze zo zp po) (some (.int res), (c0 :: bk0 zq zn zl za zd zb zc zk zh zi zf zg zj zm ze zo zp po), 0, 0) := by
  intro n
  induction n with
  | zero => intro v1 v4 v5 d2 d3 res h; cases h
  | succ n ih =>
    intro v1 v4 v5 d2 d3 res h
    unfold f_roomIsFree_11 at h
    refine OEnds.adv hm_39 1 (pc' := 13) (L' := [qr 1, qi v1, qu, qu, qi v4, qi v5]) (S' := [.int v5]) (H' := (c0 :: bk0 zq zn zl za zd zb zc zk zh zi zf zg zj zm ze zo zp po)) rfl ?_
    by_cases hc117 : v5 < (0 : Int32)
    · simp only [if_pos hc117] at h
      refine OEnds.ifT hm_39 rfl (q := 42) rfl ((tlt hc117).1) ?_
      refine OEnds.adv hm_39 1 (pc' := 43) (L' := [qr 1, qi v1, qu, qu, qi v4, qi v5]) (S' := [.int 1]) (H' := (c0 :: bk0 zq zn zl za zd zb zc zk zh zi zf zg zj zm ze zo zp po)) rfl ?_
      cases h
      exact OEnds.iret hm_39 rfl rfl
    · simp only [if_neg hc117] at h
      refine OEnds.ifF hm_39 rfl ((flt hc117).1) ?_
      refine OEnds.adv hm_39 2 (pc' := 20) (L' := [qr 1, qi v1, qu, qu, qi v4, qi v5]) (S' := [.int v4, .int v5]) (H' := (c0 :: bk0 zq zn zl za zd zb zc zk zh zi zf zg zj zm ze zo zp po)) rfl ?_
      by_cases hc118 : v5 < v4
      · simp only [if_pos hc118] at h
        refine OEnds.icmpF hm_39 rfl ((tlt hc118).2.1) ?_
        refine OEnds.adv hm_39 3 (pc' := 27) (L' := [qr 1, qi v1, qu, qu, qi v4, qi v5]) (S' := [.int v5, .int v1, .ref 1]) (H' := (c0 :: bk0 zq zn zl za zd zb zc zk zh zi zf zg zj zm ze zo zp po)) rfl ?_
        obtain ⟨r125, hq119, h⟩ := bnd h
        refine OEnds.call0 hm_39 rfl rfl (by decide) rfl (as := [.ref 1, .int v1, .int v5]) (rest := []) rfl rfl (ok_gridAt_0 hq119) ?_
        refine OEnds.adv hm_39 1 (pc' := 31) (L' := [qr 1, qi v1, qu, qu, qi v4, qi v5]) (S' := [.int (-1), .int r125]) (H' := (c0 :: bk0 zq zn zl za zd zb zc zk zh zi zf zg zj zm ze zo zp po)) rfl ?_
        by_cases hc120 : r125 = (-1 : Int32)
        · simp only [if_pos hc120] at h
          refine OEnds.icmpT hm_39 rfl (q := 36) rfl ((teq hc120).1) ?_
          refine OEnds.adv hm_39 2 (pc' := 11) (L' := [qr 1, qi v1, qu, qu, qi v4, qi (v5 + (1 : Int32))]) (S' := []) (H' := (c0 :: bk0 zq zn zl za zd zb zc zk zh zi zf zg zj zm ze zo zp po)) rfl ?_
          exact ih h
        · simp only [if_neg hc120] at h
          refine OEnds.icmpF hm_39 rfl ((feq hc120).1) ?_
          refine OEnds.adv hm_39 1 (pc' := 35) (L' := [qr 1, qi v1, qu, qu, qi v4, qi v5]) (S' := [.int 0]) (H' := (c0 :: bk0 zq zn zl za zd zb zc zk zh zi zf zg zj zm ze zo zp po)) rfl ?_
          cases h
          exact OEnds.iret hm_39 rfl rfl
      · simp only [if_neg hc118] at h
        refine OEnds.icmpT hm_39 rfl (q := 42) rfl ((flt hc118).2.1) ?_
        refine OEnds.adv hm_39 1 (pc' := 43) (L' := [qr 1, qi v1, qu, qu, qi v4, qi v5]) (S' := [.int 1]) (H' := (c0 :: bk0 zq zn zl za zd zb zc zk zh zi zf zg zj zm ze zo zp po)) rfl ?_
        cases h
        exact OEnds.iret hm_39 rfl rfl
theorem ok_roomIsFree_0 {zq zn zl za zd zb zc zk zh zi zf zg : List Int32} {zj zm ze zo zp : Int32} {c0 : ACell} {po : List ACell} {v1 v2 v3 res : Int32} (h : f_roomIsFree zf v1 v2 v3 = some res) : OEnds own_P 39 0 [qr 1, qi v1, qi v2, qi v3, qu, qu] [] (c0 :: bk0 zq zn zl za zd zb zc zk zh zi zf zg zj zm ze zo zp po) (some (.int res), (c0 :: bk0 zq zn zl za zd zb zc zk zh zi zf zg zj zm ze zo zp po), 0, 0) := by
  unfold f_roomIsFree at h
  refine OEnds.adv hm_39 3 (pc' := 3) (L' := [qr 1, qi v1, qi v2, qi v3, qu, qu]) (S' := [.int v3, .int v2, .ref 1]) (H' := (c0 :: bk0 zq zn zl za zd zb zc zk zh zi zf zg zj zm ze zo zp po)) rfl ?_
  obtain ⟨r124, hq121, h⟩ := bnd h
  refine OEnds.call0 hm_39 rfl rfl (by decide) rfl (as := [.ref 1, .int v2, .int v3]) (rest := []) rfl rfl (ok_endOf_0 hq121) ?_
  refine OEnds.adv hm_39 3 (pc' := 11) (L' := [qr 1, qi v1, qi v2, qi v3, qi r124, qi v2]) (S' := []) (H' := (c0 :: bk0 zq zn zl za zd zb zc zk zh zi zf zg zj zm ze zo zp po)) rfl ?_
  exact ok_roomIsFree_11_0 100000 h
theorem ok_markRoom_23_0 {zq zn zl za zd zb zc zk zh zi zg : List Int32} {zj zm ze zo zp : Int32} {c0 : ACell} {po : List ACell} : ∀ (n : Nat), ∀ {zf : List Int32} {v1 v2 v5 v6 : Int32} {d3 d4 : Slot} {w_o_planGrid : List Int32}, f_markRoom_23 n zf v1 v2 v5 v6 = some w_o_planGrid → OEnds own_P 42 23 [qr 1, qi v1, qi v2, d3, d4, qi v5, qi v6] [] (c0 :: bk0 zq zn zl za zd zb zc zk zh zi zf zg zj zm ze zo zp po) (none, (c0 :: bk0 zq zn zl za zd zb zc zk zh zi w_o_planGrid zg zj zm ze zo zp po), 0, 0) := by
  intro n
  induction n with
  | zero => intro zf v1 v2 v5 v6 d3 d4 w_o_planGrid h; cases h
  | succ n ih =>
    intro zf v1 v2 v5 v6 d3 d4 w_o_planGrid h
    unfold f_markRoom_23 at h
    refine OEnds.adv hm_42 1 (pc' := 25) (L' := [qr 1, qi v1, qi v2, qu, qu, qi v5, qi v6]) (S' := [.int v6]) (H' := (c0 :: bk0 zq zn zl za zd zb zc zk zh zi zf zg zj zm ze zo zp po)) rfl ?_
    by_cases hc122 : v6 < (0 : Int32)
    · simp only [if_pos hc122] at h
      refine OEnds.ifT hm_42 rfl (q := 54) rfl ((tlt hc122).1) ?_
      show OEnds own_P 42 54 [qr 1, qi v1, qi v2, qu, qu, qi v5, qi v6] [] (c0 :: bk0 zq zn zl za zd zb zc zk zh zi zf zg zj zm ze zo zp po) _
      cases h
      exact OEnds.vret hm_42 rfl rfl
    · simp only [if_neg hc122] at h
      refine OEnds.ifF hm_42 rfl ((flt hc122).1) ?_
      refine OEnds.adv hm_42 2 (pc' := 32) (L' := [qr 1, qi v1, qi v2, qu, qu, qi v5, qi v6]) (S' := [.int v5, .int v6]) (H' := (c0 :: bk0 zq zn zl za zd zb zc zk zh zi zf zg zj zm ze zo zp po)) rfl ?_
      by_cases hc123 : v6 < v5
      · simp only [if_pos hc123] at h
        refine OEnds.icmpF hm_42 rfl ((tlt hc123).2.1) ?_
        refine OEnds.adv hm_42 5 (pc' := 43) (L' := [qr 1, qi v1, qi v2, qu, qu, qi v5, qi v6]) (S' := [.int v6, .int v1, .ref 1, .ref 12]) (H' := (c0 :: bk0 zq zn zl za zd zb zc zk zh zi zf zg zj zm ze zo zp po)) rfl ?_
        obtain ⟨r127, hq124, h⟩ := bnd h
        refine OEnds.call0 hm_42 rfl rfl (by decide) rfl (as := [.ref 1, .int v1, .int v6]) (rest := [.ref 12]) rfl rfl (ok_gridIndex_0 hq124) ?_
        refine OEnds.adv hm_42 1 (pc' := 47) (L' := [qr 1, qi v1, qi v2, qu, qu, qi v5, qi v6]) (S' := [.int v2, .int r127, .ref 12]) (H' := (c0 :: bk0 zq zn zl za zd zb zc zk zh zi zf zg zj zm ze zo zp po)) rfl ?_
        obtain ⟨A128, hA128, h⟩ := bnd h
        refine OEnds.plain hm_42 rfl rfl (x_iastore rfl (Nat.le_of_ble_eq_true rfl) hA128) ?_
        refine OEnds.adv hm_42 2 (pc' := 23) (L' := [qr 1, qi v1, qi v2, qu, qu, qi v5, qi (v6 + (1 : Int32))]) (S' := []) (H' := (c0 :: bk0 zq zn zl za zd zb zc zk zh zi A128 zg zj zm ze zo zp po)) rfl ?_
        exact ih h
      · simp only [if_neg hc123] at h
        refine OEnds.icmpT hm_42 rfl (q := 54) rfl ((flt hc123).2.1) ?_
        show OEnds own_P 42 54 [qr 1, qi v1, qi v2, qu, qu, qi v5, qi v6] [] (c0 :: bk0 zq zn zl za zd zb zc zk zh zi zf zg zj zm ze zo zp po) _
        cases h
        exact OEnds.vret hm_42 rfl rfl
theorem ok_markRoom_0 {zq zn zl za zd zb zc zk zh zi zg : List Int32} {zj zm ze zo zp : Int32} {c0 : ACell} {po : List ACell} {zf : List Int32} {v1 v2 v3 v4 : Int32} {w_o_planGrid : List Int32} (h : f_markRoom zf v1 v2 v3 v4 = some w_o_planGrid) : OEnds own_P 42 0 [qr 1, qi v1, qi v2, qi v3, qi v4, qu, qu] [] (c0 :: bk0 zq zn zl za zd zb zc zk zh zi zf zg zj zm ze zo zp po) (none, (c0 :: bk0 zq zn zl za zd zb zc zk zh zi w_o_planGrid zg zj zm ze zo zp po), 0, 0) := by
  unfold f_markRoom at h
  refine OEnds.adv hm_42 1 (pc' := 1) (L' := [qr 1, qi v1, qi v2, qi v3, qi v4, qu, qu]) (S' := [.int v1]) (H' := (c0 :: bk0 zq zn zl za zd zb zc zk zh zi zf zg zj zm ze zo zp po)) rfl ?_
  by_cases hc125 : v1 < (0 : Int32)
  · simp only [if_pos hc125] at h
    refine OEnds.ifT hm_42 rfl (q := 10) rfl ((tlt hc125).1) ?_
    show OEnds own_P 42 10 [qr 1, qi v1, qi v2, qi v3, qi v4, qu, qu] [] (c0 :: bk0 zq zn zl za zd zb zc zk zh zi zf zg zj zm ze zo zp po) _
    cases h
    exact OEnds.vret hm_42 rfl rfl
  · simp only [if_neg hc125] at h
    refine OEnds.ifF hm_42 rfl ((flt hc125).1) ?_
    refine OEnds.adv hm_42 2 (pc' := 7) (L' := [qr 1, qi v1, qi v2, qi v3, qi v4, qu, qu]) (S' := [.int 24, .int v1]) (H' := (c0 :: bk0 zq zn zl za zd zb zc zk zh zi zf zg zj zm ze zo zp po)) rfl ?_
    by_cases hc126 : v1 < (24 : Int32)
    · simp only [if_pos hc126] at h
      refine OEnds.icmpT hm_42 rfl (q := 11) rfl ((tlt hc126).1) ?_
      refine OEnds.adv hm_42 3 (pc' := 15) (L' := [qr 1, qi v1, qi v2, qi v3, qi v4, qu, qu]) (S' := [.int v4, .int v3, .ref 1]) (H' := (c0 :: bk0 zq zn zl za zd zb zc zk zh zi zf zg zj zm ze zo zp po)) rfl ?_
      obtain ⟨r126, hq127, h⟩ := bnd h
      refine OEnds.call0 hm_42 rfl rfl (by decide) rfl (as := [.ref 1, .int v3, .int v4]) (rest := []) rfl rfl (ok_endOf_0 hq127) ?_
      refine OEnds.adv hm_42 3 (pc' := 23) (L' := [qr 1, qi v1, qi v2, qi v3, qi v4, qi r126, qi v3]) (S' := []) (H' := (c0 :: bk0 zq zn zl za zd zb zc zk zh zi zf zg zj zm ze zo zp po)) rfl ?_
      exact ok_markRoom_23_0 100000 h
    · simp only [if_neg hc126] at h
      refine OEnds.icmpF hm_42 rfl ((flt hc126).1) ?_
      show OEnds own_P 42 10 [qr 1, qi v1, qi v2, qi v3, qi v4, qu, qu] [] (c0 :: bk0 zq zn zl za zd zb zc zk zh zi zf zg zj zm ze zo zp po) _
      cases h
      exact OEnds.vret hm_42 rfl rfl
theorem ok_placeStay_78_0 {zq zn zl za zd zb zc zk zh zg : List Int32} {zj zm ze zo zp : Int32} {c0 : ACell} {po : List ACell} : ∀ {zi zf : List Int32} {v1 v3 v4 v5 : Int32} {d2 : Slot} {res : Int32} {w_o_planRoom : List Int32} {w_o_planGrid : List Int32}, f_placeStay_78 zl za zd zb zc zj zi zf v1 v3 v4 v5 = some (res, w_o_planRoom, w_o_planGrid) → OEnds own_P 38 78 [qr 1, qi v1, d2, qi v3, qi v4, qi v5] [] (c0 :: bk0 zq zn zl za zd zb zc zk zh zi zf zg zj zm ze zo zp po) (some (.int res), (c0 :: bk0 zq zn zl za zd zb zc zk zh w_o_planRoom w_o_planGrid zg zj zm ze zo zp po), 0, 0) := by
  intro zi zf v1 v3 v4 v5 d2 res w_o_planRoom w_o_planGrid h
  unfold f_placeStay_78 at h
  refine OEnds.adv hm_38 5 (pc' := 85) (L' := [qr 1, qi v1, qu, qi v3, qi v4, qi v5]) (S' := [.int v4, .int v3, .int v1, .int v5, .ref 1]) (H' := (c0 :: bk0 zq zn zl za zd zb zc zk zh zi zf zg zj zm ze zo zp po)) rfl ?_
  obtain ⟨s136, hq128, h⟩ := bnd h
  refine OEnds.call0 hm_38 rfl rfl (by decide) rfl (as := [.ref 1, .int v5, .int v1, .int v3, .int v4]) (rest := []) rfl rfl (ok_markRoom_0 hq128) ?_
  refine OEnds.adv hm_38 4 (pc' := 95) (L' := [qr 1, qi v1, qu, qi v3, qi v4, qi v5]) (S' := [.int v5, .int v1, .ref 11]) (H' := (c0 :: bk0 zq zn zl za zd zb zc zk zh zi s136 zg zj zm ze zo zp po)) rfl ?_
  obtain ⟨A137, hA137, h⟩ := bnd h
  refine OEnds.plain hm_38 rfl rfl (x_iastore rfl (Nat.le_of_ble_eq_true rfl) hA137) ?_
  refine OEnds.adv hm_38 1 (pc' := 97) (L' := [qr 1, qi v1, qu, qi v3, qi v4, qi v5]) (S' := [.int 1]) (H' := (c0 :: bk0 zq zn zl za zd zb zc zk zh A137 s136 zg zj zm ze zo zp po)) rfl ?_
  cases h
  exact OEnds.iret hm_38 rfl rfl
theorem ok_placeStay_50_0 {zq zn zl za zd zb zc zk zh zg : List Int32} {zj zm ze zo zp : Int32} {c0 : ACell} {po : List ACell} {k78 : List Int32 → List Int32 → Int32 → Int32 → Int32 → Int32 → Option (Int32 × List Int32 × List Int32)} (hk78 : ∀ {zi zf : List Int32} {v1 v3 v4 v5 : Int32} {d2 : Slot} {res : Int32} {w_o_planRoom : List Int32} {w_o_planGrid : List Int32}, k78 zi zf v1 v3 v4 v5 = some (res, w_o_planRoom, w_o_planGrid) → OEnds own_P 38 78 [qr 1, qi v1, d2, qi v3, qi v4, qi v5] [] (c0 :: bk0 zq zn zl za zd zb zc zk zh zi zf zg zj zm ze zo zp po) (some (.int res), (c0 :: bk0 zq zn zl za zd zb zc zk zh w_o_planRoom w_o_planGrid zg zj zm ze zo zp po), 0, 0)) : ∀ (n : Nat), ∀ {zi zf : List Int32} {v1 v3 v4 v5 : Int32} {d2 : Slot} {res : Int32} {w_o_planRoom : List Int32} {w_o_planGrid : List Int32}, f_placeStay_50 k78 zl za zd zb zc zj n zi zf v1 v3 v4 v5 = some (res, w_o_planRoom, w_o_planGrid) → OEnds own_P 38 50 [qr 1, qi v1, d2, qi v3, qi v4, qi v5] [] (c0 :: bk0 zq zn zl za zd zb zc zk zh zi zf zg zj zm ze zo zp po) (some (.int res), (c0 :: bk0 zq zn zl za zd zb zc zk zh w_o_planRoom w_o_planGrid zg zj zm ze zo zp po), 0, 0) := by
  intro n
  induction n with
  | zero => intro zi zf v1 v3 v4 v5 d2 res w_o_planRoom w_o_planGrid h; cases h
  | succ n ih =>
    intro zi zf v1 v3 v4 v5 d2 res w_o_planRoom w_o_planGrid h
    unfold f_placeStay_50 at h
    refine OEnds.adv hm_38 3 (pc' := 56) (L' := [qr 1, qi v1, qu, qi v3, qi v4, qi v5]) (S' := [.int zj, .int v5]) (H' := (c0 :: bk0 zq zn zl za zd zb zc zk zh zi zf zg zj zm ze zo zp po)) rfl ?_
    by_cases hc129 : v5 < zj
    · simp only [if_pos hc129] at h
      refine OEnds.icmpF hm_38 rfl ((tlt hc129).2.1) ?_
      refine OEnds.adv hm_38 2 (pc' := 63) (L' := [qr 1, qi v1, qu, qi v3, qi v4, qi v5]) (S' := [.int 24, .int v5]) (H' := (c0 :: bk0 zq zn zl za zd zb zc zk zh zi zf zg zj zm ze zo zp po)) rfl ?_
      by_cases hc130 : v5 < (24 : Int32)
      · simp only [if_pos hc130] at h
        refine OEnds.icmpF hm_38 rfl ((tlt hc130).2.1) ?_
        refine OEnds.adv hm_38 4 (pc' := 72) (L' := [qr 1, qi v1, qu, qi v3, qi v4, qi v5]) (S' := [.int v4, .int v3, .int v5, .ref 1]) (H' := (c0 :: bk0 zq zn zl za zd zb zc zk zh zi zf zg zj zm ze zo zp po)) rfl ?_
        obtain ⟨r135, hq131, h⟩ := bnd h
        refine OEnds.call0 hm_38 rfl rfl (by decide) rfl (as := [.ref 1, .int v5, .int v3, .int v4]) (rest := []) rfl rfl (ok_roomIsFree_0 hq131) ?_
        show OEnds own_P 38 75 [qr 1, qi v1, qu, qi v3, qi v4, qi v5] [.int r135] (c0 :: bk0 zq zn zl za zd zb zc zk zh zi zf zg zj zm ze zo zp po) _
        by_cases hc132 : r135 = (0 : Int32)
        · simp only [if_pos hc132] at h
          refine OEnds.ifT hm_38 rfl (q := 98) rfl ((teq hc132).1) ?_
          refine OEnds.adv hm_38 2 (pc' := 50) (L' := [qr 1, qi v1, qu, qi v3, qi v4, qi (v5 + (1 : Int32))]) (S' := []) (H' := (c0 :: bk0 zq zn zl za zd zb zc zk zh zi zf zg zj zm ze zo zp po)) rfl ?_
          exact ih h
        · simp only [if_neg hc132] at h
          refine OEnds.ifF hm_38 rfl ((feq hc132).1) ?_
          show OEnds own_P 38 78 [qr 1, qi v1, qu, qi v3, qi v4, qi v5] [] (c0 :: bk0 zq zn zl za zd zb zc zk zh zi zf zg zj zm ze zo zp po) _
          exact hk78 h
      · simp only [if_neg hc130] at h
        refine OEnds.icmpT hm_38 rfl (q := 104) rfl ((flt hc130).2.1) ?_
        refine OEnds.adv hm_38 1 (pc' := 105) (L' := [qr 1, qi v1, qu, qi v3, qi v4, qi v5]) (S' := [.int 0]) (H' := (c0 :: bk0 zq zn zl za zd zb zc zk zh zi zf zg zj zm ze zo zp po)) rfl ?_
        cases h
        exact OEnds.iret hm_38 rfl rfl
    · simp only [if_neg hc129] at h
      refine OEnds.icmpT hm_38 rfl (q := 104) rfl ((flt hc129).2.1) ?_
      refine OEnds.adv hm_38 1 (pc' := 105) (L' := [qr 1, qi v1, qu, qi v3, qi v4, qi v5]) (S' := [.int 0]) (H' := (c0 :: bk0 zq zn zl za zd zb zc zk zh zi zf zg zj zm ze zo zp po)) rfl ?_
      cases h
      exact OEnds.iret hm_38 rfl rfl
theorem ok_placeStay_0 {zq zn zl za zd zb zc zk zh zg : List Int32} {zj zm ze zo zp : Int32} {c0 : ACell} {po : List ACell} {zi zf : List Int32} {v1 res : Int32} {w_o_planRoom w_o_planGrid : List Int32} (h : f_placeStay zl za zd zb zc zj zi zf v1 = some (res, w_o_planRoom, w_o_planGrid)) : OEnds own_P 38 0 [qr 1, qi v1, qu, qu, qu, qu] [] (c0 :: bk0 zq zn zl za zd zb zc zk zh zi zf zg zj zm ze zo zp po) (some (.int res), (c0 :: bk0 zq zn zl za zd zb zc zk zh w_o_planRoom w_o_planGrid zg zj zm ze zo zp po), 0, 0) := by
  unfold f_placeStay at h
  refine OEnds.adv hm_38 2 (pc' := 2) (L' := [qr 1, qi v1, qu, qu, qu, qu]) (S' := [.int v1, .ref 1]) (H' := (c0 :: bk0 zq zn zl za zd zb zc zk zh zi zf zg zj zm ze zo zp po)) rfl ?_
  obtain ⟨r129, hq133, h⟩ := bnd h
  refine OEnds.call0 hm_38 rfl rfl (by decide) rfl (as := [.ref 1, .int v1]) (rest := []) rfl rfl (ok_isActiveStay_0 hq133) ?_
  show OEnds own_P 38 5 [qr 1, qi v1, qu, qu, qu, qu] [.int r129] (c0 :: bk0 zq zn zl za zd zb zc zk zh zi zf zg zj zm ze zo zp po) _
  by_cases hc134 : r129 = (0 : Int32)
  · simp only [if_pos hc134] at h
    refine OEnds.ifF hm_38 rfl ((teq hc134).2) ?_
    refine OEnds.adv hm_38 1 (pc' := 9) (L' := [qr 1, qi v1, qu, qu, qu, qu]) (S' := [.int 0]) (H' := (c0 :: bk0 zq zn zl za zd zb zc zk zh zi zf zg zj zm ze zo zp po)) rfl ?_
    cases h
    exact OEnds.iret hm_38 rfl rfl
  · simp only [if_neg hc134] at h
    refine OEnds.ifT hm_38 rfl (q := 10) rfl ((feq hc134).2) ?_
    refine OEnds.adv hm_38 3 (pc' := 15) (L' := [qr 1, qi v1, qu, qu, qu, qu]) (S' := [.int v1, .ref 6]) (H' := (c0 :: bk0 zq zn zl za zd zb zc zk zh zi zf zg zj zm ze zo zp po)) rfl ?_
    obtain ⟨x130, hx130, h⟩ := bnd h
    refine OEnds.plain hm_38 rfl rfl (x_iaload rfl hx130) ?_
    refine OEnds.adv hm_38 3 (pc' := 19) (L' := [qr 1, qi v1, qi x130, qu, qu, qu]) (S' := [.int x130, .ref 1]) (H' := (c0 :: bk0 zq zn zl za zd zb zc zk zh zi zf zg zj zm ze zo zp po)) rfl ?_
    obtain ⟨r131, hq135, h⟩ := bnd h
    refine OEnds.call0 hm_38 rfl rfl (by decide) rfl (as := [.ref 1, .int x130]) (rest := []) rfl rfl (ok_isValidType_0 hq135) ?_
    show OEnds own_P 38 22 [qr 1, qi v1, qi x130, qu, qu, qu] [.int r131] (c0 :: bk0 zq zn zl za zd zb zc zk zh zi zf zg zj zm ze zo zp po) _
    by_cases hc136 : r131 = (0 : Int32)
    · simp only [if_pos hc136] at h
      refine OEnds.ifF hm_38 rfl ((teq hc136).2) ?_
      refine OEnds.adv hm_38 1 (pc' := 26) (L' := [qr 1, qi v1, qi x130, qu, qu, qu]) (S' := [.int 0]) (H' := (c0 :: bk0 zq zn zl za zd zb zc zk zh zi zf zg zj zm ze zo zp po)) rfl ?_
      cases h
      exact OEnds.iret hm_38 rfl rfl
    · simp only [if_neg hc136] at h
      refine OEnds.ifT hm_38 rfl (q := 27) rfl ((feq hc136).2) ?_
      refine OEnds.adv hm_38 3 (pc' := 32) (L' := [qr 1, qi v1, qi x130, qu, qu, qu]) (S' := [.int v1, .ref 7]) (H' := (c0 :: bk0 zq zn zl za zd zb zc zk zh zi zf zg zj zm ze zo zp po)) rfl ?_
      obtain ⟨x132, hx132, h⟩ := bnd h
      refine OEnds.plain hm_38 rfl rfl (x_iaload rfl hx132) ?_
      refine OEnds.adv hm_38 4 (pc' := 39) (L' := [qr 1, qi v1, qi x130, qi x132, qu, qu]) (S' := [.int v1, .ref 8]) (H' := (c0 :: bk0 zq zn zl za zd zb zc zk zh zi zf zg zj zm ze zo zp po)) rfl ?_
      obtain ⟨x133, hx133, h⟩ := bnd h
      refine OEnds.plain hm_38 rfl rfl (x_iaload rfl hx133) ?_
      refine OEnds.adv hm_38 4 (pc' := 47) (L' := [qr 1, qi v1, qi x130, qi x132, qi x133, qu]) (S' := [.int x130, .ref 4]) (H' := (c0 :: bk0 zq zn zl za zd zb zc zk zh zi zf zg zj zm ze zo zp po)) rfl ?_
      obtain ⟨x134, hx134, h⟩ := bnd h
      refine OEnds.plain hm_38 rfl rfl (x_iaload rfl hx134) ?_
      refine OEnds.adv hm_38 1 (pc' := 50) (L' := [qr 1, qi v1, qi x130, qi x132, qi x133, qi x134]) (S' := []) (H' := (c0 :: bk0 zq zn zl za zd zb zc zk zh zi zf zg zj zm ze zo zp po)) rfl ?_
      exact ok_placeStay_50_0 (k78 := f_placeStay_78 zl za zd zb zc zj) ok_placeStay_78_0 100000 h
theorem ok_assign_58_0 {zq zn zl za zd zb zc zk zh : List Int32} {zj zm : Int32} {c0 : ACell} {po : List ACell} : ∀ {zi zf zg : List Int32} {ze zo zp v1 : Int32} {d2 d3 d4 : Slot} {res : Int32} {w_o_planRoom w_o_planGrid w_o_planOrder : List Int32} {w_o_planOrderLength w_o_planCurrent : Int32} {w_o_planUnplaced : Int32}, f_assign_58 zl za zd zb zc zj zi zf zg ze zo zp v1 = some (res, w_o_planRoom, w_o_planGrid, w_o_planOrder, w_o_planOrderLength, w_o_planCurrent, w_o_planUnplaced) → OEnds own_P 8 58 [qr 1, qi v1, d2, d3, d4] [] (c0 :: bk0 zq zn zl za zd zb zc zk zh zi zf zg zj zm ze zo zp po) (some (.int res), (c0 :: bk0 zq zn zl za zd zb zc zk zh w_o_planRoom w_o_planGrid w_o_planOrder zj zm w_o_planOrderLength w_o_planCurrent w_o_planUnplaced po), 0, 0) := by
  intro zi zf zg ze zo zp v1 d2 d3 d4 res w_o_planRoom w_o_planGrid w_o_planOrder w_o_planOrderLength w_o_planCurrent w_o_planUnplaced h
  unfold f_assign_58 at h
  refine OEnds.adv hm_8 7 (pc' := 69) (L' := [qr 1, qi v1, qu, qu, qu]) (S' := [.int v1]) (H' := (c0 :: bk0 zq zn zl za zd zb zc zk zh zi zf zg zj zm ze 1 v1 po)) rfl ?_
  cases h
  exact OEnds.iret hm_8 rfl rfl
theorem ok_assign_16_0 {zq zn zl za zd zb zc zk zh : List Int32} {zj zm : Int32} {c0 : ACell} {po : List ACell} {k58 : List Int32 → List Int32 → List Int32 → Int32 → Int32 → Int32 → Int32 → Option (Int32 × List Int32 × List Int32 × List Int32 × Int32 × Int32 × Int32)} (hk58 : ∀ {zi zf zg : List Int32} {ze zo zp v1 : Int32} {d2 d3 d4 : Slot} {res : Int32} {w_o_planRoom w_o_planGrid w_o_planOrder : List Int32} {w_o_planOrderLength w_o_planCurrent : Int32} {w_o_planUnplaced : Int32}, k58 zi zf zg ze zo zp v1 = some (res, w_o_planRoom, w_o_planGrid, w_o_planOrder, w_o_planOrderLength, w_o_planCurrent, w_o_planUnplaced) → OEnds own_P 8 58 [qr 1, qi v1, d2, d3, d4] [] (c0 :: bk0 zq zn zl za zd zb zc zk zh zi zf zg zj zm ze zo zp po) (some (.int res), (c0 :: bk0 zq zn zl za zd zb zc zk zh w_o_planRoom w_o_planGrid w_o_planOrder zj zm w_o_planOrderLength w_o_planCurrent w_o_planUnplaced po), 0, 0)) : ∀ (n : Nat), ∀ {zi zf zg : List Int32} {ze zo zp v1 v2 : Int32} {d3 d4 : Slot} {res : Int32} {w_o_planRoom w_o_planGrid w_o_planOrder : List Int32} {w_o_planOrderLength w_o_planCurrent : Int32} {w_o_planUnplaced : Int32}, f_assign_16 k58 zl za zd zb zc zj n zi zf zg ze zo zp v1 v2 = some (res, w_o_planRoom, w_o_planGrid, w_o_planOrder, w_o_planOrderLength, w_o_planCurrent, w_o_planUnplaced) → OEnds own_P 8 16 [qr 1, qi v1, qi v2, d3, d4] [] (c0 :: bk0 zq zn zl za zd zb zc zk zh zi zf zg zj zm ze zo zp po) (some (.int res), (c0 :: bk0 zq zn zl za zd zb zc zk zh w_o_planRoom w_o_planGrid w_o_planOrder zj zm w_o_planOrderLength w_o_planCurrent w_o_planUnplaced po), 0, 0) := by
  intro n
  induction n with
  | zero => intro zi zf zg ze zo zp v1 v2 d3 d4 res w_o_planRoom w_o_planGrid w_o_planOrder w_o_planOrderLength w_o_planCurrent w_o_planUnplaced h; cases h
  | succ n ih =>
    intro zi zf zg ze zo zp v1 v2 d3 d4 res w_o_planRoom w_o_planGrid w_o_planOrder w_o_planOrderLength w_o_planCurrent w_o_planUnplaced h
    unfold f_assign_16 at h
    refine OEnds.adv hm_8 3 (pc' := 21) (L' := [qr 1, qi v1, qi v2, qu, qu]) (S' := [.int ze, .int v2]) (H' := (c0 :: bk0 zq zn zl za zd zb zc zk zh zi zf zg zj zm ze zo zp po)) rfl ?_
    by_cases hc137 : v2 < ze
    · simp only [if_pos hc137] at h
      refine OEnds.icmpF hm_8 rfl ((tlt hc137).2.1) ?_
      refine OEnds.adv hm_8 2 (pc' := 27) (L' := [qr 1, qi v1, qi v2, qu, qu]) (S' := [.int 32, .int v2]) (H' := (c0 :: bk0 zq zn zl za zd zb zc zk zh zi zf zg zj zm ze zo zp po)) rfl ?_
      by_cases hc138 : v2 < (32 : Int32)
      · simp only [if_pos hc138] at h
        refine OEnds.icmpF hm_8 rfl ((tlt hc138).2.1) ?_
        refine OEnds.adv hm_8 3 (pc' := 35) (L' := [qr 1, qi v1, qi v2, qu, qu]) (S' := [.int v2, .ref 13]) (H' := (c0 :: bk0 zq zn zl za zd zb zc zk zh zi zf zg zj zm ze zo zp po)) rfl ?_
        obtain ⟨x145, hx145, h⟩ := bnd h
        refine OEnds.plain hm_8 rfl rfl (x_iaload rfl hx145) ?_
        refine OEnds.adv hm_8 3 (pc' := 39) (L' := [qr 1, qi v1, qi v2, qi x145, qu]) (S' := [.int x145, .ref 1]) (H' := (c0 :: bk0 zq zn zl za zd zb zc zk zh zi zf zg zj zm ze zo zp po)) rfl ?_
        obtain ⟨⟨r146, s147, s148⟩, hq139, h⟩ := bnd h
        refine OEnds.call0 hm_8 rfl rfl (by decide) rfl (as := [.ref 1, .int x145]) (rest := []) rfl rfl (ok_placeStay_0 hq139) ?_
        refine OEnds.adv hm_8 2 (pc' := 46) (L' := [qr 1, qi v1, qi v2, qi x145, qi r146]) (S' := [.int r146]) (H' := (c0 :: bk0 zq zn zl za zd zb zc zk zh s147 s148 zg zj zm ze zo zp po)) rfl ?_
        by_cases hc140 : r146 = (0 : Int32)
        · simp only [if_pos hc140] at h
          refine OEnds.ifF hm_8 rfl ((teq hc140).2) ?_
          refine OEnds.adv hm_8 3 (pc' := 16) (L' := [qr 1, qi (v1 + (1 : Int32)), qi (v2 + (1 : Int32)), qi x145, qi r146]) (S' := []) (H' := (c0 :: bk0 zq zn zl za zd zb zc zk zh s147 s148 zg zj zm ze zo zp po)) rfl ?_
          exact ih h
        · simp only [if_neg hc140] at h
          refine OEnds.ifT hm_8 rfl (q := 52) rfl ((feq hc140).2) ?_
          refine OEnds.adv hm_8 2 (pc' := 16) (L' := [qr 1, qi v1, qi (v2 + (1 : Int32)), qi x145, qi r146]) (S' := []) (H' := (c0 :: bk0 zq zn zl za zd zb zc zk zh s147 s148 zg zj zm ze zo zp po)) rfl ?_
          exact ih h
      · simp only [if_neg hc138] at h
        refine OEnds.icmpT hm_8 rfl (q := 58) rfl ((flt hc138).2.1) ?_
        show OEnds own_P 8 58 [qr 1, qi v1, qi v2, qu, qu] [] (c0 :: bk0 zq zn zl za zd zb zc zk zh zi zf zg zj zm ze zo zp po) _
        exact hk58 h
    · simp only [if_neg hc137] at h
      refine OEnds.icmpT hm_8 rfl (q := 58) rfl ((flt hc137).2.1) ?_
      show OEnds own_P 8 58 [qr 1, qi v1, qi v2, qu, qu] [] (c0 :: bk0 zq zn zl za zd zb zc zk zh zi zf zg zj zm ze zo zp po) _
      exact hk58 h
theorem ok_assign_0 {zq zn zl za zd zb zc zk zh : List Int32} {zj zm : Int32} {c0 : ACell} {po : List ACell} {zi zf zg : List Int32} {ze zo zp res : Int32} {w_o_planRoom w_o_planGrid w_o_planOrder : List Int32} {w_o_planOrderLength w_o_planCurrent w_o_planUnplaced : Int32} (h : f_assign zl za zd zb zc zj zi zf zg ze zo zp = some (res, w_o_planRoom, w_o_planGrid, w_o_planOrder, w_o_planOrderLength, w_o_planCurrent, w_o_planUnplaced)) : OEnds own_P 8 0 [qr 1, qu, qu, qu, qu] [] (c0 :: bk0 zq zn zl za zd zb zc zk zh zi zf zg zj zm ze zo zp po) (some (.int res), (c0 :: bk0 zq zn zl za zd zb zc zk zh w_o_planRoom w_o_planGrid w_o_planOrder zj zm w_o_planOrderLength w_o_planCurrent w_o_planUnplaced po), 0, 0) := by
  unfold f_assign at h
  refine OEnds.adv hm_8 1 (pc' := 1) (L' := [qr 1, qu, qu, qu, qu]) (S' := [.ref 1]) (H' := (c0 :: bk0 zq zn zl za zd zb zc zk zh zi zf zg zj zm ze zo zp po)) rfl ?_
  obtain ⟨s138, hq141, h⟩ := bnd h
  refine OEnds.call0 hm_8 rfl rfl (by decide) rfl (as := [.ref 1]) (rest := []) rfl rfl (ok_discardPlan_0 hq141) ?_
  refine OEnds.adv hm_8 1 (pc' := 5) (L' := [qr 1, qu, qu, qu, qu]) (S' := [.ref 1]) (H' := (c0 :: bk0 zq zn zl za zd zb zc zk zh zi zf zg zj zm ze s138 zp po)) rfl ?_
  obtain ⟨⟨s139, s140, s141, s142⟩, hq142, h⟩ := bnd h
  refine OEnds.call0 hm_8 rfl rfl (by decide) rfl (as := [.ref 1]) (rest := []) rfl rfl (ok_clearPlan_0 hq142) ?_
  refine OEnds.adv hm_8 1 (pc' := 9) (L' := [qr 1, qu, qu, qu, qu]) (S' := [.ref 1]) (H' := (c0 :: bk0 zq zn zl za zd zb zc zk zh s139 s140 s141 zj zm s142 s138 zp po)) rfl ?_
  obtain ⟨⟨s143, s144⟩, hq143, h⟩ := bnd h
  refine OEnds.call0 hm_8 rfl rfl (by decide) rfl (as := [.ref 1]) (rest := []) rfl rfl (ok_buildOrder_0 hq143) ?_
  refine OEnds.adv hm_8 4 (pc' := 16) (L' := [qr 1, qi 0, qi 0, qu, qu]) (S' := []) (H' := (c0 :: bk0 zq zn zl za zd zb zc zk zh s139 s140 s143 zj zm s144 s138 zp po)) rfl ?_
  exact ok_assign_16_0 (k58 := f_assign_58 zl za zd zb zc zj) ok_assign_58_0 100000 h
theorem ok_L_step_0 {zaf zx zy : List Int32} {zz : Int32} {c0 : ACell} {po : List ACell} {zr zt zu zv zw zag zaa zab zac : List Int32} {zs zad zah zae v1 v2 v3 v4 v5 : Int32} {w_p0_slotActive w_p0_slotType w_p0_slotArrive w_p0_slotNights w_p0_exactCount w_p0_atLeastCount w_p0_planRoom w_p0_planGrid w_p0_planOrder : List Int32} {w_p0_activeStays w_p0_planOrderLength w_p0_planCurrent w_p0_planUnplaced : Int32} (h : f_L_step zx zy zz zr zt zu zv zw zag zaa zab zac zs zad zah zae v1 v2 v3 v4 v5 = some (w_p0_slotActive, w_p0_slotType, w_p0_slotArrive, w_p0_slotNights, w_p0_exactCount, w_p0_atLeastCount, w_p0_planRoom, w_p0_planGrid, w_p0_planOrder, w_p0_activeStays, w_p0_planOrderLength, w_p0_planCurrent, w_p0_planUnplaced)) : OEnds own_P 7 0 [qr 1, qi v1, qi v2, qi v3, qi v4, qi v5] [] (c0 :: bk0 zaf zx zy zr zt zu zv zw zag zaa zab zac zz zs zad zah zae po) (none, (c0 :: bk0 zaf zx zy w_p0_slotActive w_p0_slotType w_p0_slotArrive w_p0_slotNights w_p0_exactCount w_p0_atLeastCount w_p0_planRoom w_p0_planGrid w_p0_planOrder zz w_p0_activeStays w_p0_planOrderLength w_p0_planCurrent w_p0_planUnplaced po), 0, 0) := by
  unfold f_L_step at h
  refine OEnds.adv hm_7 1 (pc' := 1) (L' := [qr 1, qi v1, qi v2, qi v3, qi v4, qi v5]) (S' := [.int v1]) (H' := (c0 :: bk0 zaf zx zy zr zt zu zv zw zag zaa zab zac zz zs zad zah zae po)) rfl ?_
  by_cases hc144 : v1 = (0 : Int32)
  · simp only [if_pos hc144] at h
    refine OEnds.ifF hm_7 rfl ((teq hc144).2) ?_
    refine OEnds.adv hm_7 4 (pc' := 9) (L' := [qr 1, qi v1, qi v2, qi v3, qi v4, qi v5]) (S' := [.int v4, .int v3, .int v2, .ref 1]) (H' := (c0 :: bk0 zaf zx zy zr zt zu zv zw zag zaa zab zac zz zs zad zah zae po)) rfl ?_
    obtain ⟨⟨r172, s173, s174, s175, s176, s177, s178, s179, s180⟩, hq145, h⟩ := bnd h
    refine OEnds.call0 hm_7 rfl rfl (by decide) rfl (as := [.ref 1, .int v2, .int v3, .int v4]) (rest := []) rfl rfl (ok_book_0 hq145) ?_
    refine OEnds.adv hm_7 2 (pc' := 54) (L' := [qr 1, qi v1, qi v2, qi v3, qi v4, qi v5]) (S' := []) (H' := (c0 :: bk0 zaf zx zy s173 s174 s175 s176 s177 s178 zaa zab zac zz s179 zad s180 zae po)) rfl ?_
    cases h
    exact OEnds.vret hm_7 rfl rfl
  · simp only [if_neg hc144] at h
    refine OEnds.ifT hm_7 rfl (q := 16) rfl ((feq hc144).2) ?_
    refine OEnds.adv hm_7 2 (pc' := 18) (L' := [qr 1, qi v1, qi v2, qi v3, qi v4, qi v5]) (S' := [.int 1, .int v1]) (H' := (c0 :: bk0 zaf zx zy zr zt zu zv zw zag zaa zab zac zz zs zad zah zae po)) rfl ?_
    by_cases hc146 : v1 = (1 : Int32)
    · simp only [if_pos hc146] at h
      refine OEnds.icmpF hm_7 rfl ((teq hc146).2) ?_
      refine OEnds.adv hm_7 5 (pc' := 28) (L' := [qr 1, qi v1, qi v2, qi v3, qi v4, qi v5]) (S' := [.int v5, .int v4, .int v3, .int v2, .ref 1]) (H' := (c0 :: bk0 zaf zx zy zr zt zu zv zw zag zaa zab zac zz zs zad zah zae po)) rfl ?_
      obtain ⟨⟨r165, s166, s167, s168, s169, s170, s171⟩, hq147, h⟩ := bnd h
      refine OEnds.call0 hm_7 rfl rfl (by decide) rfl (as := [.ref 1, .int v2, .int v3, .int v4, .int v5]) (rest := []) rfl rfl (ok_amend_0 hq147) ?_
      refine OEnds.adv hm_7 2 (pc' := 54) (L' := [qr 1, qi v1, qi v2, qi v3, qi v4, qi v5]) (S' := []) (H' := (c0 :: bk0 zaf zx zy zr s166 s167 s168 s169 s170 zaa zab zac zz zs zad s171 zae po)) rfl ?_
      cases h
      exact OEnds.vret hm_7 rfl rfl
    · simp only [if_neg hc146] at h
      refine OEnds.icmpT hm_7 rfl (q := 35) rfl ((feq hc146).2) ?_
      refine OEnds.adv hm_7 2 (pc' := 37) (L' := [qr 1, qi v1, qi v2, qi v3, qi v4, qi v5]) (S' := [.int 2, .int v1]) (H' := (c0 :: bk0 zaf zx zy zr zt zu zv zw zag zaa zab zac zz zs zad zah zae po)) rfl ?_
      by_cases hc148 : v1 = (2 : Int32)
      · simp only [if_pos hc148] at h
        refine OEnds.icmpF hm_7 rfl ((teq hc148).2) ?_
        refine OEnds.adv hm_7 2 (pc' := 42) (L' := [qr 1, qi v1, qi v2, qi v3, qi v4, qi v5]) (S' := [.int v2, .ref 1]) (H' := (c0 :: bk0 zaf zx zy zr zt zu zv zw zag zaa zab zac zz zs zad zah zae po)) rfl ?_
        obtain ⟨⟨r156, s157, s158, s159, s160, s161, s162, s163, s164⟩, hq149, h⟩ := bnd h
        refine OEnds.call0 hm_7 rfl rfl (by decide) rfl (as := [.ref 1, .int v2]) (rest := []) rfl rfl (ok_cancel_0 hq149) ?_
        refine OEnds.adv hm_7 2 (pc' := 54) (L' := [qr 1, qi v1, qi v2, qi v3, qi v4, qi v5]) (S' := []) (H' := (c0 :: bk0 zaf zx zy s157 s158 s159 s160 s161 s162 zaa zab zac zz s163 zad s164 zae po)) rfl ?_
        cases h
        exact OEnds.vret hm_7 rfl rfl
      · simp only [if_neg hc148] at h
        refine OEnds.icmpT hm_7 rfl (q := 49) rfl ((feq hc148).2) ?_
        refine OEnds.adv hm_7 1 (pc' := 50) (L' := [qr 1, qi v1, qi v2, qi v3, qi v4, qi v5]) (S' := [.ref 1]) (H' := (c0 :: bk0 zaf zx zy zr zt zu zv zw zag zaa zab zac zz zs zad zah zae po)) rfl ?_
        obtain ⟨⟨r149, s150, s151, s152, s153, s154, s155⟩, hq150, h⟩ := bnd h
        refine OEnds.call0 hm_7 rfl rfl (by decide) rfl (as := [.ref 1]) (rest := []) rfl rfl (ok_assign_0 hq150) ?_
        refine OEnds.adv hm_7 1 (pc' := 54) (L' := [qr 1, qi v1, qi v2, qi v3, qi v4, qi v5]) (S' := []) (H' := (c0 :: bk0 zaf zx zy zr zt zu zv zw zag s150 s151 s152 zz zs s153 s154 s155 po)) rfl ?_
        cases h
        exact OEnds.vret hm_7 rfl rfl
theorem ok_isValidType_1 {zq zn zl za zd zb zc zk zh zi zf zg : List Int32} {zj zm ze zo zp : Int32} {c0 c1 c2 c3 c4 c5 c6 c7 c8 c9 c10 c11 c12 c13 : ACell} {po : List ACell} {v1 res : Int32} (h : f_isValidType v1 = some res) : OEnds own_P 13 0 [qr 14, qi v1] [] (c0 :: c1 :: c2 :: c3 :: c4 :: c5 :: c6 :: c7 :: c8 :: c9 :: c10 :: c11 :: c12 :: c13 :: bk1 zq zn zl za zd zb zc zk zh zi zf zg zj zm ze zo zp po) (some (.int res), (c0 :: c1 :: c2 :: c3 :: c4 :: c5 :: c6 :: c7 :: c8 :: c9 :: c10 :: c11 :: c12 :: c13 :: bk1 zq zn zl za zd zb zc zk zh zi zf zg zj zm ze zo zp po), 0, 0) := by
  unfold f_isValidType at h
  refine OEnds.adv hm_13 1 (pc' := 1) (L' := [qr 14, qi v1]) (S' := [.int v1]) (H' := (c0 :: c1 :: c2 :: c3 :: c4 :: c5 :: c6 :: c7 :: c8 :: c9 :: c10 :: c11 :: c12 :: c13 :: bk1 zq zn zl za zd zb zc zk zh zi zf zg zj zm ze zo zp po)) rfl ?_
  by_cases hc151 : v1 < (0 : Int32)
  · simp only [if_pos hc151] at h
    refine OEnds.ifT hm_13 rfl (q := 13) rfl ((tlt hc151).1) ?_
    refine OEnds.adv hm_13 1 (pc' := 14) (L' := [qr 14, qi v1]) (S' := [.int 0]) (H' := (c0 :: c1 :: c2 :: c3 :: c4 :: c5 :: c6 :: c7 :: c8 :: c9 :: c10 :: c11 :: c12 :: c13 :: bk1 zq zn zl za zd zb zc zk zh zi zf zg zj zm ze zo zp po)) rfl ?_
    cases h
    exact OEnds.iret hm_13 rfl rfl
  · simp only [if_neg hc151] at h
    refine OEnds.ifF hm_13 rfl ((flt hc151).1) ?_
    refine OEnds.adv hm_13 2 (pc' := 6) (L' := [qr 14, qi v1]) (S' := [.int 3, .int v1]) (H' := (c0 :: c1 :: c2 :: c3 :: c4 :: c5 :: c6 :: c7 :: c8 :: c9 :: c10 :: c11 :: c12 :: c13 :: bk1 zq zn zl za zd zb zc zk zh zi zf zg zj zm ze zo zp po)) rfl ?_
    by_cases hc152 : v1 < (3 : Int32)
    · simp only [if_pos hc152] at h
      refine OEnds.icmpF hm_13 rfl ((tlt hc152).2.1) ?_
      refine OEnds.adv hm_13 2 (pc' := 14) (L' := [qr 14, qi v1]) (S' := [.int 1]) (H' := (c0 :: c1 :: c2 :: c3 :: c4 :: c5 :: c6 :: c7 :: c8 :: c9 :: c10 :: c11 :: c12 :: c13 :: bk1 zq zn zl za zd zb zc zk zh zi zf zg zj zm ze zo zp po)) rfl ?_
      cases h
      exact OEnds.iret hm_13 rfl rfl
    · simp only [if_neg hc152] at h
      refine OEnds.icmpT hm_13 rfl (q := 13) rfl ((flt hc152).2.1) ?_
      refine OEnds.adv hm_13 1 (pc' := 14) (L' := [qr 14, qi v1]) (S' := [.int 0]) (H' := (c0 :: c1 :: c2 :: c3 :: c4 :: c5 :: c6 :: c7 :: c8 :: c9 :: c10 :: c11 :: c12 :: c13 :: bk1 zq zn zl za zd zb zc zk zh zi zf zg zj zm ze zo zp po)) rfl ?_
      cases h
      exact OEnds.iret hm_13 rfl rfl
theorem ok_isValidNight_1 {zq zn zl za zd zb zc zk zh zi zf zg : List Int32} {zj zm ze zo zp : Int32} {c0 c1 c2 c3 c4 c5 c6 c7 c8 c9 c10 c11 c12 c13 : ACell} {po : List ACell} {v1 res : Int32} (h : f_isValidNight v1 = some res) : OEnds own_P 14 0 [qr 14, qi v1] [] (c0 :: c1 :: c2 :: c3 :: c4 :: c5 :: c6 :: c7 :: c8 :: c9 :: c10 :: c11 :: c12 :: c13 :: bk1 zq zn zl za zd zb zc zk zh zi zf zg zj zm ze zo zp po) (some (.int res), (c0 :: c1 :: c2 :: c3 :: c4 :: c5 :: c6 :: c7 :: c8 :: c9 :: c10 :: c11 :: c12 :: c13 :: bk1 zq zn zl za zd zb zc zk zh zi zf zg zj zm ze zo zp po), 0, 0) := by
  unfold f_isValidNight at h
  refine OEnds.adv hm_14 1 (pc' := 1) (L' := [qr 14, qi v1]) (S' := [.int v1]) (H' := (c0 :: c1 :: c2 :: c3 :: c4 :: c5 :: c6 :: c7 :: c8 :: c9 :: c10 :: c11 :: c12 :: c13 :: bk1 zq zn zl za zd zb zc zk zh zi zf zg zj zm ze zo zp po)) rfl ?_
  by_cases hc153 : v1 < (0 : Int32)
  · simp only [if_pos hc153] at h
    refine OEnds.ifT hm_14 rfl (q := 14) rfl ((tlt hc153).1) ?_
    refine OEnds.adv hm_14 1 (pc' := 15) (L' := [qr 14, qi v1]) (S' := [.int 0]) (H' := (c0 :: c1 :: c2 :: c3 :: c4 :: c5 :: c6 :: c7 :: c8 :: c9 :: c10 :: c11 :: c12 :: c13 :: bk1 zq zn zl za zd zb zc zk zh zi zf zg zj zm ze zo zp po)) rfl ?_
    cases h
    exact OEnds.iret hm_14 rfl rfl
  · simp only [if_neg hc153] at h
    refine OEnds.ifF hm_14 rfl ((flt hc153).1) ?_
    refine OEnds.adv hm_14 2 (pc' := 7) (L' := [qr 14, qi v1]) (S' := [.int 32, .int v1]) (H' := (c0 :: c1 :: c2 :: c3 :: c4 :: c5 :: c6 :: c7 :: c8 :: c9 :: c10 :: c11 :: c12 :: c13 :: bk1 zq zn zl za zd zb zc zk zh zi zf zg zj zm ze zo zp po)) rfl ?_
    by_cases hc154 : v1 < (32 : Int32)
    · simp only [if_pos hc154] at h
      refine OEnds.icmpF hm_14 rfl ((tlt hc154).2.1) ?_
      refine OEnds.adv hm_14 2 (pc' := 15) (L' := [qr 14, qi v1]) (S' := [.int 1]) (H' := (c0 :: c1 :: c2 :: c3 :: c4 :: c5 :: c6 :: c7 :: c8 :: c9 :: c10 :: c11 :: c12 :: c13 :: bk1 zq zn zl za zd zb zc zk zh zi zf zg zj zm ze zo zp po)) rfl ?_
      cases h
      exact OEnds.iret hm_14 rfl rfl
    · simp only [if_neg hc154] at h
      refine OEnds.icmpT hm_14 rfl (q := 14) rfl ((flt hc154).2.1) ?_
      refine OEnds.adv hm_14 1 (pc' := 15) (L' := [qr 14, qi v1]) (S' := [.int 0]) (H' := (c0 :: c1 :: c2 :: c3 :: c4 :: c5 :: c6 :: c7 :: c8 :: c9 :: c10 :: c11 :: c12 :: c13 :: bk1 zq zn zl za zd zb zc zk zh zi zf zg zj zm ze zo zp po)) rfl ?_
      cases h
      exact OEnds.iret hm_14 rfl rfl
theorem ok_isValidLength_1 {zq zn zl za zd zb zc zk zh zi zf zg : List Int32} {zj zm ze zo zp : Int32} {c0 c1 c2 c3 c4 c5 c6 c7 c8 c9 c10 c11 c12 c13 : ACell} {po : List ACell} {v1 v2 res : Int32} (h : f_isValidLength v1 v2 = some res) : OEnds own_P 15 0 [qr 14, qi v1, qi v2] [] (c0 :: c1 :: c2 :: c3 :: c4 :: c5 :: c6 :: c7 :: c8 :: c9 :: c10 :: c11 :: c12 :: c13 :: bk1 zq zn zl za zd zb zc zk zh zi zf zg zj zm ze zo zp po) (some (.int res), (c0 :: c1 :: c2 :: c3 :: c4 :: c5 :: c6 :: c7 :: c8 :: c9 :: c10 :: c11 :: c12 :: c13 :: bk1 zq zn zl za zd zb zc zk zh zi zf zg zj zm ze zo zp po), 0, 0) := by
  unfold f_isValidLength at h
  refine OEnds.adv hm_15 2 (pc' := 2) (L' := [qr 14, qi v1, qi v2]) (S' := [.int 1, .int v2]) (H' := (c0 :: c1 :: c2 :: c3 :: c4 :: c5 :: c6 :: c7 :: c8 :: c9 :: c10 :: c11 :: c12 :: c13 :: bk1 zq zn zl za zd zb zc zk zh zi zf zg zj zm ze zo zp po)) rfl ?_
  by_cases hc155 : v2 < (1 : Int32)
  · simp only [if_pos hc155] at h
    refine OEnds.icmpF hm_15 rfl ((tlt hc155).2.1) ?_
    refine OEnds.adv hm_15 1 (pc' := 6) (L' := [qr 14, qi v1, qi v2]) (S' := [.int 0]) (H' := (c0 :: c1 :: c2 :: c3 :: c4 :: c5 :: c6 :: c7 :: c8 :: c9 :: c10 :: c11 :: c12 :: c13 :: bk1 zq zn zl za zd zb zc zk zh zi zf zg zj zm ze zo zp po)) rfl ?_
    cases h
    exact OEnds.iret hm_15 rfl rfl
  · simp only [if_neg hc155] at h
    refine OEnds.icmpT hm_15 rfl (q := 7) rfl ((flt hc155).2.1) ?_
    refine OEnds.adv hm_15 4 (pc' := 12) (L' := [qr 14, qi v1, qi v2]) (S' := [.int ((32 : Int32) - v1), .int v2]) (H' := (c0 :: c1 :: c2 :: c3 :: c4 :: c5 :: c6 :: c7 :: c8 :: c9 :: c10 :: c11 :: c12 :: c13 :: bk1 zq zn zl za zd zb zc zk zh zi zf zg zj zm ze zo zp po)) rfl ?_
    by_cases hc156 : ((32 : Int32) - v1) < v2
    · simp only [if_pos hc156] at h
      refine OEnds.icmpT hm_15 rfl (q := 19) rfl ((tlt hc156).2.2.1) ?_
      refine OEnds.adv hm_15 1 (pc' := 20) (L' := [qr 14, qi v1, qi v2]) (S' := [.int 0]) (H' := (c0 :: c1 :: c2 :: c3 :: c4 :: c5 :: c6 :: c7 :: c8 :: c9 :: c10 :: c11 :: c12 :: c13 :: bk1 zq zn zl za zd zb zc zk zh zi zf zg zj zm ze zo zp po)) rfl ?_
      cases h
      exact OEnds.iret hm_15 rfl rfl
    · simp only [if_neg hc156] at h
      refine OEnds.icmpF hm_15 rfl ((flt hc156).2.2.1) ?_
      refine OEnds.adv hm_15 2 (pc' := 20) (L' := [qr 14, qi v1, qi v2]) (S' := [.int 1]) (H' := (c0 :: c1 :: c2 :: c3 :: c4 :: c5 :: c6 :: c7 :: c8 :: c9 :: c10 :: c11 :: c12 :: c13 :: bk1 zq zn zl za zd zb zc zk zh zi zf zg zj zm ze zo zp po)) rfl ?_
      cases h
      exact OEnds.iret hm_15 rfl rfl
theorem ok_requestError_1 {zq zn zl za zd zb zc zk zh zi zf zg : List Int32} {zj zm ze zo zp : Int32} {c0 c1 c2 c3 c4 c5 c6 c7 c8 c9 c10 c11 c12 c13 : ACell} {po : List ACell} {v1 v2 v3 res : Int32} (h : f_requestError v1 v2 v3 = some res) : OEnds own_P 12 0 [qr 14, qi v1, qi v2, qi v3] [] (c0 :: c1 :: c2 :: c3 :: c4 :: c5 :: c6 :: c7 :: c8 :: c9 :: c10 :: c11 :: c12 :: c13 :: bk1 zq zn zl za zd zb zc zk zh zi zf zg zj zm ze zo zp po) (some (.int res), (c0 :: c1 :: c2 :: c3 :: c4 :: c5 :: c6 :: c7 :: c8 :: c9 :: c10 :: c11 :: c12 :: c13 :: bk1 zq zn zl za zd zb zc zk zh zi zf zg zj zm ze zo zp po), 0, 0) := by
  unfold f_requestError at h
  refine OEnds.adv hm_12 2 (pc' := 2) (L' := [qr 14, qi v1, qi v2, qi v3]) (S' := [.int v1, .ref 14]) (H' := (c0 :: c1 :: c2 :: c3 :: c4 :: c5 :: c6 :: c7 :: c8 :: c9 :: c10 :: c11 :: c12 :: c13 :: bk1 zq zn zl za zd zb zc zk zh zi zf zg zj zm ze zo zp po)) rfl ?_
  obtain ⟨r39, hq157, h⟩ := bnd h
  refine OEnds.call0 hm_12 rfl rfl (by decide) rfl (as := [.ref 14, .int v1]) (rest := []) rfl rfl (ok_isValidType_1 hq157) ?_
  show OEnds own_P 12 5 [qr 14, qi v1, qi v2, qi v3] [.int r39] (c0 :: c1 :: c2 :: c3 :: c4 :: c5 :: c6 :: c7 :: c8 :: c9 :: c10 :: c11 :: c12 :: c13 :: bk1 zq zn zl za zd zb zc zk zh zi zf zg zj zm ze zo zp po) _
  by_cases hc158 : r39 = (0 : Int32)
  · simp only [if_pos hc158] at h
    refine OEnds.ifF hm_12 rfl ((teq hc158).2) ?_
    refine OEnds.adv hm_12 1 (pc' := 9) (L' := [qr 14, qi v1, qi v2, qi v3]) (S' := [.int (-1)]) (H' := (c0 :: c1 :: c2 :: c3 :: c4 :: c5 :: c6 :: c7 :: c8 :: c9 :: c10 :: c11 :: c12 :: c13 :: bk1 zq zn zl za zd zb zc zk zh zi zf zg zj zm ze zo zp po)) rfl ?_
    cases h
    exact OEnds.iret hm_12 rfl rfl
  · simp only [if_neg hc158] at h
    refine OEnds.ifT hm_12 rfl (q := 10) rfl ((feq hc158).2) ?_
    refine OEnds.adv hm_12 2 (pc' := 12) (L' := [qr 14, qi v1, qi v2, qi v3]) (S' := [.int v2, .ref 14]) (H' := (c0 :: c1 :: c2 :: c3 :: c4 :: c5 :: c6 :: c7 :: c8 :: c9 :: c10 :: c11 :: c12 :: c13 :: bk1 zq zn zl za zd zb zc zk zh zi zf zg zj zm ze zo zp po)) rfl ?_
    obtain ⟨r40, hq159, h⟩ := bnd h
    refine OEnds.call0 hm_12 rfl rfl (by decide) rfl (as := [.ref 14, .int v2]) (rest := []) rfl rfl (ok_isValidNight_1 hq159) ?_
    show OEnds own_P 12 15 [qr 14, qi v1, qi v2, qi v3] [.int r40] (c0 :: c1 :: c2 :: c3 :: c4 :: c5 :: c6 :: c7 :: c8 :: c9 :: c10 :: c11 :: c12 :: c13 :: bk1 zq zn zl za zd zb zc zk zh zi zf zg zj zm ze zo zp po) _
    by_cases hc160 : r40 = (0 : Int32)
    · simp only [if_pos hc160] at h
      refine OEnds.ifF hm_12 rfl ((teq hc160).2) ?_
      refine OEnds.adv hm_12 1 (pc' := 20) (L' := [qr 14, qi v1, qi v2, qi v3]) (S' := [.int (-2)]) (H' := (c0 :: c1 :: c2 :: c3 :: c4 :: c5 :: c6 :: c7 :: c8 :: c9 :: c10 :: c11 :: c12 :: c13 :: bk1 zq zn zl za zd zb zc zk zh zi zf zg zj zm ze zo zp po)) rfl ?_
      cases h
      exact OEnds.iret hm_12 rfl rfl
    · simp only [if_neg hc160] at h
      refine OEnds.ifT hm_12 rfl (q := 21) rfl ((feq hc160).2) ?_
      refine OEnds.adv hm_12 3 (pc' := 24) (L' := [qr 14, qi v1, qi v2, qi v3]) (S' := [.int v3, .int v2, .ref 14]) (H' := (c0 :: c1 :: c2 :: c3 :: c4 :: c5 :: c6 :: c7 :: c8 :: c9 :: c10 :: c11 :: c12 :: c13 :: bk1 zq zn zl za zd zb zc zk zh zi zf zg zj zm ze zo zp po)) rfl ?_
      obtain ⟨r41, hq161, h⟩ := bnd h
      refine OEnds.call0 hm_12 rfl rfl (by decide) rfl (as := [.ref 14, .int v2, .int v3]) (rest := []) rfl rfl (ok_isValidLength_1 hq161) ?_
      show OEnds own_P 12 27 [qr 14, qi v1, qi v2, qi v3] [.int r41] (c0 :: c1 :: c2 :: c3 :: c4 :: c5 :: c6 :: c7 :: c8 :: c9 :: c10 :: c11 :: c12 :: c13 :: bk1 zq zn zl za zd zb zc zk zh zi zf zg zj zm ze zo zp po) _
      by_cases hc162 : r41 = (0 : Int32)
      · simp only [if_pos hc162] at h
        refine OEnds.ifF hm_12 rfl ((teq hc162).2) ?_
        refine OEnds.adv hm_12 1 (pc' := 32) (L' := [qr 14, qi v1, qi v2, qi v3]) (S' := [.int (-2)]) (H' := (c0 :: c1 :: c2 :: c3 :: c4 :: c5 :: c6 :: c7 :: c8 :: c9 :: c10 :: c11 :: c12 :: c13 :: bk1 zq zn zl za zd zb zc zk zh zi zf zg zj zm ze zo zp po)) rfl ?_
        cases h
        exact OEnds.iret hm_12 rfl rfl
      · simp only [if_neg hc162] at h
        refine OEnds.ifT hm_12 rfl (q := 33) rfl ((feq hc162).2) ?_
        refine OEnds.adv hm_12 1 (pc' := 34) (L' := [qr 14, qi v1, qi v2, qi v3]) (S' := [.int 0]) (H' := (c0 :: c1 :: c2 :: c3 :: c4 :: c5 :: c6 :: c7 :: c8 :: c9 :: c10 :: c11 :: c12 :: c13 :: bk1 zq zn zl za zd zb zc zk zh zi zf zg zj zm ze zo zp po)) rfl ?_
        cases h
        exact OEnds.iret hm_12 rfl rfl
theorem ok_endOf_1 {zq zn zl za zd zb zc zk zh zi zf zg : List Int32} {zj zm ze zo zp : Int32} {c0 c1 c2 c3 c4 c5 c6 c7 c8 c9 c10 c11 c12 c13 : ACell} {po : List ACell} {v1 v2 res : Int32} (h : f_endOf v1 v2 = some res) : OEnds own_P 26 0 [qr 14, qi v1, qi v2, qu] [] (c0 :: c1 :: c2 :: c3 :: c4 :: c5 :: c6 :: c7 :: c8 :: c9 :: c10 :: c11 :: c12 :: c13 :: bk1 zq zn zl za zd zb zc zk zh zi zf zg zj zm ze zo zp po) (some (.int res), (c0 :: c1 :: c2 :: c3 :: c4 :: c5 :: c6 :: c7 :: c8 :: c9 :: c10 :: c11 :: c12 :: c13 :: bk1 zq zn zl za zd zb zc zk zh zi zf zg zj zm ze zo zp po), 0, 0) := by
  unfold f_endOf at h
  refine OEnds.adv hm_26 6 (pc' := 7) (L' := [qr 14, qi v1, qi v2, qi (v1 + v2)]) (S' := [.int 32, .int (v1 + v2)]) (H' := (c0 :: c1 :: c2 :: c3 :: c4 :: c5 :: c6 :: c7 :: c8 :: c9 :: c10 :: c11 :: c12 :: c13 :: bk1 zq zn zl za zd zb zc zk zh zi zf zg zj zm ze zo zp po)) rfl ?_
  by_cases hc163 : (32 : Int32) < (v1 + v2)
  · simp only [if_pos hc163] at h
    refine OEnds.icmpF hm_26 rfl ((tlt hc163).2.2.2) ?_
    refine OEnds.adv hm_26 1 (pc' := 12) (L' := [qr 14, qi v1, qi v2, qi (v1 + v2)]) (S' := [.int 32]) (H' := (c0 :: c1 :: c2 :: c3 :: c4 :: c5 :: c6 :: c7 :: c8 :: c9 :: c10 :: c11 :: c12 :: c13 :: bk1 zq zn zl za zd zb zc zk zh zi zf zg zj zm ze zo zp po)) rfl ?_
    cases h
    exact OEnds.iret hm_26 rfl rfl
  · simp only [if_neg hc163] at h
    refine OEnds.icmpT hm_26 rfl (q := 13) rfl ((flt hc163).2.2.2) ?_
    refine OEnds.adv hm_26 1 (pc' := 14) (L' := [qr 14, qi v1, qi v2, qi (v1 + v2)]) (S' := [.int (v1 + v2)]) (H' := (c0 :: c1 :: c2 :: c3 :: c4 :: c5 :: c6 :: c7 :: c8 :: c9 :: c10 :: c11 :: c12 :: c13 :: bk1 zq zn zl za zd zb zc zk zh zi zf zg zj zm ze zo zp po)) rfl ?_
    cases h
    exact OEnds.iret hm_26 rfl rfl
theorem ok_countIndex_1 {zq zn zl za zd zb zc zk zh zi zf zg : List Int32} {zj zm ze zo zp : Int32} {c0 c1 c2 c3 c4 c5 c6 c7 c8 c9 c10 c11 c12 c13 : ACell} {po : List ACell} {v1 v2 res : Int32} (h : f_countIndex v1 v2 = some res) : OEnds own_P 24 0 [qr 14, qi v1, qi v2] [] (c0 :: c1 :: c2 :: c3 :: c4 :: c5 :: c6 :: c7 :: c8 :: c9 :: c10 :: c11 :: c12 :: c13 :: bk1 zq zn zl za zd zb zc zk zh zi zf zg zj zm ze zo zp po) (some (.int res), (c0 :: c1 :: c2 :: c3 :: c4 :: c5 :: c6 :: c7 :: c8 :: c9 :: c10 :: c11 :: c12 :: c13 :: bk1 zq zn zl za zd zb zc zk zh zi zf zg zj zm ze zo zp po), 0, 0) := by
  unfold f_countIndex at h
  refine OEnds.adv hm_24 5 (pc' := 6) (L' := [qr 14, qi v1, qi v2]) (S' := [.int ((v1 * (32 : Int32)) + v2)]) (H' := (c0 :: c1 :: c2 :: c3 :: c4 :: c5 :: c6 :: c7 :: c8 :: c9 :: c10 :: c11 :: c12 :: c13 :: bk1 zq zn zl za zd zb zc zk zh zi zf zg zj zm ze zo zp po)) rfl ?_
  cases h
  exact OEnds.iret hm_24 rfl rfl
theorem ok_atLeastAt_1 {zq zn zl za zd zb zc zk zh zi zf zg : List Int32} {zj zm ze zo zp : Int32} {c0 c1 c2 c3 c4 c5 c6 c7 c8 c9 c10 c11 c12 c13 : ACell} {po : List ACell} {v1 v2 res : Int32} (h : f_atLeastAt zh v1 v2 = some res) : OEnds own_P 28 0 [qr 14, qi v1, qi v2] [] (c0 :: c1 :: c2 :: c3 :: c4 :: c5 :: c6 :: c7 :: c8 :: c9 :: c10 :: c11 :: c12 :: c13 :: bk1 zq zn zl za zd zb zc zk zh zi zf zg zj zm ze zo zp po) (some (.int res), (c0 :: c1 :: c2 :: c3 :: c4 :: c5 :: c6 :: c7 :: c8 :: c9 :: c10 :: c11 :: c12 :: c13 :: bk1 zq zn zl za zd zb zc zk zh zi zf zg zj zm ze zo zp po), 0, 0) := by
  unfold f_atLeastAt at h
  refine OEnds.adv hm_28 2 (pc' := 2) (L' := [qr 14, qi v1, qi v2]) (S' := [.int v1, .ref 14]) (H' := (c0 :: c1 :: c2 :: c3 :: c4 :: c5 :: c6 :: c7 :: c8 :: c9 :: c10 :: c11 :: c12 :: c13 :: bk1 zq zn zl za zd zb zc zk zh zi zf zg zj zm ze zo zp po)) rfl ?_
  obtain ⟨r42, hq164, h⟩ := bnd h
  refine OEnds.call0 hm_28 rfl rfl (by decide) rfl (as := [.ref 14, .int v1]) (rest := []) rfl rfl (ok_isValidType_1 hq164) ?_
  show OEnds own_P 28 5 [qr 14, qi v1, qi v2] [.int r42] (c0 :: c1 :: c2 :: c3 :: c4 :: c5 :: c6 :: c7 :: c8 :: c9 :: c10 :: c11 :: c12 :: c13 :: bk1 zq zn zl za zd zb zc zk zh zi zf zg zj zm ze zo zp po) _
  by_cases hc165 : r42 = (0 : Int32)
  · simp only [if_pos hc165] at h
    refine OEnds.ifT hm_28 rfl (q := 16) rfl ((teq hc165).1) ?_
    refine OEnds.adv hm_28 1 (pc' := 17) (L' := [qr 14, qi v1, qi v2]) (S' := [.int 0]) (H' := (c0 :: c1 :: c2 :: c3 :: c4 :: c5 :: c6 :: c7 :: c8 :: c9 :: c10 :: c11 :: c12 :: c13 :: bk1 zq zn zl za zd zb zc zk zh zi zf zg zj zm ze zo zp po)) rfl ?_
    cases h
    exact OEnds.iret hm_28 rfl rfl
  · simp only [if_neg hc165] at h
    refine OEnds.ifF hm_28 rfl ((feq hc165).1) ?_
    refine OEnds.adv hm_28 2 (pc' := 10) (L' := [qr 14, qi v1, qi v2]) (S' := [.int v2, .ref 14]) (H' := (c0 :: c1 :: c2 :: c3 :: c4 :: c5 :: c6 :: c7 :: c8 :: c9 :: c10 :: c11 :: c12 :: c13 :: bk1 zq zn zl za zd zb zc zk zh zi zf zg zj zm ze zo zp po)) rfl ?_
    obtain ⟨r43, hq166, h⟩ := bnd h
    refine OEnds.call0 hm_28 rfl rfl (by decide) rfl (as := [.ref 14, .int v2]) (rest := []) rfl rfl (ok_isValidNight_1 hq166) ?_
    show OEnds own_P 28 13 [qr 14, qi v1, qi v2] [.int r43] (c0 :: c1 :: c2 :: c3 :: c4 :: c5 :: c6 :: c7 :: c8 :: c9 :: c10 :: c11 :: c12 :: c13 :: bk1 zq zn zl za zd zb zc zk zh zi zf zg zj zm ze zo zp po) _
    by_cases hc167 : r43 = (0 : Int32)
    · simp only [if_pos hc167] at h
      refine OEnds.ifF hm_28 rfl ((teq hc167).2) ?_
      refine OEnds.adv hm_28 1 (pc' := 17) (L' := [qr 14, qi v1, qi v2]) (S' := [.int 0]) (H' := (c0 :: c1 :: c2 :: c3 :: c4 :: c5 :: c6 :: c7 :: c8 :: c9 :: c10 :: c11 :: c12 :: c13 :: bk1 zq zn zl za zd zb zc zk zh zi zf zg zj zm ze zo zp po)) rfl ?_
      cases h
      exact OEnds.iret hm_28 rfl rfl
    · simp only [if_neg hc167] at h
      refine OEnds.ifT hm_28 rfl (q := 18) rfl ((feq hc167).2) ?_
      refine OEnds.adv hm_28 5 (pc' := 25) (L' := [qr 14, qi v1, qi v2]) (S' := [.int v2, .int v1, .ref 14, .ref 23]) (H' := (c0 :: c1 :: c2 :: c3 :: c4 :: c5 :: c6 :: c7 :: c8 :: c9 :: c10 :: c11 :: c12 :: c13 :: bk1 zq zn zl za zd zb zc zk zh zi zf zg zj zm ze zo zp po)) rfl ?_
      obtain ⟨r44, hq168, h⟩ := bnd h
      refine OEnds.call0 hm_28 rfl rfl (by decide) rfl (as := [.ref 14, .int v1, .int v2]) (rest := [.ref 23]) rfl rfl (ok_countIndex_1 hq168) ?_
      show OEnds own_P 28 28 [qr 14, qi v1, qi v2] [.int r44, .ref 23] (c0 :: c1 :: c2 :: c3 :: c4 :: c5 :: c6 :: c7 :: c8 :: c9 :: c10 :: c11 :: c12 :: c13 :: bk1 zq zn zl za zd zb zc zk zh zi zf zg zj zm ze zo zp po) _
      obtain ⟨x45, hx45, h⟩ := bnd h
      refine OEnds.plain hm_28 rfl rfl (x_iaload rfl hx45) ?_
      show OEnds own_P 28 29 [qr 14, qi v1, qi v2] [.int x45] (c0 :: c1 :: c2 :: c3 :: c4 :: c5 :: c6 :: c7 :: c8 :: c9 :: c10 :: c11 :: c12 :: c13 :: bk1 zq zn zl za zd zb zc zk zh zi zf zg zj zm ze zo zp po) _
      cases h
      exact OEnds.iret hm_28 rfl rfl
theorem ok_isActiveStay_1 {zq zn zl za zd zb zc zk zh zi zf zg : List Int32} {zj zm ze zo zp : Int32} {c0 c1 c2 c3 c4 c5 c6 c7 c8 c9 c10 c11 c12 c13 : ACell} {po : List ACell} {v1 res : Int32} (h : f_isActiveStay za v1 = some res) : OEnds own_P 19 0 [qr 14, qi v1] [] (c0 :: c1 :: c2 :: c3 :: c4 :: c5 :: c6 :: c7 :: c8 :: c9 :: c10 :: c11 :: c12 :: c13 :: bk1 zq zn zl za zd zb zc zk zh zi zf zg zj zm ze zo zp po) (some (.int res), (c0 :: c1 :: c2 :: c3 :: c4 :: c5 :: c6 :: c7 :: c8 :: c9 :: c10 :: c11 :: c12 :: c13 :: bk1 zq zn zl za zd zb zc zk zh zi zf zg zj zm ze zo zp po), 0, 0) := by
  unfold f_isActiveStay at h
  refine OEnds.adv hm_19 1 (pc' := 1) (L' := [qr 14, qi v1]) (S' := [.int v1]) (H' := (c0 :: c1 :: c2 :: c3 :: c4 :: c5 :: c6 :: c7 :: c8 :: c9 :: c10 :: c11 :: c12 :: c13 :: bk1 zq zn zl za zd zb zc zk zh zi zf zg zj zm ze zo zp po)) rfl ?_
  by_cases hc169 : v1 < (0 : Int32)
  · simp only [if_pos hc169] at h
    refine OEnds.ifT hm_19 rfl (q := 10) rfl ((tlt hc169).1) ?_
    refine OEnds.adv hm_19 1 (pc' := 11) (L' := [qr 14, qi v1]) (S' := [.int 0]) (H' := (c0 :: c1 :: c2 :: c3 :: c4 :: c5 :: c6 :: c7 :: c8 :: c9 :: c10 :: c11 :: c12 :: c13 :: bk1 zq zn zl za zd zb zc zk zh zi zf zg zj zm ze zo zp po)) rfl ?_
    cases h
    exact OEnds.iret hm_19 rfl rfl
  · simp only [if_neg hc169] at h
    refine OEnds.ifF hm_19 rfl ((flt hc169).1) ?_
    refine OEnds.adv hm_19 2 (pc' := 7) (L' := [qr 14, qi v1]) (S' := [.int 32, .int v1]) (H' := (c0 :: c1 :: c2 :: c3 :: c4 :: c5 :: c6 :: c7 :: c8 :: c9 :: c10 :: c11 :: c12 :: c13 :: bk1 zq zn zl za zd zb zc zk zh zi zf zg zj zm ze zo zp po)) rfl ?_
    by_cases hc170 : v1 < (32 : Int32)
    · simp only [if_pos hc170] at h
      refine OEnds.icmpT hm_19 rfl (q := 12) rfl ((tlt hc170).1) ?_
      refine OEnds.adv hm_19 3 (pc' := 17) (L' := [qr 14, qi v1]) (S' := [.int v1, .ref 18]) (H' := (c0 :: c1 :: c2 :: c3 :: c4 :: c5 :: c6 :: c7 :: c8 :: c9 :: c10 :: c11 :: c12 :: c13 :: bk1 zq zn zl za zd zb zc zk zh zi zf zg zj zm ze zo zp po)) rfl ?_
      obtain ⟨x46, hx46, h⟩ := bnd h
      refine OEnds.plain hm_19 rfl rfl (x_baload rfl hx46) ?_
      show OEnds own_P 19 18 [qr 14, qi v1] [.int x46] (c0 :: c1 :: c2 :: c3 :: c4 :: c5 :: c6 :: c7 :: c8 :: c9 :: c10 :: c11 :: c12 :: c13 :: bk1 zq zn zl za zd zb zc zk zh zi zf zg zj zm ze zo zp po) _
      cases h
      exact OEnds.iret hm_19 rfl rfl
    · simp only [if_neg hc170] at h
      refine OEnds.icmpF hm_19 rfl ((flt hc170).1) ?_
      refine OEnds.adv hm_19 1 (pc' := 11) (L' := [qr 14, qi v1]) (S' := [.int 0]) (H' := (c0 :: c1 :: c2 :: c3 :: c4 :: c5 :: c6 :: c7 :: c8 :: c9 :: c10 :: c11 :: c12 :: c13 :: bk1 zq zn zl za zd zb zc zk zh zi zf zg zj zm ze zo zp po)) rfl ?_
      cases h
      exact OEnds.iret hm_19 rfl rfl
theorem ok_coversNight_1 {zq zn zl za zd zb zc zk zh zi zf zg : List Int32} {zj zm ze zo zp : Int32} {c0 c1 c2 c3 c4 c5 c6 c7 c8 c9 c10 c11 c12 c13 : ACell} {po : List ACell} {v1 v2 res : Int32} (h : f_coversNight za zb zc v1 v2 = some res) : OEnds own_P 43 0 [qr 14, qi v1, qi v2, qu] [] (c0 :: c1 :: c2 :: c3 :: c4 :: c5 :: c6 :: c7 :: c8 :: c9 :: c10 :: c11 :: c12 :: c13 :: bk1 zq zn zl za zd zb zc zk zh zi zf zg zj zm ze zo zp po) (some (.int res), (c0 :: c1 :: c2 :: c3 :: c4 :: c5 :: c6 :: c7 :: c8 :: c9 :: c10 :: c11 :: c12 :: c13 :: bk1 zq zn zl za zd zb zc zk zh zi zf zg zj zm ze zo zp po), 0, 0) := by
  unfold f_coversNight at h
  refine OEnds.adv hm_43 2 (pc' := 2) (L' := [qr 14, qi v1, qi v2, qu]) (S' := [.int v1, .ref 14]) (H' := (c0 :: c1 :: c2 :: c3 :: c4 :: c5 :: c6 :: c7 :: c8 :: c9 :: c10 :: c11 :: c12 :: c13 :: bk1 zq zn zl za zd zb zc zk zh zi zf zg zj zm ze zo zp po)) rfl ?_
  obtain ⟨r47, hq171, h⟩ := bnd h
  refine OEnds.call0 hm_43 rfl rfl (by decide) rfl (as := [.ref 14, .int v1]) (rest := []) rfl rfl (ok_isActiveStay_1 hq171) ?_
  show OEnds own_P 43 5 [qr 14, qi v1, qi v2, qu] [.int r47] (c0 :: c1 :: c2 :: c3 :: c4 :: c5 :: c6 :: c7 :: c8 :: c9 :: c10 :: c11 :: c12 :: c13 :: bk1 zq zn zl za zd zb zc zk zh zi zf zg zj zm ze zo zp po) _
  by_cases hc172 : r47 = (0 : Int32)
  · simp only [if_pos hc172] at h
    refine OEnds.ifF hm_43 rfl ((teq hc172).2) ?_
    refine OEnds.adv hm_43 1 (pc' := 9) (L' := [qr 14, qi v1, qi v2, qu]) (S' := [.int 0]) (H' := (c0 :: c1 :: c2 :: c3 :: c4 :: c5 :: c6 :: c7 :: c8 :: c9 :: c10 :: c11 :: c12 :: c13 :: bk1 zq zn zl za zd zb zc zk zh zi zf zg zj zm ze zo zp po)) rfl ?_
    cases h
    exact OEnds.iret hm_43 rfl rfl
  · simp only [if_neg hc172] at h
    refine OEnds.ifT hm_43 rfl (q := 10) rfl ((feq hc172).2) ?_
    refine OEnds.adv hm_43 3 (pc' := 15) (L' := [qr 14, qi v1, qi v2, qu]) (S' := [.int v1, .ref 20]) (H' := (c0 :: c1 :: c2 :: c3 :: c4 :: c5 :: c6 :: c7 :: c8 :: c9 :: c10 :: c11 :: c12 :: c13 :: bk1 zq zn zl za zd zb zc zk zh zi zf zg zj zm ze zo zp po)) rfl ?_
    obtain ⟨x48, hx48, h⟩ := bnd h
    refine OEnds.plain hm_43 rfl rfl (x_iaload rfl hx48) ?_
    refine OEnds.adv hm_43 3 (pc' := 19) (L' := [qr 14, qi v1, qi v2, qi x48]) (S' := [.int x48, .int v2]) (H' := (c0 :: c1 :: c2 :: c3 :: c4 :: c5 :: c6 :: c7 :: c8 :: c9 :: c10 :: c11 :: c12 :: c13 :: bk1 zq zn zl za zd zb zc zk zh zi zf zg zj zm ze zo zp po)) rfl ?_
    by_cases hc173 : v2 < x48
    · simp only [if_pos hc173] at h
      refine OEnds.icmpT hm_43 rfl (q := 38) rfl ((tlt hc173).1) ?_
      refine OEnds.adv hm_43 1 (pc' := 39) (L' := [qr 14, qi v1, qi v2, qi x48]) (S' := [.int 0]) (H' := (c0 :: c1 :: c2 :: c3 :: c4 :: c5 :: c6 :: c7 :: c8 :: c9 :: c10 :: c11 :: c12 :: c13 :: bk1 zq zn zl za zd zb zc zk zh zi zf zg zj zm ze zo zp po)) rfl ?_
      cases h
      exact OEnds.iret hm_43 rfl rfl
    · simp only [if_neg hc173] at h
      refine OEnds.icmpF hm_43 rfl ((flt hc173).1) ?_
      refine OEnds.adv hm_43 6 (pc' := 30) (L' := [qr 14, qi v1, qi v2, qi x48]) (S' := [.int v1, .ref 21, .int (v2 - x48)]) (H' := (c0 :: c1 :: c2 :: c3 :: c4 :: c5 :: c6 :: c7 :: c8 :: c9 :: c10 :: c11 :: c12 :: c13 :: bk1 zq zn zl za zd zb zc zk zh zi zf zg zj zm ze zo zp po)) rfl ?_
      obtain ⟨x49, hx49, h⟩ := bnd h
      refine OEnds.plain hm_43 rfl rfl (x_iaload rfl hx49) ?_
      show OEnds own_P 43 31 [qr 14, qi v1, qi v2, qi x48] [.int x49, .int (v2 - x48)] (c0 :: c1 :: c2 :: c3 :: c4 :: c5 :: c6 :: c7 :: c8 :: c9 :: c10 :: c11 :: c12 :: c13 :: bk1 zq zn zl za zd zb zc zk zh zi zf zg zj zm ze zo zp po) _
      by_cases hc174 : (v2 - x48) < x49
      · simp only [if_pos hc174] at h
        refine OEnds.icmpF hm_43 rfl ((tlt hc174).2.1) ?_
        refine OEnds.adv hm_43 2 (pc' := 39) (L' := [qr 14, qi v1, qi v2, qi x48]) (S' := [.int 1]) (H' := (c0 :: c1 :: c2 :: c3 :: c4 :: c5 :: c6 :: c7 :: c8 :: c9 :: c10 :: c11 :: c12 :: c13 :: bk1 zq zn zl za zd zb zc zk zh zi zf zg zj zm ze zo zp po)) rfl ?_
        cases h
        exact OEnds.iret hm_43 rfl rfl
      · simp only [if_neg hc174] at h
        refine OEnds.icmpT hm_43 rfl (q := 38) rfl ((flt hc174).2.1) ?_
        refine OEnds.adv hm_43 1 (pc' := 39) (L' := [qr 14, qi v1, qi v2, qi x48]) (S' := [.int 0]) (H' := (c0 :: c1 :: c2 :: c3 :: c4 :: c5 :: c6 :: c7 :: c8 :: c9 :: c10 :: c11 :: c12 :: c13 :: bk1 zq zn zl za zd zb zc zk zh zi zf zg zj zm ze zo zp po)) rfl ?_
        cases h
        exact OEnds.iret hm_43 rfl rfl
theorem ok_exclusion_1 {zq zn zl za zd zb zc zk zh zi zf zg : List Int32} {zj zm ze zo zp : Int32} {c0 c1 c2 c3 c4 c5 c6 c7 c8 c9 c10 c11 c12 c13 : ACell} {po : List ACell} {v1 v2 v3 res : Int32} (h : f_exclusion za zd zb zc v1 v2 v3 = some res) : OEnds own_P 29 0 [qr 14, qi v1, qi v2, qi v3] [] (c0 :: c1 :: c2 :: c3 :: c4 :: c5 :: c6 :: c7 :: c8 :: c9 :: c10 :: c11 :: c12 :: c13 :: bk1 zq zn zl za zd zb zc zk zh zi zf zg zj zm ze zo zp po) (some (.int res), (c0 :: c1 :: c2 :: c3 :: c4 :: c5 :: c6 :: c7 :: c8 :: c9 :: c10 :: c11 :: c12 :: c13 :: bk1 zq zn zl za zd zb zc zk zh zi zf zg zj zm ze zo zp po), 0, 0) := by
  unfold f_exclusion at h
  refine OEnds.adv hm_29 2 (pc' := 2) (L' := [qr 14, qi v1, qi v2, qi v3]) (S' := [.int v1, .ref 14]) (H' := (c0 :: c1 :: c2 :: c3 :: c4 :: c5 :: c6 :: c7 :: c8 :: c9 :: c10 :: c11 :: c12 :: c13 :: bk1 zq zn zl za zd zb zc zk zh zi zf zg zj zm ze zo zp po)) rfl ?_
  obtain ⟨r50, hq175, h⟩ := bnd h
  refine OEnds.call0 hm_29 rfl rfl (by decide) rfl (as := [.ref 14, .int v1]) (rest := []) rfl rfl (ok_isActiveStay_1 hq175) ?_
  show OEnds own_P 29 5 [qr 14, qi v1, qi v2, qi v3] [.int r50] (c0 :: c1 :: c2 :: c3 :: c4 :: c5 :: c6 :: c7 :: c8 :: c9 :: c10 :: c11 :: c12 :: c13 :: bk1 zq zn zl za zd zb zc zk zh zi zf zg zj zm ze zo zp po) _
  by_cases hc176 : r50 = (0 : Int32)
  · simp only [if_pos hc176] at h
    refine OEnds.ifF hm_29 rfl ((teq hc176).2) ?_
    refine OEnds.adv hm_29 1 (pc' := 9) (L' := [qr 14, qi v1, qi v2, qi v3]) (S' := [.int 0]) (H' := (c0 :: c1 :: c2 :: c3 :: c4 :: c5 :: c6 :: c7 :: c8 :: c9 :: c10 :: c11 :: c12 :: c13 :: bk1 zq zn zl za zd zb zc zk zh zi zf zg zj zm ze zo zp po)) rfl ?_
    cases h
    exact OEnds.iret hm_29 rfl rfl
  · simp only [if_neg hc176] at h
    refine OEnds.ifT hm_29 rfl (q := 10) rfl ((feq hc176).2) ?_
    refine OEnds.adv hm_29 3 (pc' := 15) (L' := [qr 14, qi v1, qi v2, qi v3]) (S' := [.int v1, .ref 19]) (H' := (c0 :: c1 :: c2 :: c3 :: c4 :: c5 :: c6 :: c7 :: c8 :: c9 :: c10 :: c11 :: c12 :: c13 :: bk1 zq zn zl za zd zb zc zk zh zi zf zg zj zm ze zo zp po)) rfl ?_
    obtain ⟨x51, hx51, h⟩ := bnd h
    refine OEnds.plain hm_29 rfl rfl (x_iaload rfl hx51) ?_
    refine OEnds.adv hm_29 1 (pc' := 17) (L' := [qr 14, qi v1, qi v2, qi v3]) (S' := [.int v2, .int x51]) (H' := (c0 :: c1 :: c2 :: c3 :: c4 :: c5 :: c6 :: c7 :: c8 :: c9 :: c10 :: c11 :: c12 :: c13 :: bk1 zq zn zl za zd zb zc zk zh zi zf zg zj zm ze zo zp po)) rfl ?_
    by_cases hc177 : x51 < v2
    · simp only [if_pos hc177] at h
      refine OEnds.icmpF hm_29 rfl ((tlt hc177).2.1) ?_
      refine OEnds.adv hm_29 1 (pc' := 21) (L' := [qr 14, qi v1, qi v2, qi v3]) (S' := [.int 0]) (H' := (c0 :: c1 :: c2 :: c3 :: c4 :: c5 :: c6 :: c7 :: c8 :: c9 :: c10 :: c11 :: c12 :: c13 :: bk1 zq zn zl za zd zb zc zk zh zi zf zg zj zm ze zo zp po)) rfl ?_
      cases h
      exact OEnds.iret hm_29 rfl rfl
    · simp only [if_neg hc177] at h
      refine OEnds.icmpT hm_29 rfl (q := 22) rfl ((flt hc177).2.1) ?_
      refine OEnds.adv hm_29 3 (pc' := 25) (L' := [qr 14, qi v1, qi v2, qi v3]) (S' := [.int v3, .int v1, .ref 14]) (H' := (c0 :: c1 :: c2 :: c3 :: c4 :: c5 :: c6 :: c7 :: c8 :: c9 :: c10 :: c11 :: c12 :: c13 :: bk1 zq zn zl za zd zb zc zk zh zi zf zg zj zm ze zo zp po)) rfl ?_
      obtain ⟨r52, hq178, h⟩ := bnd h
      refine OEnds.call0 hm_29 rfl rfl (by decide) rfl (as := [.ref 14, .int v1, .int v3]) (rest := []) rfl rfl (ok_coversNight_1 hq178) ?_
      show OEnds own_P 29 28 [qr 14, qi v1, qi v2, qi v3] [.int r52] (c0 :: c1 :: c2 :: c3 :: c4 :: c5 :: c6 :: c7 :: c8 :: c9 :: c10 :: c11 :: c12 :: c13 :: bk1 zq zn zl za zd zb zc zk zh zi zf zg zj zm ze zo zp po) _
      by_cases hc179 : r52 = (0 : Int32)
      · simp only [if_pos hc179] at h
        refine OEnds.ifT hm_29 rfl (q := 33) rfl ((teq hc179).1) ?_
        refine OEnds.adv hm_29 1 (pc' := 34) (L' := [qr 14, qi v1, qi v2, qi v3]) (S' := [.int 0]) (H' := (c0 :: c1 :: c2 :: c3 :: c4 :: c5 :: c6 :: c7 :: c8 :: c9 :: c10 :: c11 :: c12 :: c13 :: bk1 zq zn zl za zd zb zc zk zh zi zf zg zj zm ze zo zp po)) rfl ?_
        cases h
        exact OEnds.iret hm_29 rfl rfl
      · simp only [if_neg hc179] at h
        refine OEnds.ifF hm_29 rfl ((feq hc179).1) ?_
        refine OEnds.adv hm_29 1 (pc' := 32) (L' := [qr 14, qi v1, qi v2, qi v3]) (S' := [.int 1]) (H' := (c0 :: c1 :: c2 :: c3 :: c4 :: c5 :: c6 :: c7 :: c8 :: c9 :: c10 :: c11 :: c12 :: c13 :: bk1 zq zn zl za zd zb zc zk zh zi zf zg zj zm ze zo zp po)) rfl ?_
        cases h
        exact OEnds.iret hm_29 rfl rfl
theorem ok_nightFits_3_1 {zq zn zl za zd zb zc zk zh zi zf zg : List Int32} {zj zm ze zo zp : Int32} {c0 c1 c2 c3 c4 c5 c6 c7 c8 c9 c10 c11 c12 c13 : ACell} {po : List ACell} : ∀ (n : Nat), ∀ {v1 v2 v3 v4 : Int32} {d5 d6 d7 : Slot} {res : Int32}, f_nightFits_3 zn za zd zb zc zh n v1 v2 v3 v4 = some res → OEnds own_P 27 3 [qr 14, qi v1, qi v2, qi v3, qi v4, d5, d6, d7] [] (c0 :: c1 :: c2 :: c3 :: c4 :: c5 :: c6 :: c7 :: c8 :: c9 :: c10 :: c11 :: c12 :: c13 :: bk1 zq zn zl za zd zb zc zk zh zi zf zg zj zm ze zo zp po) (some (.int res), (c0 :: c1 :: c2 :: c3 :: c4 :: c5 :: c6 :: c7 :: c8 :: c9 :: c10 :: c11 :: c12 :: c13 :: bk1 zq zn zl za zd zb zc zk zh zi zf zg zj zm ze zo zp po), 0, 0) := by
  intro n
  induction n with
  | zero => intro v1 v2 v3 v4 d5 d6 d7 res h; cases h
  | succ n ih =>
    intro v1 v2 v3 v4 d5 d6 d7 res h
    unfold f_nightFits_3 at h
    refine OEnds.adv hm_27 2 (pc' := 6) (L' := [qr 14, qi v1, qi v2, qi v3, qi v4, qu, qu, qu]) (S' := [.int v2, .int v4]) (H' := (c0 :: c1 :: c2 :: c3 :: c4 :: c5 :: c6 :: c7 :: c8 :: c9 :: c10 :: c11 :: c12 :: c13 :: bk1 zq zn zl za zd zb zc zk zh zi zf zg zj zm ze zo zp po)) rfl ?_
    by_cases hc180 : v2 < v4
    · simp only [if_pos hc180] at h
      refine OEnds.icmpT hm_27 rfl (q := 63) rfl ((tlt hc180).2.2.1) ?_
      refine OEnds.adv hm_27 1 (pc' := 64) (L' := [qr 14, qi v1, qi v2, qi v3, qi v4, qu, qu, qu]) (S' := [.int 1]) (H' := (c0 :: c1 :: c2 :: c3 :: c4 :: c5 :: c6 :: c7 :: c8 :: c9 :: c10 :: c11 :: c12 :: c13 :: bk1 zq zn zl za zd zb zc zk zh zi zf zg zj zm ze zo zp po)) rfl ?_
      cases h
      exact OEnds.iret hm_27 rfl rfl
    · simp only [if_neg hc180] at h
      refine OEnds.icmpF hm_27 rfl ((flt hc180).2.2.1) ?_
      refine OEnds.adv hm_27 2 (pc' := 12) (L' := [qr 14, qi v1, qi v2, qi v3, qi v4, qu, qu, qu]) (S' := [.int 3, .int v4]) (H' := (c0 :: c1 :: c2 :: c3 :: c4 :: c5 :: c6 :: c7 :: c8 :: c9 :: c10 :: c11 :: c12 :: c13 :: bk1 zq zn zl za zd zb zc zk zh zi zf zg zj zm ze zo zp po)) rfl ?_
      by_cases hc181 : v4 < (3 : Int32)
      · simp only [if_pos hc181] at h
        refine OEnds.icmpF hm_27 rfl ((tlt hc181).2.1) ?_
        refine OEnds.adv hm_27 3 (pc' := 19) (L' := [qr 14, qi v1, qi v2, qi v3, qi v4, qu, qu, qu]) (S' := [.int v3, .int v4, .ref 14]) (H' := (c0 :: c1 :: c2 :: c3 :: c4 :: c5 :: c6 :: c7 :: c8 :: c9 :: c10 :: c11 :: c12 :: c13 :: bk1 zq zn zl za zd zb zc zk zh zi zf zg zj zm ze zo zp po)) rfl ?_
        obtain ⟨r53, hq182, h⟩ := bnd h
        refine OEnds.call0 hm_27 rfl rfl (by decide) rfl (as := [.ref 14, .int v4, .int v3]) (rest := []) rfl rfl (ok_atLeastAt_1 hq182) ?_
        refine OEnds.adv hm_27 5 (pc' := 29) (L' := [qr 14, qi v1, qi v2, qi v3, qi v4, qi r53, qu, qu]) (S' := [.int v3, .int v4, .int v1, .ref 14]) (H' := (c0 :: c1 :: c2 :: c3 :: c4 :: c5 :: c6 :: c7 :: c8 :: c9 :: c10 :: c11 :: c12 :: c13 :: bk1 zq zn zl za zd zb zc zk zh zi zf zg zj zm ze zo zp po)) rfl ?_
        obtain ⟨r54, hq183, h⟩ := bnd h
        refine OEnds.call0 hm_27 rfl rfl (by decide) rfl (as := [.ref 14, .int v1, .int v4, .int v3]) (rest := []) rfl rfl (ok_exclusion_1 hq183) ?_
        refine OEnds.adv hm_27 11 (pc' := 51) (L' := [qr 14, qi v1, qi v2, qi v3, qi v4, qi r53, qi r54, qi ((r53 - r54) + (1 : Int32))]) (S' := [.int v4, .ref 16, .int ((r53 - r54) + (1 : Int32))]) (H' := (c0 :: c1 :: c2 :: c3 :: c4 :: c5 :: c6 :: c7 :: c8 :: c9 :: c10 :: c11 :: c12 :: c13 :: bk1 zq zn zl za zd zb zc zk zh zi zf zg zj zm ze zo zp po)) rfl ?_
        obtain ⟨x55, hx55, h⟩ := bnd h
        refine OEnds.plain hm_27 rfl rfl (x_iaload rfl hx55) ?_
        show OEnds own_P 27 52 [qr 14, qi v1, qi v2, qi v3, qi v4, qi r53, qi r54, qi ((r53 - r54) + (1 : Int32))] [.int x55, .int ((r53 - r54) + (1 : Int32))] (c0 :: c1 :: c2 :: c3 :: c4 :: c5 :: c6 :: c7 :: c8 :: c9 :: c10 :: c11 :: c12 :: c13 :: bk1 zq zn zl za zd zb zc zk zh zi zf zg zj zm ze zo zp po) _
        by_cases hc184 : x55 < ((r53 - r54) + (1 : Int32))
        · simp only [if_pos hc184] at h
          refine OEnds.icmpF hm_27 rfl ((tlt hc184).2.2.2) ?_
          refine OEnds.adv hm_27 1 (pc' := 56) (L' := [qr 14, qi v1, qi v2, qi v3, qi v4, qi r53, qi r54, qi ((r53 - r54) + (1 : Int32))]) (S' := [.int 0]) (H' := (c0 :: c1 :: c2 :: c3 :: c4 :: c5 :: c6 :: c7 :: c8 :: c9 :: c10 :: c11 :: c12 :: c13 :: bk1 zq zn zl za zd zb zc zk zh zi zf zg zj zm ze zo zp po)) rfl ?_
          cases h
          exact OEnds.iret hm_27 rfl rfl
        · simp only [if_neg hc184] at h
          refine OEnds.icmpT hm_27 rfl (q := 57) rfl ((flt hc184).2.2.2) ?_
          refine OEnds.adv hm_27 2 (pc' := 3) (L' := [qr 14, qi v1, qi v2, qi v3, qi (v4 + (1 : Int32)), qi r53, qi r54, qi ((r53 - r54) + (1 : Int32))]) (S' := []) (H' := (c0 :: c1 :: c2 :: c3 :: c4 :: c5 :: c6 :: c7 :: c8 :: c9 :: c10 :: c11 :: c12 :: c13 :: bk1 zq zn zl za zd zb zc zk zh zi zf zg zj zm ze zo zp po)) rfl ?_
          exact ih h
      · simp only [if_neg hc181] at h
        refine OEnds.icmpT hm_27 rfl (q := 63) rfl ((flt hc181).2.1) ?_
        refine OEnds.adv hm_27 1 (pc' := 64) (L' := [qr 14, qi v1, qi v2, qi v3, qi v4, qu, qu, qu]) (S' := [.int 1]) (H' := (c0 :: c1 :: c2 :: c3 :: c4 :: c5 :: c6 :: c7 :: c8 :: c9 :: c10 :: c11 :: c12 :: c13 :: bk1 zq zn zl za zd zb zc zk zh zi zf zg zj zm ze zo zp po)) rfl ?_
        cases h
        exact OEnds.iret hm_27 rfl rfl
theorem ok_nightFits_1 {zq zn zl za zd zb zc zk zh zi zf zg : List Int32} {zj zm ze zo zp : Int32} {c0 c1 c2 c3 c4 c5 c6 c7 c8 c9 c10 c11 c12 c13 : ACell} {po : List ACell} {v1 v2 v3 res : Int32} (h : f_nightFits zn za zd zb zc zh v1 v2 v3 = some res) : OEnds own_P 27 0 [qr 14, qi v1, qi v2, qi v3, qu, qu, qu, qu] [] (c0 :: c1 :: c2 :: c3 :: c4 :: c5 :: c6 :: c7 :: c8 :: c9 :: c10 :: c11 :: c12 :: c13 :: bk1 zq zn zl za zd zb zc zk zh zi zf zg zj zm ze zo zp po) (some (.int res), (c0 :: c1 :: c2 :: c3 :: c4 :: c5 :: c6 :: c7 :: c8 :: c9 :: c10 :: c11 :: c12 :: c13 :: bk1 zq zn zl za zd zb zc zk zh zi zf zg zj zm ze zo zp po), 0, 0) := by
  unfold f_nightFits at h
  refine OEnds.adv hm_27 2 (pc' := 3) (L' := [qr 14, qi v1, qi v2, qi v3, qi 0, qu, qu, qu]) (S' := []) (H' := (c0 :: c1 :: c2 :: c3 :: c4 :: c5 :: c6 :: c7 :: c8 :: c9 :: c10 :: c11 :: c12 :: c13 :: bk1 zq zn zl za zd zb zc zk zh zi zf zg zj zm ze zo zp po)) rfl ?_
  exact ok_nightFits_3_1 100000 h
theorem ok_fitsWith_12_1 {zq zn zl za zd zb zc zk zh zi zf zg : List Int32} {zj zm ze zo zp : Int32} {c0 c1 c2 c3 c4 c5 c6 c7 c8 c9 c10 c11 c12 c13 : ACell} {po : List ACell} : ∀ (n : Nat), ∀ {v1 v2 v5 v6 : Int32} {d3 d4 : Slot} {res : Int32}, f_fitsWith_12 zn za zd zb zc zh n v1 v2 v5 v6 = some res → OEnds own_P 25 12 [qr 14, qi v1, qi v2, d3, d4, qi v5, qi v6] [] (c0 :: c1 :: c2 :: c3 :: c4 :: c5 :: c6 :: c7 :: c8 :: c9 :: c10 :: c11 :: c12 :: c13 :: bk1 zq zn zl za zd zb zc zk zh zi zf zg zj zm ze zo zp po) (some (.int res), (c0 :: c1 :: c2 :: c3 :: c4 :: c5 :: c6 :: c7 :: c8 :: c9 :: c10 :: c11 :: c12 :: c13 :: bk1 zq zn zl za zd zb zc zk zh zi zf zg zj zm ze zo zp po), 0, 0) := by
  intro n
  induction n with
  | zero => intro v1 v2 v5 v6 d3 d4 res h; cases h
  | succ n ih =>
    intro v1 v2 v5 v6 d3 d4 res h
    unfold f_fitsWith_12 at h
    refine OEnds.adv hm_25 1 (pc' := 14) (L' := [qr 14, qi v1, qi v2, qu, qu, qi v5, qi v6]) (S' := [.int v6]) (H' := (c0 :: c1 :: c2 :: c3 :: c4 :: c5 :: c6 :: c7 :: c8 :: c9 :: c10 :: c11 :: c12 :: c13 :: bk1 zq zn zl za zd zb zc zk zh zi zf zg zj zm ze zo zp po)) rfl ?_
    by_cases hc185 : v6 < (0 : Int32)
    · simp only [if_pos hc185] at h
      refine OEnds.ifT hm_25 rfl (q := 43) rfl ((tlt hc185).1) ?_
      refine OEnds.adv hm_25 1 (pc' := 44) (L' := [qr 14, qi v1, qi v2, qu, qu, qi v5, qi v6]) (S' := [.int 1]) (H' := (c0 :: c1 :: c2 :: c3 :: c4 :: c5 :: c6 :: c7 :: c8 :: c9 :: c10 :: c11 :: c12 :: c13 :: bk1 zq zn zl za zd zb zc zk zh zi zf zg zj zm ze zo zp po)) rfl ?_
      cases h
      exact OEnds.iret hm_25 rfl rfl
    · simp only [if_neg hc185] at h
      refine OEnds.ifF hm_25 rfl ((flt hc185).1) ?_
      refine OEnds.adv hm_25 2 (pc' := 21) (L' := [qr 14, qi v1, qi v2, qu, qu, qi v5, qi v6]) (S' := [.int v5, .int v6]) (H' := (c0 :: c1 :: c2 :: c3 :: c4 :: c5 :: c6 :: c7 :: c8 :: c9 :: c10 :: c11 :: c12 :: c13 :: bk1 zq zn zl za zd zb zc zk zh zi zf zg zj zm ze zo zp po)) rfl ?_
      by_cases hc186 : v6 < v5
      · simp only [if_pos hc186] at h
        refine OEnds.icmpF hm_25 rfl ((tlt hc186).2.1) ?_
        refine OEnds.adv hm_25 4 (pc' := 29) (L' := [qr 14, qi v1, qi v2, qu, qu, qi v5, qi v6]) (S' := [.int v6, .int v2, .int v1, .ref 14]) (H' := (c0 :: c1 :: c2 :: c3 :: c4 :: c5 :: c6 :: c7 :: c8 :: c9 :: c10 :: c11 :: c12 :: c13 :: bk1 zq zn zl za zd zb zc zk zh zi zf zg zj zm ze zo zp po)) rfl ?_
        obtain ⟨r57, hq187, h⟩ := bnd h
        refine OEnds.call0 hm_25 rfl rfl (by decide) rfl (as := [.ref 14, .int v1, .int v2, .int v6]) (rest := []) rfl rfl (ok_nightFits_1 hq187) ?_
        show OEnds own_P 25 32 [qr 14, qi v1, qi v2, qu, qu, qi v5, qi v6] [.int r57] (c0 :: c1 :: c2 :: c3 :: c4 :: c5 :: c6 :: c7 :: c8 :: c9 :: c10 :: c11 :: c12 :: c13 :: bk1 zq zn zl za zd zb zc zk zh zi zf zg zj zm ze zo zp po) _
        by_cases hc188 : r57 = (0 : Int32)
        · simp only [if_pos hc188] at h
          refine OEnds.ifF hm_25 rfl ((teq hc188).2) ?_
          refine OEnds.adv hm_25 1 (pc' := 36) (L' := [qr 14, qi v1, qi v2, qu, qu, qi v5, qi v6]) (S' := [.int 0]) (H' := (c0 :: c1 :: c2 :: c3 :: c4 :: c5 :: c6 :: c7 :: c8 :: c9 :: c10 :: c11 :: c12 :: c13 :: bk1 zq zn zl za zd zb zc zk zh zi zf zg zj zm ze zo zp po)) rfl ?_
          cases h
          exact OEnds.iret hm_25 rfl rfl
        · simp only [if_neg hc188] at h
          refine OEnds.ifT hm_25 rfl (q := 37) rfl ((feq hc188).2) ?_
          refine OEnds.adv hm_25 2 (pc' := 12) (L' := [qr 14, qi v1, qi v2, qu, qu, qi v5, qi (v6 + (1 : Int32))]) (S' := []) (H' := (c0 :: c1 :: c2 :: c3 :: c4 :: c5 :: c6 :: c7 :: c8 :: c9 :: c10 :: c11 :: c12 :: c13 :: bk1 zq zn zl za zd zb zc zk zh zi zf zg zj zm ze zo zp po)) rfl ?_
          exact ih h
      · simp only [if_neg hc186] at h
        refine OEnds.icmpT hm_25 rfl (q := 43) rfl ((flt hc186).2.1) ?_
        refine OEnds.adv hm_25 1 (pc' := 44) (L' := [qr 14, qi v1, qi v2, qu, qu, qi v5, qi v6]) (S' := [.int 1]) (H' := (c0 :: c1 :: c2 :: c3 :: c4 :: c5 :: c6 :: c7 :: c8 :: c9 :: c10 :: c11 :: c12 :: c13 :: bk1 zq zn zl za zd zb zc zk zh zi zf zg zj zm ze zo zp po)) rfl ?_
        cases h
        exact OEnds.iret hm_25 rfl rfl
theorem ok_fitsWith_1 {zq zn zl za zd zb zc zk zh zi zf zg : List Int32} {zj zm ze zo zp : Int32} {c0 c1 c2 c3 c4 c5 c6 c7 c8 c9 c10 c11 c12 c13 : ACell} {po : List ACell} {v1 v2 v3 v4 res : Int32} (h : f_fitsWith zn za zd zb zc zh v1 v2 v3 v4 = some res) : OEnds own_P 25 0 [qr 14, qi v1, qi v2, qi v3, qi v4, qu, qu] [] (c0 :: c1 :: c2 :: c3 :: c4 :: c5 :: c6 :: c7 :: c8 :: c9 :: c10 :: c11 :: c12 :: c13 :: bk1 zq zn zl za zd zb zc zk zh zi zf zg zj zm ze zo zp po) (some (.int res), (c0 :: c1 :: c2 :: c3 :: c4 :: c5 :: c6 :: c7 :: c8 :: c9 :: c10 :: c11 :: c12 :: c13 :: bk1 zq zn zl za zd zb zc zk zh zi zf zg zj zm ze zo zp po), 0, 0) := by
  unfold f_fitsWith at h
  refine OEnds.adv hm_25 3 (pc' := 4) (L' := [qr 14, qi v1, qi v2, qi v3, qi v4, qu, qu]) (S' := [.int v4, .int v3, .ref 14]) (H' := (c0 :: c1 :: c2 :: c3 :: c4 :: c5 :: c6 :: c7 :: c8 :: c9 :: c10 :: c11 :: c12 :: c13 :: bk1 zq zn zl za zd zb zc zk zh zi zf zg zj zm ze zo zp po)) rfl ?_
  obtain ⟨r56, hq189, h⟩ := bnd h
  refine OEnds.call0 hm_25 rfl rfl (by decide) rfl (as := [.ref 14, .int v3, .int v4]) (rest := []) rfl rfl (ok_endOf_1 hq189) ?_
  refine OEnds.adv hm_25 3 (pc' := 12) (L' := [qr 14, qi v1, qi v2, qi v3, qi v4, qi r56, qi v3]) (S' := []) (H' := (c0 :: c1 :: c2 :: c3 :: c4 :: c5 :: c6 :: c7 :: c8 :: c9 :: c10 :: c11 :: c12 :: c13 :: bk1 zq zn zl za zd zb zc zk zh zi zf zg zj zm ze zo zp po)) rfl ?_
  exact ok_fitsWith_12_1 100000 h
theorem ok_lowestInactiveSlot_2_1 {zq zn zl za zd zb zc zk zh zi zf zg : List Int32} {zj zm ze zo zp : Int32} {c0 c1 c2 c3 c4 c5 c6 c7 c8 c9 c10 c11 c12 c13 : ACell} {po : List ACell} : ∀ (n : Nat), ∀ {v1 : Int32} {res : Int32}, f_lowestInactiveSlot_2 za n v1 = some res → OEnds own_P 30 2 [qr 14, qi v1] [] (c0 :: c1 :: c2 :: c3 :: c4 :: c5 :: c6 :: c7 :: c8 :: c9 :: c10 :: c11 :: c12 :: c13 :: bk1 zq zn zl za zd zb zc zk zh zi zf zg zj zm ze zo zp po) (some (.int res), (c0 :: c1 :: c2 :: c3 :: c4 :: c5 :: c6 :: c7 :: c8 :: c9 :: c10 :: c11 :: c12 :: c13 :: bk1 zq zn zl za zd zb zc zk zh zi zf zg zj zm ze zo zp po), 0, 0) := by
  intro n
  induction n with
  | zero => intro v1 res h; cases h
  | succ n ih =>
    intro v1 res h
    unfold f_lowestInactiveSlot_2 at h
    refine OEnds.adv hm_30 2 (pc' := 5) (L' := [qr 14, qi v1]) (S' := [.int 32, .int v1]) (H' := (c0 :: c1 :: c2 :: c3 :: c4 :: c5 :: c6 :: c7 :: c8 :: c9 :: c10 :: c11 :: c12 :: c13 :: bk1 zq zn zl za zd zb zc zk zh zi zf zg zj zm ze zo zp po)) rfl ?_
    by_cases hc190 : v1 < (32 : Int32)
    · simp only [if_pos hc190] at h
      refine OEnds.icmpF hm_30 rfl ((tlt hc190).2.1) ?_
      refine OEnds.adv hm_30 3 (pc' := 13) (L' := [qr 14, qi v1]) (S' := [.int v1, .ref 18]) (H' := (c0 :: c1 :: c2 :: c3 :: c4 :: c5 :: c6 :: c7 :: c8 :: c9 :: c10 :: c11 :: c12 :: c13 :: bk1 zq zn zl za zd zb zc zk zh zi zf zg zj zm ze zo zp po)) rfl ?_
      obtain ⟨x58, hx58, h⟩ := bnd h
      refine OEnds.plain hm_30 rfl rfl (x_baload rfl hx58) ?_
      show OEnds own_P 30 14 [qr 14, qi v1] [.int x58] (c0 :: c1 :: c2 :: c3 :: c4 :: c5 :: c6 :: c7 :: c8 :: c9 :: c10 :: c11 :: c12 :: c13 :: bk1 zq zn zl za zd zb zc zk zh zi zf zg zj zm ze zo zp po) _
      by_cases hc191 : x58 = (0 : Int32)
      · simp only [if_pos hc191] at h
        refine OEnds.ifF hm_30 rfl ((teq hc191).2) ?_
        refine OEnds.adv hm_30 1 (pc' := 18) (L' := [qr 14, qi v1]) (S' := [.int v1]) (H' := (c0 :: c1 :: c2 :: c3 :: c4 :: c5 :: c6 :: c7 :: c8 :: c9 :: c10 :: c11 :: c12 :: c13 :: bk1 zq zn zl za zd zb zc zk zh zi zf zg zj zm ze zo zp po)) rfl ?_
        cases h
        exact OEnds.iret hm_30 rfl rfl
      · simp only [if_neg hc191] at h
        refine OEnds.ifT hm_30 rfl (q := 19) rfl ((feq hc191).2) ?_
        refine OEnds.adv hm_30 2 (pc' := 2) (L' := [qr 14, qi (v1 + (1 : Int32))]) (S' := []) (H' := (c0 :: c1 :: c2 :: c3 :: c4 :: c5 :: c6 :: c7 :: c8 :: c9 :: c10 :: c11 :: c12 :: c13 :: bk1 zq zn zl za zd zb zc zk zh zi zf zg zj zm ze zo zp po)) rfl ?_
        exact ih h
    · simp only [if_neg hc190] at h
      refine OEnds.icmpT hm_30 rfl (q := 25) rfl ((flt hc190).2.1) ?_
      refine OEnds.adv hm_30 1 (pc' := 26) (L' := [qr 14, qi v1]) (S' := [.int (-1)]) (H' := (c0 :: c1 :: c2 :: c3 :: c4 :: c5 :: c6 :: c7 :: c8 :: c9 :: c10 :: c11 :: c12 :: c13 :: bk1 zq zn zl za zd zb zc zk zh zi zf zg zj zm ze zo zp po)) rfl ?_
      cases h
      exact OEnds.iret hm_30 rfl rfl
theorem ok_lowestInactiveSlot_1 {zq zn zl za zd zb zc zk zh zi zf zg : List Int32} {zj zm ze zo zp : Int32} {c0 c1 c2 c3 c4 c5 c6 c7 c8 c9 c10 c11 c12 c13 : ACell} {po : List ACell} {res : Int32} (h : f_lowestInactiveSlot za = some res) : OEnds own_P 30 0 [qr 14, qu] [] (c0 :: c1 :: c2 :: c3 :: c4 :: c5 :: c6 :: c7 :: c8 :: c9 :: c10 :: c11 :: c12 :: c13 :: bk1 zq zn zl za zd zb zc zk zh zi zf zg zj zm ze zo zp po) (some (.int res), (c0 :: c1 :: c2 :: c3 :: c4 :: c5 :: c6 :: c7 :: c8 :: c9 :: c10 :: c11 :: c12 :: c13 :: bk1 zq zn zl za zd zb zc zk zh zi zf zg zj zm ze zo zp po), 0, 0) := by
  unfold f_lowestInactiveSlot at h
  refine OEnds.adv hm_30 2 (pc' := 2) (L' := [qr 14, qi 0]) (S' := []) (H' := (c0 :: c1 :: c2 :: c3 :: c4 :: c5 :: c6 :: c7 :: c8 :: c9 :: c10 :: c11 :: c12 :: c13 :: bk1 zq zn zl za zd zb zc zk zh zi zf zg zj zm ze zo zp po)) rfl ?_
  exact ok_lowestInactiveSlot_2_1 100000 h
theorem ok_storeStay_1 {zq zn zl za zk zh zi zf zg : List Int32} {zj zm ze zo zp : Int32} {c0 c1 c2 c3 c4 c5 c6 c7 c8 c9 c10 c11 c12 c13 : ACell} {po : List ACell} {zd zb zc : List Int32} {v1 v2 v3 v4 : Int32} {w_o_slotType w_o_slotArrive w_o_slotNights : List Int32} (h : f_storeStay zd zb zc v1 v2 v3 v4 = some (w_o_slotType, w_o_slotArrive, w_o_slotNights)) : OEnds own_P 32 0 [qr 14, qi v1, qi v2, qi v3, qi v4] [] (c0 :: c1 :: c2 :: c3 :: c4 :: c5 :: c6 :: c7 :: c8 :: c9 :: c10 :: c11 :: c12 :: c13 :: bk1 zq zn zl za zd zb zc zk zh zi zf zg zj zm ze zo zp po) (none, (c0 :: c1 :: c2 :: c3 :: c4 :: c5 :: c6 :: c7 :: c8 :: c9 :: c10 :: c11 :: c12 :: c13 :: bk1 zq zn zl za w_o_slotType w_o_slotArrive w_o_slotNights zk zh zi zf zg zj zm ze zo zp po), 0, 0) := by
  unfold f_storeStay at h
  refine OEnds.adv hm_32 4 (pc' := 6) (L' := [qr 14, qi v1, qi v2, qi v3, qi v4]) (S' := [.int v2, .int v1, .ref 19]) (H' := (c0 :: c1 :: c2 :: c3 :: c4 :: c5 :: c6 :: c7 :: c8 :: c9 :: c10 :: c11 :: c12 :: c13 :: bk1 zq zn zl za zd zb zc zk zh zi zf zg zj zm ze zo zp po)) rfl ?_
  obtain ⟨A59, hA59, h⟩ := bnd h
  refine OEnds.plain hm_32 rfl rfl (x_iastore rfl (Nat.le_of_ble_eq_true rfl) hA59) ?_
  refine OEnds.adv hm_32 4 (pc' := 13) (L' := [qr 14, qi v1, qi v2, qi v3, qi v4]) (S' := [.int v3, .int v1, .ref 20]) (H' := (c0 :: c1 :: c2 :: c3 :: c4 :: c5 :: c6 :: c7 :: c8 :: c9 :: c10 :: c11 :: c12 :: c13 :: bk1 zq zn zl za A59 zb zc zk zh zi zf zg zj zm ze zo zp po)) rfl ?_
  obtain ⟨A60, hA60, h⟩ := bnd h
  refine OEnds.plain hm_32 rfl rfl (x_iastore rfl (Nat.le_of_ble_eq_true rfl) hA60) ?_
  refine OEnds.adv hm_32 4 (pc' := 21) (L' := [qr 14, qi v1, qi v2, qi v3, qi v4]) (S' := [.int v4, .int v1, .ref 21]) (H' := (c0 :: c1 :: c2 :: c3 :: c4 :: c5 :: c6 :: c7 :: c8 :: c9 :: c10 :: c11 :: c12 :: c13 :: bk1 zq zn zl za A59 A60 zc zk zh zi zf zg zj zm ze zo zp po)) rfl ?_
  obtain ⟨A61, hA61, h⟩ := bnd h
  refine OEnds.plain hm_32 rfl rfl (x_iastore rfl (Nat.le_of_ble_eq_true rfl) hA61) ?_
  show OEnds own_P 32 22 [qr 14, qi v1, qi v2, qi v3, qi v4] [] (c0 :: c1 :: c2 :: c3 :: c4 :: c5 :: c6 :: c7 :: c8 :: c9 :: c10 :: c11 :: c12 :: c13 :: bk1 zq zn zl za A59 A60 A61 zk zh zi zf zg zj zm ze zo zp po) _
  cases h
  exact OEnds.vret hm_32 rfl rfl
theorem ok_adjustCoverage_84_1 {zq zn zl za zd zb zc zi zf zg : List Int32} {zj zm ze zo zp : Int32} {c0 c1 c2 c3 c4 c5 c6 c7 c8 c9 c10 c11 c12 c13 : ACell} {po : List ACell} {k53 : List Int32 → List Int32 → Int32 → Int32 → Int32 → Int32 → Option (List Int32 × List Int32)} (hk53 : ∀ {zk zh : List Int32} {v2 v3 v5 v6 : Int32} {d1 d4 d7 : Slot} {w_o_exactCount : List Int32} {w_o_atLeastCount : List Int32}, k53 zk zh v2 v3 v5 v6 = some (w_o_exactCount, w_o_atLeastCount) → OEnds own_P 33 53 [qr 14, d1, qi v2, qi v3, d4, qi v5, qi v6, d7] [] (c0 :: c1 :: c2 :: c3 :: c4 :: c5 :: c6 :: c7 :: c8 :: c9 :: c10 :: c11 :: c12 :: c13 :: bk1 zq zn zl za zd zb zc zk zh zi zf zg zj zm ze zo zp po) (none, (c0 :: c1 :: c2 :: c3 :: c4 :: c5 :: c6 :: c7 :: c8 :: c9 :: c10 :: c11 :: c12 :: c13 :: bk1 zq zn zl za zd zb zc w_o_exactCount w_o_atLeastCount zi zf zg zj zm ze zo zp po), 0, 0)) : ∀ (n : Nat), ∀ {zk zh : List Int32} {v2 v3 v5 v6 v7 : Int32} {d1 d4 : Slot} {w_o_exactCount : List Int32} {w_o_atLeastCount : List Int32}, f_adjustCoverage_84 k53 zd zb zc n zk zh v2 v3 v5 v6 v7 = some (w_o_exactCount, w_o_atLeastCount) → OEnds own_P 33 84 [qr 14, d1, qi v2, qi v3, d4, qi v5, qi v6, qi v7] [] (c0 :: c1 :: c2 :: c3 :: c4 :: c5 :: c6 :: c7 :: c8 :: c9 :: c10 :: c11 :: c12 :: c13 :: bk1 zq zn zl za zd zb zc zk zh zi zf zg zj zm ze zo zp po) (none, (c0 :: c1 :: c2 :: c3 :: c4 :: c5 :: c6 :: c7 :: c8 :: c9 :: c10 :: c11 :: c12 :: c13 :: bk1 zq zn zl za zd zb zc w_o_exactCount w_o_atLeastCount zi zf zg zj zm ze zo zp po), 0, 0) := by
  intro n
  induction n with
  | zero => intro zk zh v2 v3 v5 v6 v7 d1 d4 w_o_exactCount w_o_atLeastCount h; cases h
  | succ n ih =>
    intro zk zh v2 v3 v5 v6 v7 d1 d4 w_o_exactCount w_o_atLeastCount h
    unfold f_adjustCoverage_84 at h
    refine OEnds.adv hm_33 2 (pc' := 87) (L' := [qr 14, qu, qi v2, qi v3, qu, qi v5, qi v6, qi v7]) (S' := [.int v3, .int v7]) (H' := (c0 :: c1 :: c2 :: c3 :: c4 :: c5 :: c6 :: c7 :: c8 :: c9 :: c10 :: c11 :: c12 :: c13 :: bk1 zq zn zl za zd zb zc zk zh zi zf zg zj zm ze zo zp po)) rfl ?_
    by_cases hc192 : v3 < v7
    · simp only [if_pos hc192] at h
      refine OEnds.icmpT hm_33 rfl (q := 113) rfl ((tlt hc192).2.2.1) ?_
      refine OEnds.adv hm_33 2 (pc' := 53) (L' := [qr 14, qu, qi v2, qi v3, qu, qi v5, qi (v6 + (1 : Int32)), qi v7]) (S' := []) (H' := (c0 :: c1 :: c2 :: c3 :: c4 :: c5 :: c6 :: c7 :: c8 :: c9 :: c10 :: c11 :: c12 :: c13 :: bk1 zq zn zl za zd zb zc zk zh zi zf zg zj zm ze zo zp po)) rfl ?_
      exact hk53 h
    · simp only [if_neg hc192] at h
      refine OEnds.icmpF hm_33 rfl ((flt hc192).2.2.1) ?_
      refine OEnds.adv hm_33 5 (pc' := 99) (L' := [qr 14, qu, qi v2, qi v3, qu, qi v5, qi v6, qi v7]) (S' := [.int v6, .int v7, .ref 14, .ref 23]) (H' := (c0 :: c1 :: c2 :: c3 :: c4 :: c5 :: c6 :: c7 :: c8 :: c9 :: c10 :: c11 :: c12 :: c13 :: bk1 zq zn zl za zd zb zc zk zh zi zf zg zj zm ze zo zp po)) rfl ?_
      obtain ⟨r70, hq193, h⟩ := bnd h
      refine OEnds.call0 hm_33 rfl rfl (by decide) rfl (as := [.ref 14, .int v7, .int v6]) (rest := [.ref 23]) rfl rfl (ok_countIndex_1 hq193) ?_
      refine OEnds.adv hm_33 1 (pc' := 103) (L' := [qr 14, qu, qi v2, qi v3, qu, qi v5, qi v6, qi v7]) (S' := [.int r70, .ref 23, .int r70, .ref 23]) (H' := (c0 :: c1 :: c2 :: c3 :: c4 :: c5 :: c6 :: c7 :: c8 :: c9 :: c10 :: c11 :: c12 :: c13 :: bk1 zq zn zl za zd zb zc zk zh zi zf zg zj zm ze zo zp po)) rfl ?_
      obtain ⟨x71, hx71, h⟩ := bnd h
      refine OEnds.plain hm_33 rfl rfl (x_iaload rfl hx71) ?_
      refine OEnds.adv hm_33 2 (pc' := 106) (L' := [qr 14, qu, qi v2, qi v3, qu, qi v5, qi v6, qi v7]) (S' := [.int (x71 + v2), .int r70, .ref 23]) (H' := (c0 :: c1 :: c2 :: c3 :: c4 :: c5 :: c6 :: c7 :: c8 :: c9 :: c10 :: c11 :: c12 :: c13 :: bk1 zq zn zl za zd zb zc zk zh zi zf zg zj zm ze zo zp po)) rfl ?_
      obtain ⟨A72, hA72, h⟩ := bnd h
      refine OEnds.plain hm_33 rfl rfl (x_iastore rfl (Nat.le_of_ble_eq_true rfl) hA72) ?_
      refine OEnds.adv hm_33 2 (pc' := 84) (L' := [qr 14, qu, qi v2, qi v3, qu, qi v5, qi v6, qi (v7 + (1 : Int32))]) (S' := []) (H' := (c0 :: c1 :: c2 :: c3 :: c4 :: c5 :: c6 :: c7 :: c8 :: c9 :: c10 :: c11 :: c12 :: c13 :: bk1 zq zn zl za zd zb zc zk A72 zi zf zg zj zm ze zo zp po)) rfl ?_
      exact ih h
theorem ok_adjustCoverage_53_1 {zq zn zl za zd zb zc zi zf zg : List Int32} {zj zm ze zo zp : Int32} {c0 c1 c2 c3 c4 c5 c6 c7 c8 c9 c10 c11 c12 c13 : ACell} {po : List ACell} : ∀ (n : Nat), ∀ {zk zh : List Int32} {v2 v3 v5 v6 : Int32} {d1 d4 d7 : Slot} {w_o_exactCount : List Int32} {w_o_atLeastCount : List Int32}, f_adjustCoverage_53 zd zb zc n zk zh v2 v3 v5 v6 = some (w_o_exactCount, w_o_atLeastCount) → OEnds own_P 33 53 [qr 14, d1, qi v2, qi v3, d4, qi v5, qi v6, d7] [] (c0 :: c1 :: c2 :: c3 :: c4 :: c5 :: c6 :: c7 :: c8 :: c9 :: c10 :: c11 :: c12 :: c13 :: bk1 zq zn zl za zd zb zc zk zh zi zf zg zj zm ze zo zp po) (none, (c0 :: c1 :: c2 :: c3 :: c4 :: c5 :: c6 :: c7 :: c8 :: c9 :: c10 :: c11 :: c12 :: c13 :: bk1 zq zn zl za zd zb zc w_o_exactCount w_o_atLeastCount zi zf zg zj zm ze zo zp po), 0, 0) := by
  intro n
  induction n with
  | zero => intro zk zh v2 v3 v5 v6 d1 d4 d7 w_o_exactCount w_o_atLeastCount h; cases h
  | succ n ih =>
    intro zk zh v2 v3 v5 v6 d1 d4 d7 w_o_exactCount w_o_atLeastCount h
    unfold f_adjustCoverage_53 at h
    refine OEnds.adv hm_33 1 (pc' := 55) (L' := [qr 14, qu, qi v2, qi v3, qu, qi v5, qi v6, qu]) (S' := [.int v6]) (H' := (c0 :: c1 :: c2 :: c3 :: c4 :: c5 :: c6 :: c7 :: c8 :: c9 :: c10 :: c11 :: c12 :: c13 :: bk1 zq zn zl za zd zb zc zk zh zi zf zg zj zm ze zo zp po)) rfl ?_
    by_cases hc194 : v6 < (0 : Int32)
    · simp only [if_pos hc194] at h
      refine OEnds.ifT hm_33 rfl (q := 119) rfl ((tlt hc194).1) ?_
      show OEnds own_P 33 119 [qr 14, qu, qi v2, qi v3, qu, qi v5, qi v6, qu] [] (c0 :: c1 :: c2 :: c3 :: c4 :: c5 :: c6 :: c7 :: c8 :: c9 :: c10 :: c11 :: c12 :: c13 :: bk1 zq zn zl za zd zb zc zk zh zi zf zg zj zm ze zo zp po) _
      cases h
      exact OEnds.vret hm_33 rfl rfl
    · simp only [if_neg hc194] at h
      refine OEnds.ifF hm_33 rfl ((flt hc194).1) ?_
      refine OEnds.adv hm_33 2 (pc' := 62) (L' := [qr 14, qu, qi v2, qi v3, qu, qi v5, qi v6, qu]) (S' := [.int v5, .int v6]) (H' := (c0 :: c1 :: c2 :: c3 :: c4 :: c5 :: c6 :: c7 :: c8 :: c9 :: c10 :: c11 :: c12 :: c13 :: bk1 zq zn zl za zd zb zc zk zh zi zf zg zj zm ze zo zp po)) rfl ?_
      by_cases hc195 : v6 < v5
      · simp only [if_pos hc195] at h
        refine OEnds.icmpF hm_33 rfl ((tlt hc195).2.1) ?_
        refine OEnds.adv hm_33 5 (pc' := 73) (L' := [qr 14, qu, qi v2, qi v3, qu, qi v5, qi v6, qu]) (S' := [.int v6, .int v3, .ref 14, .ref 22]) (H' := (c0 :: c1 :: c2 :: c3 :: c4 :: c5 :: c6 :: c7 :: c8 :: c9 :: c10 :: c11 :: c12 :: c13 :: bk1 zq zn zl za zd zb zc zk zh zi zf zg zj zm ze zo zp po)) rfl ?_
        obtain ⟨r67, hq196, h⟩ := bnd h
        refine OEnds.call0 hm_33 rfl rfl (by decide) rfl (as := [.ref 14, .int v3, .int v6]) (rest := [.ref 22]) rfl rfl (ok_countIndex_1 hq196) ?_
        refine OEnds.adv hm_33 1 (pc' := 77) (L' := [qr 14, qu, qi v2, qi v3, qu, qi v5, qi v6, qu]) (S' := [.int r67, .ref 22, .int r67, .ref 22]) (H' := (c0 :: c1 :: c2 :: c3 :: c4 :: c5 :: c6 :: c7 :: c8 :: c9 :: c10 :: c11 :: c12 :: c13 :: bk1 zq zn zl za zd zb zc zk zh zi zf zg zj zm ze zo zp po)) rfl ?_
        obtain ⟨x68, hx68, h⟩ := bnd h
        refine OEnds.plain hm_33 rfl rfl (x_iaload rfl hx68) ?_
        refine OEnds.adv hm_33 2 (pc' := 80) (L' := [qr 14, qu, qi v2, qi v3, qu, qi v5, qi v6, qu]) (S' := [.int (x68 + v2), .int r67, .ref 22]) (H' := (c0 :: c1 :: c2 :: c3 :: c4 :: c5 :: c6 :: c7 :: c8 :: c9 :: c10 :: c11 :: c12 :: c13 :: bk1 zq zn zl za zd zb zc zk zh zi zf zg zj zm ze zo zp po)) rfl ?_
        obtain ⟨A69, hA69, h⟩ := bnd h
        refine OEnds.plain hm_33 rfl rfl (x_iastore rfl (Nat.le_of_ble_eq_true rfl) hA69) ?_
        refine OEnds.adv hm_33 2 (pc' := 84) (L' := [qr 14, qu, qi v2, qi v3, qu, qi v5, qi v6, qi 0]) (S' := []) (H' := (c0 :: c1 :: c2 :: c3 :: c4 :: c5 :: c6 :: c7 :: c8 :: c9 :: c10 :: c11 :: c12 :: c13 :: bk1 zq zn zl za zd zb zc A69 zh zi zf zg zj zm ze zo zp po)) rfl ?_
        exact ok_adjustCoverage_84_1 (k53 := f_adjustCoverage_53 zd zb zc n) ih 100000 h
      · simp only [if_neg hc195] at h
        refine OEnds.icmpT hm_33 rfl (q := 119) rfl ((flt hc195).2.1) ?_
        show OEnds own_P 33 119 [qr 14, qu, qi v2, qi v3, qu, qi v5, qi v6, qu] [] (c0 :: c1 :: c2 :: c3 :: c4 :: c5 :: c6 :: c7 :: c8 :: c9 :: c10 :: c11 :: c12 :: c13 :: bk1 zq zn zl za zd zb zc zk zh zi zf zg zj zm ze zo zp po) _
        cases h
        exact OEnds.vret hm_33 rfl rfl
theorem ok_adjustCoverage_1 {zq zn zl za zd zb zc zi zf zg : List Int32} {zj zm ze zo zp : Int32} {c0 c1 c2 c3 c4 c5 c6 c7 c8 c9 c10 c11 c12 c13 : ACell} {po : List ACell} {zk zh : List Int32} {v1 v2 : Int32} {w_o_exactCount w_o_atLeastCount : List Int32} (h : f_adjustCoverage zd zb zc zk zh v1 v2 = some (w_o_exactCount, w_o_atLeastCount)) : OEnds own_P 33 0 [qr 14, qi v1, qi v2, qu, qu, qu, qu, qu] [] (c0 :: c1 :: c2 :: c3 :: c4 :: c5 :: c6 :: c7 :: c8 :: c9 :: c10 :: c11 :: c12 :: c13 :: bk1 zq zn zl za zd zb zc zk zh zi zf zg zj zm ze zo zp po) (none, (c0 :: c1 :: c2 :: c3 :: c4 :: c5 :: c6 :: c7 :: c8 :: c9 :: c10 :: c11 :: c12 :: c13 :: bk1 zq zn zl za zd zb zc w_o_exactCount w_o_atLeastCount zi zf zg zj zm ze zo zp po), 0, 0) := by
  unfold f_adjustCoverage at h
  refine OEnds.adv hm_33 1 (pc' := 1) (L' := [qr 14, qi v1, qi v2, qu, qu, qu, qu, qu]) (S' := [.int v1]) (H' := (c0 :: c1 :: c2 :: c3 :: c4 :: c5 :: c6 :: c7 :: c8 :: c9 :: c10 :: c11 :: c12 :: c13 :: bk1 zq zn zl za zd zb zc zk zh zi zf zg zj zm ze zo zp po)) rfl ?_
  by_cases hc197 : v1 < (0 : Int32)
  · simp only [if_pos hc197] at h
    refine OEnds.ifT hm_33 rfl (q := 10) rfl ((tlt hc197).1) ?_
    show OEnds own_P 33 10 [qr 14, qi v1, qi v2, qu, qu, qu, qu, qu] [] (c0 :: c1 :: c2 :: c3 :: c4 :: c5 :: c6 :: c7 :: c8 :: c9 :: c10 :: c11 :: c12 :: c13 :: bk1 zq zn zl za zd zb zc zk zh zi zf zg zj zm ze zo zp po) _
    cases h
    exact OEnds.vret hm_33 rfl rfl
  · simp only [if_neg hc197] at h
    refine OEnds.ifF hm_33 rfl ((flt hc197).1) ?_
    refine OEnds.adv hm_33 2 (pc' := 7) (L' := [qr 14, qi v1, qi v2, qu, qu, qu, qu, qu]) (S' := [.int 32, .int v1]) (H' := (c0 :: c1 :: c2 :: c3 :: c4 :: c5 :: c6 :: c7 :: c8 :: c9 :: c10 :: c11 :: c12 :: c13 :: bk1 zq zn zl za zd zb zc zk zh zi zf zg zj zm ze zo zp po)) rfl ?_
    by_cases hc198 : v1 < (32 : Int32)
    · simp only [if_pos hc198] at h
      refine OEnds.icmpT hm_33 rfl (q := 11) rfl ((tlt hc198).1) ?_
      refine OEnds.adv hm_33 3 (pc' := 16) (L' := [qr 14, qi v1, qi v2, qu, qu, qu, qu, qu]) (S' := [.int v1, .ref 19]) (H' := (c0 :: c1 :: c2 :: c3 :: c4 :: c5 :: c6 :: c7 :: c8 :: c9 :: c10 :: c11 :: c12 :: c13 :: bk1 zq zn zl za zd zb zc zk zh zi zf zg zj zm ze zo zp po)) rfl ?_
      obtain ⟨x62, hx62, h⟩ := bnd h
      refine OEnds.plain hm_33 rfl rfl (x_iaload rfl hx62) ?_
      refine OEnds.adv hm_33 3 (pc' := 20) (L' := [qr 14, qi v1, qi v2, qi x62, qu, qu, qu, qu]) (S' := [.int x62, .ref 14]) (H' := (c0 :: c1 :: c2 :: c3 :: c4 :: c5 :: c6 :: c7 :: c8 :: c9 :: c10 :: c11 :: c12 :: c13 :: bk1 zq zn zl za zd zb zc zk zh zi zf zg zj zm ze zo zp po)) rfl ?_
      obtain ⟨r63, hq199, h⟩ := bnd h
      refine OEnds.call0 hm_33 rfl rfl (by decide) rfl (as := [.ref 14, .int x62]) (rest := []) rfl rfl (ok_isValidType_1 hq199) ?_
      show OEnds own_P 33 23 [qr 14, qi v1, qi v2, qi x62, qu, qu, qu, qu] [.int r63] (c0 :: c1 :: c2 :: c3 :: c4 :: c5 :: c6 :: c7 :: c8 :: c9 :: c10 :: c11 :: c12 :: c13 :: bk1 zq zn zl za zd zb zc zk zh zi zf zg zj zm ze zo zp po) _
      by_cases hc200 : r63 = (0 : Int32)
      · simp only [if_pos hc200] at h
        refine OEnds.ifF hm_33 rfl ((teq hc200).2) ?_
        show OEnds own_P 33 26 [qr 14, qi v1, qi v2, qi x62, qu, qu, qu, qu] [] (c0 :: c1 :: c2 :: c3 :: c4 :: c5 :: c6 :: c7 :: c8 :: c9 :: c10 :: c11 :: c12 :: c13 :: bk1 zq zn zl za zd zb zc zk zh zi zf zg zj zm ze zo zp po) _
        cases h
        exact OEnds.vret hm_33 rfl rfl
      · simp only [if_neg hc200] at h
        refine OEnds.ifT hm_33 rfl (q := 27) rfl ((feq hc200).2) ?_
        refine OEnds.adv hm_33 3 (pc' := 32) (L' := [qr 14, qi v1, qi v2, qi x62, qu, qu, qu, qu]) (S' := [.int v1, .ref 20]) (H' := (c0 :: c1 :: c2 :: c3 :: c4 :: c5 :: c6 :: c7 :: c8 :: c9 :: c10 :: c11 :: c12 :: c13 :: bk1 zq zn zl za zd zb zc zk zh zi zf zg zj zm ze zo zp po)) rfl ?_
        obtain ⟨x64, hx64, h⟩ := bnd h
        refine OEnds.plain hm_33 rfl rfl (x_iaload rfl hx64) ?_
        refine OEnds.adv hm_33 6 (pc' := 43) (L' := [qr 14, qi v1, qi v2, qi x62, qi x64, qu, qu, qu]) (S' := [.int v1, .ref 21, .int x64, .ref 14]) (H' := (c0 :: c1 :: c2 :: c3 :: c4 :: c5 :: c6 :: c7 :: c8 :: c9 :: c10 :: c11 :: c12 :: c13 :: bk1 zq zn zl za zd zb zc zk zh zi zf zg zj zm ze zo zp po)) rfl ?_
        obtain ⟨x65, hx65, h⟩ := bnd h
        refine OEnds.plain hm_33 rfl rfl (x_iaload rfl hx65) ?_
        show OEnds own_P 33 44 [qr 14, qi v1, qi v2, qi x62, qi x64, qu, qu, qu] [.int x65, .int x64, .ref 14] (c0 :: c1 :: c2 :: c3 :: c4 :: c5 :: c6 :: c7 :: c8 :: c9 :: c10 :: c11 :: c12 :: c13 :: bk1 zq zn zl za zd zb zc zk zh zi zf zg zj zm ze zo zp po) _
        obtain ⟨r66, hq201, h⟩ := bnd h
        refine OEnds.call0 hm_33 rfl rfl (by decide) rfl (as := [.ref 14, .int x64, .int x65]) (rest := []) rfl rfl (ok_endOf_1 hq201) ?_
        refine OEnds.adv hm_33 3 (pc' := 53) (L' := [qr 14, qi v1, qi v2, qi x62, qi x64, qi r66, qi x64, qu]) (S' := []) (H' := (c0 :: c1 :: c2 :: c3 :: c4 :: c5 :: c6 :: c7 :: c8 :: c9 :: c10 :: c11 :: c12 :: c13 :: bk1 zq zn zl za zd zb zc zk zh zi zf zg zj zm ze zo zp po)) rfl ?_
        exact ok_adjustCoverage_53_1 100000 h
    · simp only [if_neg hc198] at h
      refine OEnds.icmpF hm_33 rfl ((flt hc198).1) ?_
      show OEnds own_P 33 10 [qr 14, qi v1, qi v2, qu, qu, qu, qu, qu] [] (c0 :: c1 :: c2 :: c3 :: c4 :: c5 :: c6 :: c7 :: c8 :: c9 :: c10 :: c11 :: c12 :: c13 :: bk1 zq zn zl za zd zb zc zk zh zi zf zg zj zm ze zo zp po) _
      cases h
      exact OEnds.vret hm_33 rfl rfl
theorem ok_activateStay_1 {zq zn zl zi zf zg : List Int32} {zj ze zo zp : Int32} {c0 c1 c2 c3 c4 c5 c6 c7 c8 c9 c10 c11 c12 c13 : ACell} {po : List ACell} {za zd zb zc zk zh : List Int32} {zm v1 v2 v3 v4 : Int32} {w_o_slotActive w_o_slotType w_o_slotArrive w_o_slotNights w_o_exactCount w_o_atLeastCount : List Int32} {w_o_activeStays : Int32} (h : f_activateStay za zd zb zc zk zh zm v1 v2 v3 v4 = some (w_o_slotActive, w_o_slotType, w_o_slotArrive, w_o_slotNights, w_o_exactCount, w_o_atLeastCount, w_o_activeStays)) : OEnds own_P 31 0 [qr 14, qi v1, qi v2, qi v3, qi v4] [] (c0 :: c1 :: c2 :: c3 :: c4 :: c5 :: c6 :: c7 :: c8 :: c9 :: c10 :: c11 :: c12 :: c13 :: bk1 zq zn zl za zd zb zc zk zh zi zf zg zj zm ze zo zp po) (none, (c0 :: c1 :: c2 :: c3 :: c4 :: c5 :: c6 :: c7 :: c8 :: c9 :: c10 :: c11 :: c12 :: c13 :: bk1 zq zn zl w_o_slotActive w_o_slotType w_o_slotArrive w_o_slotNights w_o_exactCount w_o_atLeastCount zi zf zg zj w_o_activeStays ze zo zp po), 0, 0) := by
  unfold f_activateStay at h
  refine OEnds.adv hm_31 5 (pc' := 6) (L' := [qr 14, qi v1, qi v2, qi v3, qi v4]) (S' := [.int v4, .int v3, .int v2, .int v1, .ref 14]) (H' := (c0 :: c1 :: c2 :: c3 :: c4 :: c5 :: c6 :: c7 :: c8 :: c9 :: c10 :: c11 :: c12 :: c13 :: bk1 zq zn zl za zd zb zc zk zh zi zf zg zj zm ze zo zp po)) rfl ?_
  obtain ⟨⟨s73, s74, s75⟩, hq202, h⟩ := bnd h
  refine OEnds.call0 hm_31 rfl rfl (by decide) rfl (as := [.ref 14, .int v1, .int v2, .int v3, .int v4]) (rest := []) rfl rfl (ok_storeStay_1 hq202) ?_
  refine OEnds.adv hm_31 4 (pc' := 15) (L' := [qr 14, qi v1, qi v2, qi v3, qi v4]) (S' := [.int 1, .int v1, .ref 18]) (H' := (c0 :: c1 :: c2 :: c3 :: c4 :: c5 :: c6 :: c7 :: c8 :: c9 :: c10 :: c11 :: c12 :: c13 :: bk1 zq zn zl za s73 s74 s75 zk zh zi zf zg zj zm ze zo zp po)) rfl ?_
  obtain ⟨A76, hA76, h⟩ := bnd h
  refine OEnds.plain hm_31 rfl rfl (x_bastore rfl (Nat.le_of_ble_eq_true rfl) hA76) ?_
  refine OEnds.adv hm_31 9 (pc' := 29) (L' := [qr 14, qi v1, qi v2, qi v3, qi v4]) (S' := [.int 1, .int v1, .ref 14]) (H' := (c0 :: c1 :: c2 :: c3 :: c4 :: c5 :: c6 :: c7 :: c8 :: c9 :: c10 :: c11 :: c12 :: c13 :: bk1 zq zn zl A76 s73 s74 s75 zk zh zi zf zg zj (zm + (1 : Int32)) ze zo zp po)) rfl ?_
  obtain ⟨⟨s77, s78⟩, hq203, h⟩ := bnd h
  refine OEnds.call0 hm_31 rfl rfl (by decide) rfl (as := [.ref 14, .int v1, .int 1]) (rest := []) rfl rfl (ok_adjustCoverage_1 hq203) ?_
  show OEnds own_P 31 32 [qr 14, qi v1, qi v2, qi v3, qi v4] [] (c0 :: c1 :: c2 :: c3 :: c4 :: c5 :: c6 :: c7 :: c8 :: c9 :: c10 :: c11 :: c12 :: c13 :: bk1 zq zn zl A76 s73 s74 s75 s77 s78 zi zf zg zj (zm + (1 : Int32)) ze zo zp po) _
  cases h
  exact OEnds.vret hm_31 rfl rfl
theorem ok_discardPlan_1 {zq zn zl za zd zb zc zk zh zi zf zg : List Int32} {zj zm ze zp : Int32} {c0 c1 c2 c3 c4 c5 c6 c7 c8 c9 c10 c11 c12 c13 : ACell} {po : List ACell} {zo w_o_planCurrent : Int32} (h : f_discardPlan zo = some w_o_planCurrent) : OEnds own_P 9 0 [qr 14] [] (c0 :: c1 :: c2 :: c3 :: c4 :: c5 :: c6 :: c7 :: c8 :: c9 :: c10 :: c11 :: c12 :: c13 :: bk1 zq zn zl za zd zb zc zk zh zi zf zg zj zm ze zo zp po) (none, (c0 :: c1 :: c2 :: c3 :: c4 :: c5 :: c6 :: c7 :: c8 :: c9 :: c10 :: c11 :: c12 :: c13 :: bk1 zq zn zl za zd zb zc zk zh zi zf zg zj zm ze w_o_planCurrent zp po), 0, 0) := by
  unfold f_discardPlan at h
  refine OEnds.adv hm_9 3 (pc' := 5) (L' := [qr 14]) (S' := []) (H' := (c0 :: c1 :: c2 :: c3 :: c4 :: c5 :: c6 :: c7 :: c8 :: c9 :: c10 :: c11 :: c12 :: c13 :: bk1 zq zn zl za zd zb zc zk zh zi zf zg zj zm ze 0 zp po)) rfl ?_
  cases h
  exact OEnds.vret hm_9 rfl rfl
theorem ok_book_1 {zq zn zl zi zf zg : List Int32} {zj ze zp : Int32} {c0 c1 c2 c3 c4 c5 c6 c7 c8 c9 c10 c11 c12 c13 : ACell} {po : List ACell} {za zd zb zc zk zh : List Int32} {zm zo v1 v2 v3 res : Int32} {w_o_slotActive w_o_slotType w_o_slotArrive w_o_slotNights w_o_exactCount w_o_atLeastCount : List Int32} {w_o_activeStays w_o_planCurrent : Int32} (h : f_book zn za zd zb zc zk zh zm zo v1 v2 v3 = some (res, w_o_slotActive, w_o_slotType, w_o_slotArrive, w_o_slotNights, w_o_exactCount, w_o_atLeastCount, w_o_activeStays, w_o_planCurrent)) : OEnds own_P 11 0 [qr 14, qi v1, qi v2, qi v3, qu, qu] [] (c0 :: c1 :: c2 :: c3 :: c4 :: c5 :: c6 :: c7 :: c8 :: c9 :: c10 :: c11 :: c12 :: c13 :: bk1 zq zn zl za zd zb zc zk zh zi zf zg zj zm ze zo zp po) (some (.int res), (c0 :: c1 :: c2 :: c3 :: c4 :: c5 :: c6 :: c7 :: c8 :: c9 :: c10 :: c11 :: c12 :: c13 :: bk1 zq zn zl w_o_slotActive w_o_slotType w_o_slotArrive w_o_slotNights w_o_exactCount w_o_atLeastCount zi zf zg zj w_o_activeStays ze w_o_planCurrent zp po), 0, 0) := by
  unfold f_book at h
  refine OEnds.adv hm_11 4 (pc' := 4) (L' := [qr 14, qi v1, qi v2, qi v3, qu, qu]) (S' := [.int v3, .int v2, .int v1, .ref 14]) (H' := (c0 :: c1 :: c2 :: c3 :: c4 :: c5 :: c6 :: c7 :: c8 :: c9 :: c10 :: c11 :: c12 :: c13 :: bk1 zq zn zl za zd zb zc zk zh zi zf zg zj zm ze zo zp po)) rfl ?_
  obtain ⟨r79, hq204, h⟩ := bnd h
  refine OEnds.call0 hm_11 rfl rfl (by decide) rfl (as := [.ref 14, .int v1, .int v2, .int v3]) (rest := []) rfl rfl (ok_requestError_1 hq204) ?_
  refine OEnds.adv hm_11 2 (pc' := 11) (L' := [qr 14, qi v1, qi v2, qi v3, qi r79, qu]) (S' := [.int r79]) (H' := (c0 :: c1 :: c2 :: c3 :: c4 :: c5 :: c6 :: c7 :: c8 :: c9 :: c10 :: c11 :: c12 :: c13 :: bk1 zq zn zl za zd zb zc zk zh zi zf zg zj zm ze zo zp po)) rfl ?_
  by_cases hc205 : r79 = (0 : Int32)
  · simp only [if_pos hc205] at h
    refine OEnds.ifT hm_11 rfl (q := 17) rfl ((teq hc205).1) ?_
    refine OEnds.adv hm_11 3 (pc' := 23) (L' := [qr 14, qi v1, qi v2, qi v3, qi r79, qu]) (S' := [.int 32, .int zm]) (H' := (c0 :: c1 :: c2 :: c3 :: c4 :: c5 :: c6 :: c7 :: c8 :: c9 :: c10 :: c11 :: c12 :: c13 :: bk1 zq zn zl za zd zb zc zk zh zi zf zg zj zm ze zo zp po)) rfl ?_
    by_cases hc206 : zm < (32 : Int32)
    · simp only [if_pos hc206] at h
      refine OEnds.icmpT hm_11 rfl (q := 29) rfl ((tlt hc206).1) ?_
      refine OEnds.adv hm_11 5 (pc' := 34) (L' := [qr 14, qi v1, qi v2, qi v3, qi r79, qu]) (S' := [.int v3, .int v2, .int v1, .int (-1), .ref 14]) (H' := (c0 :: c1 :: c2 :: c3 :: c4 :: c5 :: c6 :: c7 :: c8 :: c9 :: c10 :: c11 :: c12 :: c13 :: bk1 zq zn zl za zd zb zc zk zh zi zf zg zj zm ze zo zp po)) rfl ?_
      obtain ⟨r80, hq207, h⟩ := bnd h
      refine OEnds.call0 hm_11 rfl rfl (by decide) rfl (as := [.ref 14, .int (-1), .int v1, .int v2, .int v3]) (rest := []) rfl rfl (ok_fitsWith_1 hq207) ?_
      show OEnds own_P 11 37 [qr 14, qi v1, qi v2, qi v3, qi r79, qu] [.int r80] (c0 :: c1 :: c2 :: c3 :: c4 :: c5 :: c6 :: c7 :: c8 :: c9 :: c10 :: c11 :: c12 :: c13 :: bk1 zq zn zl za zd zb zc zk zh zi zf zg zj zm ze zo zp po) _
      by_cases hc208 : r80 = (0 : Int32)
      · simp only [if_pos hc208] at h
        refine OEnds.ifF hm_11 rfl ((teq hc208).2) ?_
        refine OEnds.adv hm_11 1 (pc' := 42) (L' := [qr 14, qi v1, qi v2, qi v3, qi r79, qu]) (S' := [.int (-4)]) (H' := (c0 :: c1 :: c2 :: c3 :: c4 :: c5 :: c6 :: c7 :: c8 :: c9 :: c10 :: c11 :: c12 :: c13 :: bk1 zq zn zl za zd zb zc zk zh zi zf zg zj zm ze zo zp po)) rfl ?_
        cases h
        exact OEnds.iret hm_11 rfl rfl
      · simp only [if_neg hc208] at h
        refine OEnds.ifT hm_11 rfl (q := 43) rfl ((feq hc208).2) ?_
        refine OEnds.adv hm_11 1 (pc' := 44) (L' := [qr 14, qi v1, qi v2, qi v3, qi r79, qu]) (S' := [.ref 14]) (H' := (c0 :: c1 :: c2 :: c3 :: c4 :: c5 :: c6 :: c7 :: c8 :: c9 :: c10 :: c11 :: c12 :: c13 :: bk1 zq zn zl za zd zb zc zk zh zi zf zg zj zm ze zo zp po)) rfl ?_
        obtain ⟨r81, hq209, h⟩ := bnd h
        refine OEnds.call0 hm_11 rfl rfl (by decide) rfl (as := [.ref 14]) (rest := []) rfl rfl (ok_lowestInactiveSlot_1 hq209) ?_
        refine OEnds.adv hm_11 2 (pc' := 51) (L' := [qr 14, qi v1, qi v2, qi v3, qi r79, qi r81]) (S' := [.int r81]) (H' := (c0 :: c1 :: c2 :: c3 :: c4 :: c5 :: c6 :: c7 :: c8 :: c9 :: c10 :: c11 :: c12 :: c13 :: bk1 zq zn zl za zd zb zc zk zh zi zf zg zj zm ze zo zp po)) rfl ?_
        by_cases hc210 : r81 < (0 : Int32)
        · simp only [if_pos hc210] at h
          refine OEnds.ifF hm_11 rfl ((tlt hc210).2.1) ?_
          refine OEnds.adv hm_11 1 (pc' := 56) (L' := [qr 14, qi v1, qi v2, qi v3, qi r79, qi r81]) (S' := [.int (-3)]) (H' := (c0 :: c1 :: c2 :: c3 :: c4 :: c5 :: c6 :: c7 :: c8 :: c9 :: c10 :: c11 :: c12 :: c13 :: bk1 zq zn zl za zd zb zc zk zh zi zf zg zj zm ze zo zp po)) rfl ?_
          cases h
          exact OEnds.iret hm_11 rfl rfl
        · simp only [if_neg hc210] at h
          refine OEnds.ifT hm_11 rfl (q := 57) rfl ((flt hc210).2.1) ?_
          refine OEnds.adv hm_11 5 (pc' := 63) (L' := [qr 14, qi v1, qi v2, qi v3, qi r79, qi r81]) (S' := [.int v3, .int v2, .int v1, .int r81, .ref 14]) (H' := (c0 :: c1 :: c2 :: c3 :: c4 :: c5 :: c6 :: c7 :: c8 :: c9 :: c10 :: c11 :: c12 :: c13 :: bk1 zq zn zl za zd zb zc zk zh zi zf zg zj zm ze zo zp po)) rfl ?_
          obtain ⟨⟨s82, s83, s84, s85, s86, s87, s88⟩, hq211, h⟩ := bnd h
          refine OEnds.call0 hm_11 rfl rfl (by decide) rfl (as := [.ref 14, .int r81, .int v1, .int v2, .int v3]) (rest := []) rfl rfl (ok_activateStay_1 hq211) ?_
          refine OEnds.adv hm_11 1 (pc' := 67) (L' := [qr 14, qi v1, qi v2, qi v3, qi r79, qi r81]) (S' := [.ref 14]) (H' := (c0 :: c1 :: c2 :: c3 :: c4 :: c5 :: c6 :: c7 :: c8 :: c9 :: c10 :: c11 :: c12 :: c13 :: bk1 zq zn zl s82 s83 s84 s85 s86 s87 zi zf zg zj s88 ze zo zp po)) rfl ?_
          obtain ⟨s89, hq212, h⟩ := bnd h
          refine OEnds.call0 hm_11 rfl rfl (by decide) rfl (as := [.ref 14]) (rest := []) rfl rfl (ok_discardPlan_1 hq212) ?_
          refine OEnds.adv hm_11 1 (pc' := 72) (L' := [qr 14, qi v1, qi v2, qi v3, qi r79, qi r81]) (S' := [.int r81]) (H' := (c0 :: c1 :: c2 :: c3 :: c4 :: c5 :: c6 :: c7 :: c8 :: c9 :: c10 :: c11 :: c12 :: c13 :: bk1 zq zn zl s82 s83 s84 s85 s86 s87 zi zf zg zj s88 ze s89 zp po)) rfl ?_
          cases h
          exact OEnds.iret hm_11 rfl rfl
    · simp only [if_neg hc206] at h
      refine OEnds.icmpF hm_11 rfl ((flt hc206).1) ?_
      refine OEnds.adv hm_11 1 (pc' := 28) (L' := [qr 14, qi v1, qi v2, qi v3, qi r79, qu]) (S' := [.int (-3)]) (H' := (c0 :: c1 :: c2 :: c3 :: c4 :: c5 :: c6 :: c7 :: c8 :: c9 :: c10 :: c11 :: c12 :: c13 :: bk1 zq zn zl za zd zb zc zk zh zi zf zg zj zm ze zo zp po)) rfl ?_
      cases h
      exact OEnds.iret hm_11 rfl rfl
  · simp only [if_neg hc205] at h
    refine OEnds.ifF hm_11 rfl ((feq hc205).1) ?_
    refine OEnds.adv hm_11 1 (pc' := 16) (L' := [qr 14, qi v1, qi v2, qi v3, qi r79, qu]) (S' := [.int r79]) (H' := (c0 :: c1 :: c2 :: c3 :: c4 :: c5 :: c6 :: c7 :: c8 :: c9 :: c10 :: c11 :: c12 :: c13 :: bk1 zq zn zl za zd zb zc zk zh zi zf zg zj zm ze zo zp po)) rfl ?_
    cases h
    exact OEnds.iret hm_11 rfl rfl
theorem ok_amend_1 {zq zn zl za zi zf zg : List Int32} {zj zm ze zp : Int32} {c0 c1 c2 c3 c4 c5 c6 c7 c8 c9 c10 c11 c12 c13 : ACell} {po : List ACell} {zd zb zc zk zh : List Int32} {zo v1 v2 v3 v4 res : Int32} {w_o_slotType w_o_slotArrive w_o_slotNights w_o_exactCount w_o_atLeastCount : List Int32} {w_o_planCurrent : Int32} (h : f_amend zn za zd zb zc zk zh zo v1 v2 v3 v4 = some (res, w_o_slotType, w_o_slotArrive, w_o_slotNights, w_o_exactCount, w_o_atLeastCount, w_o_planCurrent)) : OEnds own_P 36 0 [qr 14, qi v1, qi v2, qi v3, qi v4, qu] [] (c0 :: c1 :: c2 :: c3 :: c4 :: c5 :: c6 :: c7 :: c8 :: c9 :: c10 :: c11 :: c12 :: c13 :: bk1 zq zn zl za zd zb zc zk zh zi zf zg zj zm ze zo zp po) (some (.int res), (c0 :: c1 :: c2 :: c3 :: c4 :: c5 :: c6 :: c7 :: c8 :: c9 :: c10 :: c11 :: c12 :: c13 :: bk1 zq zn zl za w_o_slotType w_o_slotArrive w_o_slotNights w_o_exactCount w_o_atLeastCount zi zf zg zj zm ze w_o_planCurrent zp po), 0, 0) := by
  unfold f_amend at h
  refine OEnds.adv hm_36 2 (pc' := 2) (L' := [qr 14, qi v1, qi v2, qi v3, qi v4, qu]) (S' := [.int v1, .ref 14]) (H' := (c0 :: c1 :: c2 :: c3 :: c4 :: c5 :: c6 :: c7 :: c8 :: c9 :: c10 :: c11 :: c12 :: c13 :: bk1 zq zn zl za zd zb zc zk zh zi zf zg zj zm ze zo zp po)) rfl ?_
  obtain ⟨r90, hq213, h⟩ := bnd h
  refine OEnds.call0 hm_36 rfl rfl (by decide) rfl (as := [.ref 14, .int v1]) (rest := []) rfl rfl (ok_isActiveStay_1 hq213) ?_
  show OEnds own_P 36 5 [qr 14, qi v1, qi v2, qi v3, qi v4, qu] [.int r90] (c0 :: c1 :: c2 :: c3 :: c4 :: c5 :: c6 :: c7 :: c8 :: c9 :: c10 :: c11 :: c12 :: c13 :: bk1 zq zn zl za zd zb zc zk zh zi zf zg zj zm ze zo zp po) _
  by_cases hc214 : r90 = (0 : Int32)
  · simp only [if_pos hc214] at h
    refine OEnds.ifF hm_36 rfl ((teq hc214).2) ?_
    refine OEnds.adv hm_36 1 (pc' := 10) (L' := [qr 14, qi v1, qi v2, qi v3, qi v4, qu]) (S' := [.int (-5)]) (H' := (c0 :: c1 :: c2 :: c3 :: c4 :: c5 :: c6 :: c7 :: c8 :: c9 :: c10 :: c11 :: c12 :: c13 :: bk1 zq zn zl za zd zb zc zk zh zi zf zg zj zm ze zo zp po)) rfl ?_
    cases h
    exact OEnds.iret hm_36 rfl rfl
  · simp only [if_neg hc214] at h
    refine OEnds.ifT hm_36 rfl (q := 11) rfl ((feq hc214).2) ?_
    refine OEnds.adv hm_36 4 (pc' := 16) (L' := [qr 14, qi v1, qi v2, qi v3, qi v4, qu]) (S' := [.int v4, .int v3, .int v2, .ref 14]) (H' := (c0 :: c1 :: c2 :: c3 :: c4 :: c5 :: c6 :: c7 :: c8 :: c9 :: c10 :: c11 :: c12 :: c13 :: bk1 zq zn zl za zd zb zc zk zh zi zf zg zj zm ze zo zp po)) rfl ?_
    obtain ⟨r91, hq215, h⟩ := bnd h
    refine OEnds.call0 hm_36 rfl rfl (by decide) rfl (as := [.ref 14, .int v2, .int v3, .int v4]) (rest := []) rfl rfl (ok_requestError_1 hq215) ?_
    refine OEnds.adv hm_36 2 (pc' := 23) (L' := [qr 14, qi v1, qi v2, qi v3, qi v4, qi r91]) (S' := [.int r91]) (H' := (c0 :: c1 :: c2 :: c3 :: c4 :: c5 :: c6 :: c7 :: c8 :: c9 :: c10 :: c11 :: c12 :: c13 :: bk1 zq zn zl za zd zb zc zk zh zi zf zg zj zm ze zo zp po)) rfl ?_
    by_cases hc216 : r91 = (0 : Int32)
    · simp only [if_pos hc216] at h
      refine OEnds.ifT hm_36 rfl (q := 29) rfl ((teq hc216).1) ?_
      refine OEnds.adv hm_36 5 (pc' := 35) (L' := [qr 14, qi v1, qi v2, qi v3, qi v4, qi r91]) (S' := [.int v4, .int v3, .int v2, .int v1, .ref 14]) (H' := (c0 :: c1 :: c2 :: c3 :: c4 :: c5 :: c6 :: c7 :: c8 :: c9 :: c10 :: c11 :: c12 :: c13 :: bk1 zq zn zl za zd zb zc zk zh zi zf zg zj zm ze zo zp po)) rfl ?_
      obtain ⟨r92, hq217, h⟩ := bnd h
      refine OEnds.call0 hm_36 rfl rfl (by decide) rfl (as := [.ref 14, .int v1, .int v2, .int v3, .int v4]) (rest := []) rfl rfl (ok_fitsWith_1 hq217) ?_
      show OEnds own_P 36 38 [qr 14, qi v1, qi v2, qi v3, qi v4, qi r91] [.int r92] (c0 :: c1 :: c2 :: c3 :: c4 :: c5 :: c6 :: c7 :: c8 :: c9 :: c10 :: c11 :: c12 :: c13 :: bk1 zq zn zl za zd zb zc zk zh zi zf zg zj zm ze zo zp po) _
      by_cases hc218 : r92 = (0 : Int32)
      · simp only [if_pos hc218] at h
        refine OEnds.ifF hm_36 rfl ((teq hc218).2) ?_
        refine OEnds.adv hm_36 1 (pc' := 43) (L' := [qr 14, qi v1, qi v2, qi v3, qi v4, qi r91]) (S' := [.int (-4)]) (H' := (c0 :: c1 :: c2 :: c3 :: c4 :: c5 :: c6 :: c7 :: c8 :: c9 :: c10 :: c11 :: c12 :: c13 :: bk1 zq zn zl za zd zb zc zk zh zi zf zg zj zm ze zo zp po)) rfl ?_
        cases h
        exact OEnds.iret hm_36 rfl rfl
      · simp only [if_neg hc218] at h
        refine OEnds.ifT hm_36 rfl (q := 44) rfl ((feq hc218).2) ?_
        refine OEnds.adv hm_36 3 (pc' := 47) (L' := [qr 14, qi v1, qi v2, qi v3, qi v4, qi r91]) (S' := [.int (-1), .int v1, .ref 14]) (H' := (c0 :: c1 :: c2 :: c3 :: c4 :: c5 :: c6 :: c7 :: c8 :: c9 :: c10 :: c11 :: c12 :: c13 :: bk1 zq zn zl za zd zb zc zk zh zi zf zg zj zm ze zo zp po)) rfl ?_
        obtain ⟨⟨s93, s94⟩, hq219, h⟩ := bnd h
        refine OEnds.call0 hm_36 rfl rfl (by decide) rfl (as := [.ref 14, .int v1, .int (-1)]) (rest := []) rfl rfl (ok_adjustCoverage_1 hq219) ?_
        refine OEnds.adv hm_36 5 (pc' := 56) (L' := [qr 14, qi v1, qi v2, qi v3, qi v4, qi r91]) (S' := [.int v4, .int v3, .int v2, .int v1, .ref 14]) (H' := (c0 :: c1 :: c2 :: c3 :: c4 :: c5 :: c6 :: c7 :: c8 :: c9 :: c10 :: c11 :: c12 :: c13 :: bk1 zq zn zl za zd zb zc s93 s94 zi zf zg zj zm ze zo zp po)) rfl ?_
        obtain ⟨⟨s95, s96, s97⟩, hq220, h⟩ := bnd h
        refine OEnds.call0 hm_36 rfl rfl (by decide) rfl (as := [.ref 14, .int v1, .int v2, .int v3, .int v4]) (rest := []) rfl rfl (ok_storeStay_1 hq220) ?_
        refine OEnds.adv hm_36 3 (pc' := 62) (L' := [qr 14, qi v1, qi v2, qi v3, qi v4, qi r91]) (S' := [.int 1, .int v1, .ref 14]) (H' := (c0 :: c1 :: c2 :: c3 :: c4 :: c5 :: c6 :: c7 :: c8 :: c9 :: c10 :: c11 :: c12 :: c13 :: bk1 zq zn zl za s95 s96 s97 s93 s94 zi zf zg zj zm ze zo zp po)) rfl ?_
        obtain ⟨⟨s98, s99⟩, hq221, h⟩ := bnd h
        refine OEnds.call0 hm_36 rfl rfl (by decide) rfl (as := [.ref 14, .int v1, .int 1]) (rest := []) rfl rfl (ok_adjustCoverage_1 hq221) ?_
        refine OEnds.adv hm_36 1 (pc' := 66) (L' := [qr 14, qi v1, qi v2, qi v3, qi v4, qi r91]) (S' := [.ref 14]) (H' := (c0 :: c1 :: c2 :: c3 :: c4 :: c5 :: c6 :: c7 :: c8 :: c9 :: c10 :: c11 :: c12 :: c13 :: bk1 zq zn zl za s95 s96 s97 s98 s99 zi zf zg zj zm ze zo zp po)) rfl ?_
        obtain ⟨s100, hq222, h⟩ := bnd h
        refine OEnds.call0 hm_36 rfl rfl (by decide) rfl (as := [.ref 14]) (rest := []) rfl rfl (ok_discardPlan_1 hq222) ?_
        refine OEnds.adv hm_36 1 (pc' := 70) (L' := [qr 14, qi v1, qi v2, qi v3, qi v4, qi r91]) (S' := [.int 0]) (H' := (c0 :: c1 :: c2 :: c3 :: c4 :: c5 :: c6 :: c7 :: c8 :: c9 :: c10 :: c11 :: c12 :: c13 :: bk1 zq zn zl za s95 s96 s97 s98 s99 zi zf zg zj zm ze s100 zp po)) rfl ?_
        cases h
        exact OEnds.iret hm_36 rfl rfl
    · simp only [if_neg hc216] at h
      refine OEnds.ifF hm_36 rfl ((feq hc216).1) ?_
      refine OEnds.adv hm_36 1 (pc' := 28) (L' := [qr 14, qi v1, qi v2, qi v3, qi v4, qi r91]) (S' := [.int r91]) (H' := (c0 :: c1 :: c2 :: c3 :: c4 :: c5 :: c6 :: c7 :: c8 :: c9 :: c10 :: c11 :: c12 :: c13 :: bk1 zq zn zl za zd zb zc zk zh zi zf zg zj zm ze zo zp po)) rfl ?_
      cases h
      exact OEnds.iret hm_36 rfl rfl
theorem ok_deactivateStay_1 {zq zn zl zi zf zg : List Int32} {zj ze zo zp : Int32} {c0 c1 c2 c3 c4 c5 c6 c7 c8 c9 c10 c11 c12 c13 : ACell} {po : List ACell} {za zd zb zc zk zh : List Int32} {zm v1 : Int32} {w_o_slotActive w_o_slotType w_o_slotArrive w_o_slotNights w_o_exactCount w_o_atLeastCount : List Int32} {w_o_activeStays : Int32} (h : f_deactivateStay za zd zb zc zk zh zm v1 = some (w_o_slotActive, w_o_slotType, w_o_slotArrive, w_o_slotNights, w_o_exactCount, w_o_atLeastCount, w_o_activeStays)) : OEnds own_P 35 0 [qr 14, qi v1] [] (c0 :: c1 :: c2 :: c3 :: c4 :: c5 :: c6 :: c7 :: c8 :: c9 :: c10 :: c11 :: c12 :: c13 :: bk1 zq zn zl za zd zb zc zk zh zi zf zg zj zm ze zo zp po) (none, (c0 :: c1 :: c2 :: c3 :: c4 :: c5 :: c6 :: c7 :: c8 :: c9 :: c10 :: c11 :: c12 :: c13 :: bk1 zq zn zl w_o_slotActive w_o_slotType w_o_slotArrive w_o_slotNights w_o_exactCount w_o_atLeastCount zi zf zg zj w_o_activeStays ze zo zp po), 0, 0) := by
  unfold f_deactivateStay at h
  refine OEnds.adv hm_35 3 (pc' := 3) (L' := [qr 14, qi v1]) (S' := [.int (-1), .int v1, .ref 14]) (H' := (c0 :: c1 :: c2 :: c3 :: c4 :: c5 :: c6 :: c7 :: c8 :: c9 :: c10 :: c11 :: c12 :: c13 :: bk1 zq zn zl za zd zb zc zk zh zi zf zg zj zm ze zo zp po)) rfl ?_
  obtain ⟨⟨s101, s102⟩, hq223, h⟩ := bnd h
  refine OEnds.call0 hm_35 rfl rfl (by decide) rfl (as := [.ref 14, .int v1, .int (-1)]) (rest := []) rfl rfl (ok_adjustCoverage_1 hq223) ?_
  refine OEnds.adv hm_35 4 (pc' := 12) (L' := [qr 14, qi v1]) (S' := [.int 0, .int v1, .ref 18]) (H' := (c0 :: c1 :: c2 :: c3 :: c4 :: c5 :: c6 :: c7 :: c8 :: c9 :: c10 :: c11 :: c12 :: c13 :: bk1 zq zn zl za zd zb zc s101 s102 zi zf zg zj zm ze zo zp po)) rfl ?_
  obtain ⟨A103, hA103, h⟩ := bnd h
  refine OEnds.plain hm_35 rfl rfl (x_bastore rfl (Nat.le_of_ble_eq_true rfl) hA103) ?_
  refine OEnds.adv hm_35 5 (pc' := 18) (L' := [qr 14, qi v1]) (S' := [.int 0, .int 0, .int 0, .int v1, .ref 14]) (H' := (c0 :: c1 :: c2 :: c3 :: c4 :: c5 :: c6 :: c7 :: c8 :: c9 :: c10 :: c11 :: c12 :: c13 :: bk1 zq zn zl A103 zd zb zc s101 s102 zi zf zg zj zm ze zo zp po)) rfl ?_
  obtain ⟨⟨s104, s105, s106⟩, hq224, h⟩ := bnd h
  refine OEnds.call0 hm_35 rfl rfl (by decide) rfl (as := [.ref 14, .int v1, .int 0, .int 0, .int 0]) (rest := []) rfl rfl (ok_storeStay_1 hq224) ?_
  refine OEnds.adv hm_35 6 (pc' := 31) (L' := [qr 14, qi v1]) (S' := []) (H' := (c0 :: c1 :: c2 :: c3 :: c4 :: c5 :: c6 :: c7 :: c8 :: c9 :: c10 :: c11 :: c12 :: c13 :: bk1 zq zn zl A103 s104 s105 s106 s101 s102 zi zf zg zj (zm - (1 : Int32)) ze zo zp po)) rfl ?_
  cases h
  exact OEnds.vret hm_35 rfl rfl
theorem ok_cancel_1 {zq zn zl zi zf zg : List Int32} {zj ze zp : Int32} {c0 c1 c2 c3 c4 c5 c6 c7 c8 c9 c10 c11 c12 c13 : ACell} {po : List ACell} {za zd zb zc zk zh : List Int32} {zm zo v1 res : Int32} {w_o_slotActive w_o_slotType w_o_slotArrive w_o_slotNights w_o_exactCount w_o_atLeastCount : List Int32} {w_o_activeStays w_o_planCurrent : Int32} (h : f_cancel za zd zb zc zk zh zm zo v1 = some (res, w_o_slotActive, w_o_slotType, w_o_slotArrive, w_o_slotNights, w_o_exactCount, w_o_atLeastCount, w_o_activeStays, w_o_planCurrent)) : OEnds own_P 34 0 [qr 14, qi v1] [] (c0 :: c1 :: c2 :: c3 :: c4 :: c5 :: c6 :: c7 :: c8 :: c9 :: c10 :: c11 :: c12 :: c13 :: bk1 zq zn zl za zd zb zc zk zh zi zf zg zj zm ze zo zp po) (some (.int res), (c0 :: c1 :: c2 :: c3 :: c4 :: c5 :: c6 :: c7 :: c8 :: c9 :: c10 :: c11 :: c12 :: c13 :: bk1 zq zn zl w_o_slotActive w_o_slotType w_o_slotArrive w_o_slotNights w_o_exactCount w_o_atLeastCount zi zf zg zj w_o_activeStays ze w_o_planCurrent zp po), 0, 0) := by
  unfold f_cancel at h
  refine OEnds.adv hm_34 2 (pc' := 2) (L' := [qr 14, qi v1]) (S' := [.int v1, .ref 14]) (H' := (c0 :: c1 :: c2 :: c3 :: c4 :: c5 :: c6 :: c7 :: c8 :: c9 :: c10 :: c11 :: c12 :: c13 :: bk1 zq zn zl za zd zb zc zk zh zi zf zg zj zm ze zo zp po)) rfl ?_
  obtain ⟨r107, hq225, h⟩ := bnd h
  refine OEnds.call0 hm_34 rfl rfl (by decide) rfl (as := [.ref 14, .int v1]) (rest := []) rfl rfl (ok_isActiveStay_1 hq225) ?_
  show OEnds own_P 34 5 [qr 14, qi v1] [.int r107] (c0 :: c1 :: c2 :: c3 :: c4 :: c5 :: c6 :: c7 :: c8 :: c9 :: c10 :: c11 :: c12 :: c13 :: bk1 zq zn zl za zd zb zc zk zh zi zf zg zj zm ze zo zp po) _
  by_cases hc226 : r107 = (0 : Int32)
  · simp only [if_pos hc226] at h
    refine OEnds.ifF hm_34 rfl ((teq hc226).2) ?_
    refine OEnds.adv hm_34 1 (pc' := 10) (L' := [qr 14, qi v1]) (S' := [.int (-5)]) (H' := (c0 :: c1 :: c2 :: c3 :: c4 :: c5 :: c6 :: c7 :: c8 :: c9 :: c10 :: c11 :: c12 :: c13 :: bk1 zq zn zl za zd zb zc zk zh zi zf zg zj zm ze zo zp po)) rfl ?_
    cases h
    exact OEnds.iret hm_34 rfl rfl
  · simp only [if_neg hc226] at h
    refine OEnds.ifT hm_34 rfl (q := 11) rfl ((feq hc226).2) ?_
    refine OEnds.adv hm_34 2 (pc' := 13) (L' := [qr 14, qi v1]) (S' := [.int v1, .ref 14]) (H' := (c0 :: c1 :: c2 :: c3 :: c4 :: c5 :: c6 :: c7 :: c8 :: c9 :: c10 :: c11 :: c12 :: c13 :: bk1 zq zn zl za zd zb zc zk zh zi zf zg zj zm ze zo zp po)) rfl ?_
    obtain ⟨⟨s108, s109, s110, s111, s112, s113, s114⟩, hq227, h⟩ := bnd h
    refine OEnds.call0 hm_34 rfl rfl (by decide) rfl (as := [.ref 14, .int v1]) (rest := []) rfl rfl (ok_deactivateStay_1 hq227) ?_
    refine OEnds.adv hm_34 1 (pc' := 17) (L' := [qr 14, qi v1]) (S' := [.ref 14]) (H' := (c0 :: c1 :: c2 :: c3 :: c4 :: c5 :: c6 :: c7 :: c8 :: c9 :: c10 :: c11 :: c12 :: c13 :: bk1 zq zn zl s108 s109 s110 s111 s112 s113 zi zf zg zj s114 ze zo zp po)) rfl ?_
    obtain ⟨s115, hq228, h⟩ := bnd h
    refine OEnds.call0 hm_34 rfl rfl (by decide) rfl (as := [.ref 14]) (rest := []) rfl rfl (ok_discardPlan_1 hq228) ?_
    refine OEnds.adv hm_34 1 (pc' := 21) (L' := [qr 14, qi v1]) (S' := [.int 0]) (H' := (c0 :: c1 :: c2 :: c3 :: c4 :: c5 :: c6 :: c7 :: c8 :: c9 :: c10 :: c11 :: c12 :: c13 :: bk1 zq zn zl s108 s109 s110 s111 s112 s113 zi zf zg zj s114 ze s115 zp po)) rfl ?_
    cases h
    exact OEnds.iret hm_34 rfl rfl
theorem ok_appendToOrder_1 {zq zn zl za zd zb zc zk zh zi zf : List Int32} {zj zm zo zp : Int32} {c0 c1 c2 c3 c4 c5 c6 c7 c8 c9 c10 c11 c12 c13 : ACell} {po : List ACell} {zg : List Int32} {ze v1 : Int32} {w_o_planOrder : List Int32} {w_o_planOrderLength : Int32} (h : f_appendToOrder zg ze v1 = some (w_o_planOrder, w_o_planOrderLength)) : OEnds own_P 37 0 [qr 14, qi v1] [] (c0 :: c1 :: c2 :: c3 :: c4 :: c5 :: c6 :: c7 :: c8 :: c9 :: c10 :: c11 :: c12 :: c13 :: bk1 zq zn zl za zd zb zc zk zh zi zf zg zj zm ze zo zp po) (none, (c0 :: c1 :: c2 :: c3 :: c4 :: c5 :: c6 :: c7 :: c8 :: c9 :: c10 :: c11 :: c12 :: c13 :: bk1 zq zn zl za zd zb zc zk zh zi zf w_o_planOrder zj zm w_o_planOrderLength zo zp po), 0, 0) := by
  unfold f_appendToOrder at h
  refine OEnds.adv hm_37 2 (pc' := 4) (L' := [qr 14, qi v1]) (S' := [.int ze]) (H' := (c0 :: c1 :: c2 :: c3 :: c4 :: c5 :: c6 :: c7 :: c8 :: c9 :: c10 :: c11 :: c12 :: c13 :: bk1 zq zn zl za zd zb zc zk zh zi zf zg zj zm ze zo zp po)) rfl ?_
  by_cases hc229 : ze < (0 : Int32)
  · simp only [if_pos hc229] at h
    refine OEnds.ifT hm_37 rfl (q := 16) rfl ((tlt hc229).1) ?_
    show OEnds own_P 37 16 [qr 14, qi v1] [] (c0 :: c1 :: c2 :: c3 :: c4 :: c5 :: c6 :: c7 :: c8 :: c9 :: c10 :: c11 :: c12 :: c13 :: bk1 zq zn zl za zd zb zc zk zh zi zf zg zj zm ze zo zp po) _
    cases h
    exact OEnds.vret hm_37 rfl rfl
  · simp only [if_neg hc229] at h
    refine OEnds.ifF hm_37 rfl ((flt hc229).1) ?_
    refine OEnds.adv hm_37 3 (pc' := 13) (L' := [qr 14, qi v1]) (S' := [.int 32, .int ze]) (H' := (c0 :: c1 :: c2 :: c3 :: c4 :: c5 :: c6 :: c7 :: c8 :: c9 :: c10 :: c11 :: c12 :: c13 :: bk1 zq zn zl za zd zb zc zk zh zi zf zg zj zm ze zo zp po)) rfl ?_
    by_cases hc230 : ze < (32 : Int32)
    · simp only [if_pos hc230] at h
      refine OEnds.icmpT hm_37 rfl (q := 17) rfl ((tlt hc230).1) ?_
      refine OEnds.adv hm_37 5 (pc' := 26) (L' := [qr 14, qi v1]) (S' := [.int v1, .int ze, .ref 26]) (H' := (c0 :: c1 :: c2 :: c3 :: c4 :: c5 :: c6 :: c7 :: c8 :: c9 :: c10 :: c11 :: c12 :: c13 :: bk1 zq zn zl za zd zb zc zk zh zi zf zg zj zm ze zo zp po)) rfl ?_
      obtain ⟨A116, hA116, h⟩ := bnd h
      refine OEnds.plain hm_37 rfl rfl (x_iastore rfl (Nat.le_of_ble_eq_true rfl) hA116) ?_
      refine OEnds.adv hm_37 6 (pc' := 37) (L' := [qr 14, qi v1]) (S' := []) (H' := (c0 :: c1 :: c2 :: c3 :: c4 :: c5 :: c6 :: c7 :: c8 :: c9 :: c10 :: c11 :: c12 :: c13 :: bk1 zq zn zl za zd zb zc zk zh zi zf A116 zj zm (ze + (1 : Int32)) zo zp po)) rfl ?_
      cases h
      exact OEnds.vret hm_37 rfl rfl
    · simp only [if_neg hc230] at h
      refine OEnds.icmpF hm_37 rfl ((flt hc230).1) ?_
      show OEnds own_P 37 16 [qr 14, qi v1] [] (c0 :: c1 :: c2 :: c3 :: c4 :: c5 :: c6 :: c7 :: c8 :: c9 :: c10 :: c11 :: c12 :: c13 :: bk1 zq zn zl za zd zb zc zk zh zi zf zg zj zm ze zo zp po) _
      cases h
      exact OEnds.vret hm_37 rfl rfl
theorem ok_buildOrder_15_1 {zq zn zl za zd zb zc zk zh zi zf : List Int32} {zj zm zo zp : Int32} {c0 c1 c2 c3 c4 c5 c6 c7 c8 c9 c10 c11 c12 c13 : ACell} {po : List ACell} {k7 : List Int32 → Int32 → Int32 → Option (List Int32 × Int32)} (hk7 : ∀ {zg : List Int32} {ze v1 : Int32} {d2 : Slot} {w_o_planOrder : List Int32} {w_o_planOrderLength : Int32}, k7 zg ze v1 = some (w_o_planOrder, w_o_planOrderLength) → OEnds own_P 10 7 [qr 14, qi v1, d2] [] (c0 :: c1 :: c2 :: c3 :: c4 :: c5 :: c6 :: c7 :: c8 :: c9 :: c10 :: c11 :: c12 :: c13 :: bk1 zq zn zl za zd zb zc zk zh zi zf zg zj zm ze zo zp po) (none, (c0 :: c1 :: c2 :: c3 :: c4 :: c5 :: c6 :: c7 :: c8 :: c9 :: c10 :: c11 :: c12 :: c13 :: bk1 zq zn zl za zd zb zc zk zh zi zf w_o_planOrder zj zm w_o_planOrderLength zo zp po), 0, 0)) : ∀ (n : Nat), ∀ {zg : List Int32} {ze v1 v2 : Int32} {w_o_planOrder : List Int32} {w_o_planOrderLength : Int32}, f_buildOrder_15 k7 za zb n zg ze v1 v2 = some (w_o_planOrder, w_o_planOrderLength) → OEnds own_P 10 15 [qr 14, qi v1, qi v2] [] (c0 :: c1 :: c2 :: c3 :: c4 :: c5 :: c6 :: c7 :: c8 :: c9 :: c10 :: c11 :: c12 :: c13 :: bk1 zq zn zl za zd zb zc zk zh zi zf zg zj zm ze zo zp po) (none, (c0 :: c1 :: c2 :: c3 :: c4 :: c5 :: c6 :: c7 :: c8 :: c9 :: c10 :: c11 :: c12 :: c13 :: bk1 zq zn zl za zd zb zc zk zh zi zf w_o_planOrder zj zm w_o_planOrderLength zo zp po), 0, 0) := by
  intro n
  induction n with
  | zero => intro zg ze v1 v2 w_o_planOrder w_o_planOrderLength h; cases h
  | succ n ih =>
    intro zg ze v1 v2 w_o_planOrder w_o_planOrderLength h
    unfold f_buildOrder_15 at h
    refine OEnds.adv hm_10 2 (pc' := 18) (L' := [qr 14, qi v1, qi v2]) (S' := [.int 32, .int v2]) (H' := (c0 :: c1 :: c2 :: c3 :: c4 :: c5 :: c6 :: c7 :: c8 :: c9 :: c10 :: c11 :: c12 :: c13 :: bk1 zq zn zl za zd zb zc zk zh zi zf zg zj zm ze zo zp po)) rfl ?_
    by_cases hc231 : v2 < (32 : Int32)
    · simp only [if_pos hc231] at h
      refine OEnds.icmpF hm_10 rfl ((tlt hc231).2.1) ?_
      refine OEnds.adv hm_10 3 (pc' := 26) (L' := [qr 14, qi v1, qi v2]) (S' := [.int v2, .ref 18]) (H' := (c0 :: c1 :: c2 :: c3 :: c4 :: c5 :: c6 :: c7 :: c8 :: c9 :: c10 :: c11 :: c12 :: c13 :: bk1 zq zn zl za zd zb zc zk zh zi zf zg zj zm ze zo zp po)) rfl ?_
      obtain ⟨x117, hx117, h⟩ := bnd h
      refine OEnds.plain hm_10 rfl rfl (x_baload rfl hx117) ?_
      show OEnds own_P 10 27 [qr 14, qi v1, qi v2] [.int x117] (c0 :: c1 :: c2 :: c3 :: c4 :: c5 :: c6 :: c7 :: c8 :: c9 :: c10 :: c11 :: c12 :: c13 :: bk1 zq zn zl za zd zb zc zk zh zi zf zg zj zm ze zo zp po) _
      by_cases hc232 : x117 = (0 : Int32)
      · simp only [if_pos hc232] at h
        refine OEnds.ifT hm_10 rfl (q := 45) rfl ((teq hc232).1) ?_
        refine OEnds.adv hm_10 2 (pc' := 15) (L' := [qr 14, qi v1, qi (v2 + (1 : Int32))]) (S' := []) (H' := (c0 :: c1 :: c2 :: c3 :: c4 :: c5 :: c6 :: c7 :: c8 :: c9 :: c10 :: c11 :: c12 :: c13 :: bk1 zq zn zl za zd zb zc zk zh zi zf zg zj zm ze zo zp po)) rfl ?_
        exact ih h
      · simp only [if_neg hc232] at h
        refine OEnds.ifF hm_10 rfl ((feq hc232).1) ?_
        refine OEnds.adv hm_10 3 (pc' := 35) (L' := [qr 14, qi v1, qi v2]) (S' := [.int v2, .ref 20]) (H' := (c0 :: c1 :: c2 :: c3 :: c4 :: c5 :: c6 :: c7 :: c8 :: c9 :: c10 :: c11 :: c12 :: c13 :: bk1 zq zn zl za zd zb zc zk zh zi zf zg zj zm ze zo zp po)) rfl ?_
        obtain ⟨x118, hx118, h⟩ := bnd h
        refine OEnds.plain hm_10 rfl rfl (x_iaload rfl hx118) ?_
        refine OEnds.adv hm_10 1 (pc' := 37) (L' := [qr 14, qi v1, qi v2]) (S' := [.int v1, .int x118]) (H' := (c0 :: c1 :: c2 :: c3 :: c4 :: c5 :: c6 :: c7 :: c8 :: c9 :: c10 :: c11 :: c12 :: c13 :: bk1 zq zn zl za zd zb zc zk zh zi zf zg zj zm ze zo zp po)) rfl ?_
        by_cases hc233 : x118 = v1
        · simp only [if_pos hc233] at h
          refine OEnds.icmpF hm_10 rfl ((teq hc233).2) ?_
          refine OEnds.adv hm_10 2 (pc' := 42) (L' := [qr 14, qi v1, qi v2]) (S' := [.int v2, .ref 14]) (H' := (c0 :: c1 :: c2 :: c3 :: c4 :: c5 :: c6 :: c7 :: c8 :: c9 :: c10 :: c11 :: c12 :: c13 :: bk1 zq zn zl za zd zb zc zk zh zi zf zg zj zm ze zo zp po)) rfl ?_
          obtain ⟨⟨s119, s120⟩, hq234, h⟩ := bnd h
          refine OEnds.call0 hm_10 rfl rfl (by decide) rfl (as := [.ref 14, .int v2]) (rest := []) rfl rfl (ok_appendToOrder_1 hq234) ?_
          refine OEnds.adv hm_10 2 (pc' := 15) (L' := [qr 14, qi v1, qi (v2 + (1 : Int32))]) (S' := []) (H' := (c0 :: c1 :: c2 :: c3 :: c4 :: c5 :: c6 :: c7 :: c8 :: c9 :: c10 :: c11 :: c12 :: c13 :: bk1 zq zn zl za zd zb zc zk zh zi zf s119 zj zm s120 zo zp po)) rfl ?_
          exact ih h
        · simp only [if_neg hc233] at h
          refine OEnds.icmpT hm_10 rfl (q := 45) rfl ((feq hc233).2) ?_
          refine OEnds.adv hm_10 2 (pc' := 15) (L' := [qr 14, qi v1, qi (v2 + (1 : Int32))]) (S' := []) (H' := (c0 :: c1 :: c2 :: c3 :: c4 :: c5 :: c6 :: c7 :: c8 :: c9 :: c10 :: c11 :: c12 :: c13 :: bk1 zq zn zl za zd zb zc zk zh zi zf zg zj zm ze zo zp po)) rfl ?_
          exact ih h
    · simp only [if_neg hc231] at h
      refine OEnds.icmpT hm_10 rfl (q := 51) rfl ((flt hc231).2.1) ?_
      refine OEnds.adv hm_10 2 (pc' := 7) (L' := [qr 14, qi (v1 + (1 : Int32)), qi v2]) (S' := []) (H' := (c0 :: c1 :: c2 :: c3 :: c4 :: c5 :: c6 :: c7 :: c8 :: c9 :: c10 :: c11 :: c12 :: c13 :: bk1 zq zn zl za zd zb zc zk zh zi zf zg zj zm ze zo zp po)) rfl ?_
      exact hk7 h
theorem ok_buildOrder_7_1 {zq zn zl za zd zb zc zk zh zi zf : List Int32} {zj zm zo zp : Int32} {c0 c1 c2 c3 c4 c5 c6 c7 c8 c9 c10 c11 c12 c13 : ACell} {po : List ACell} : ∀ (n : Nat), ∀ {zg : List Int32} {ze v1 : Int32} {d2 : Slot} {w_o_planOrder : List Int32} {w_o_planOrderLength : Int32}, f_buildOrder_7 za zb n zg ze v1 = some (w_o_planOrder, w_o_planOrderLength) → OEnds own_P 10 7 [qr 14, qi v1, d2] [] (c0 :: c1 :: c2 :: c3 :: c4 :: c5 :: c6 :: c7 :: c8 :: c9 :: c10 :: c11 :: c12 :: c13 :: bk1 zq zn zl za zd zb zc zk zh zi zf zg zj zm ze zo zp po) (none, (c0 :: c1 :: c2 :: c3 :: c4 :: c5 :: c6 :: c7 :: c8 :: c9 :: c10 :: c11 :: c12 :: c13 :: bk1 zq zn zl za zd zb zc zk zh zi zf w_o_planOrder zj zm w_o_planOrderLength zo zp po), 0, 0) := by
  intro n
  induction n with
  | zero => intro zg ze v1 d2 w_o_planOrder w_o_planOrderLength h; cases h
  | succ n ih =>
    intro zg ze v1 d2 w_o_planOrder w_o_planOrderLength h
    unfold f_buildOrder_7 at h
    refine OEnds.adv hm_10 2 (pc' := 10) (L' := [qr 14, qi v1, qu]) (S' := [.int 32, .int v1]) (H' := (c0 :: c1 :: c2 :: c3 :: c4 :: c5 :: c6 :: c7 :: c8 :: c9 :: c10 :: c11 :: c12 :: c13 :: bk1 zq zn zl za zd zb zc zk zh zi zf zg zj zm ze zo zp po)) rfl ?_
    by_cases hc235 : v1 < (32 : Int32)
    · simp only [if_pos hc235] at h
      refine OEnds.icmpF hm_10 rfl ((tlt hc235).2.1) ?_
      refine OEnds.adv hm_10 2 (pc' := 15) (L' := [qr 14, qi v1, qi 0]) (S' := []) (H' := (c0 :: c1 :: c2 :: c3 :: c4 :: c5 :: c6 :: c7 :: c8 :: c9 :: c10 :: c11 :: c12 :: c13 :: bk1 zq zn zl za zd zb zc zk zh zi zf zg zj zm ze zo zp po)) rfl ?_
      exact ok_buildOrder_15_1 (k7 := f_buildOrder_7 za zb n) ih 100000 h
    · simp only [if_neg hc235] at h
      refine OEnds.icmpT hm_10 rfl (q := 57) rfl ((flt hc235).2.1) ?_
      show OEnds own_P 10 57 [qr 14, qi v1, qu] [] (c0 :: c1 :: c2 :: c3 :: c4 :: c5 :: c6 :: c7 :: c8 :: c9 :: c10 :: c11 :: c12 :: c13 :: bk1 zq zn zl za zd zb zc zk zh zi zf zg zj zm ze zo zp po) _
      cases h
      exact OEnds.vret hm_10 rfl rfl
theorem ok_buildOrder_1 {zq zn zl za zd zb zc zk zh zi zf : List Int32} {zj zm zo zp : Int32} {c0 c1 c2 c3 c4 c5 c6 c7 c8 c9 c10 c11 c12 c13 : ACell} {po : List ACell} {zg : List Int32} {ze : Int32} {w_o_planOrder : List Int32} {w_o_planOrderLength : Int32} (h : f_buildOrder za zb zg ze = some (w_o_planOrder, w_o_planOrderLength)) : OEnds own_P 10 0 [qr 14, qu, qu] [] (c0 :: c1 :: c2 :: c3 :: c4 :: c5 :: c6 :: c7 :: c8 :: c9 :: c10 :: c11 :: c12 :: c13 :: bk1 zq zn zl za zd zb zc zk zh zi zf zg zj zm ze zo zp po) (none, (c0 :: c1 :: c2 :: c3 :: c4 :: c5 :: c6 :: c7 :: c8 :: c9 :: c10 :: c11 :: c12 :: c13 :: bk1 zq zn zl za zd zb zc zk zh zi zf w_o_planOrder zj zm w_o_planOrderLength zo zp po), 0, 0) := by
  unfold f_buildOrder at h
  refine OEnds.adv hm_10 5 (pc' := 7) (L' := [qr 14, qi 0, qu]) (S' := []) (H' := (c0 :: c1 :: c2 :: c3 :: c4 :: c5 :: c6 :: c7 :: c8 :: c9 :: c10 :: c11 :: c12 :: c13 :: bk1 zq zn zl za zd zb zc zk zh zi zf zg zj zm 0 zo zp po)) rfl ?_
  exact ok_buildOrder_7_1 100000 h
theorem ok_gridIndex_1 {zq zn zl za zd zb zc zk zh zi zf zg : List Int32} {zj zm ze zo zp : Int32} {c0 c1 c2 c3 c4 c5 c6 c7 c8 c9 c10 c11 c12 c13 : ACell} {po : List ACell} {v1 v2 res : Int32} (h : f_gridIndex v1 v2 = some res) : OEnds own_P 41 0 [qr 14, qi v1, qi v2] [] (c0 :: c1 :: c2 :: c3 :: c4 :: c5 :: c6 :: c7 :: c8 :: c9 :: c10 :: c11 :: c12 :: c13 :: bk1 zq zn zl za zd zb zc zk zh zi zf zg zj zm ze zo zp po) (some (.int res), (c0 :: c1 :: c2 :: c3 :: c4 :: c5 :: c6 :: c7 :: c8 :: c9 :: c10 :: c11 :: c12 :: c13 :: bk1 zq zn zl za zd zb zc zk zh zi zf zg zj zm ze zo zp po), 0, 0) := by
  unfold f_gridIndex at h
  refine OEnds.adv hm_41 5 (pc' := 6) (L' := [qr 14, qi v1, qi v2]) (S' := [.int ((v1 * (32 : Int32)) + v2)]) (H' := (c0 :: c1 :: c2 :: c3 :: c4 :: c5 :: c6 :: c7 :: c8 :: c9 :: c10 :: c11 :: c12 :: c13 :: bk1 zq zn zl za zd zb zc zk zh zi zf zg zj zm ze zo zp po)) rfl ?_
  cases h
  exact OEnds.iret hm_41 rfl rfl
theorem ok_gridAt_1 {zq zn zl za zd zb zc zk zh zi zf zg : List Int32} {zj zm ze zo zp : Int32} {c0 c1 c2 c3 c4 c5 c6 c7 c8 c9 c10 c11 c12 c13 : ACell} {po : List ACell} {v1 v2 res : Int32} (h : f_gridAt zf v1 v2 = some res) : OEnds own_P 40 0 [qr 14, qi v1, qi v2] [] (c0 :: c1 :: c2 :: c3 :: c4 :: c5 :: c6 :: c7 :: c8 :: c9 :: c10 :: c11 :: c12 :: c13 :: bk1 zq zn zl za zd zb zc zk zh zi zf zg zj zm ze zo zp po) (some (.int res), (c0 :: c1 :: c2 :: c3 :: c4 :: c5 :: c6 :: c7 :: c8 :: c9 :: c10 :: c11 :: c12 :: c13 :: bk1 zq zn zl za zd zb zc zk zh zi zf zg zj zm ze zo zp po), 0, 0) := by
  unfold f_gridAt at h
  refine OEnds.adv hm_40 1 (pc' := 1) (L' := [qr 14, qi v1, qi v2]) (S' := [.int v1]) (H' := (c0 :: c1 :: c2 :: c3 :: c4 :: c5 :: c6 :: c7 :: c8 :: c9 :: c10 :: c11 :: c12 :: c13 :: bk1 zq zn zl za zd zb zc zk zh zi zf zg zj zm ze zo zp po)) rfl ?_
  by_cases hc236 : v1 < (0 : Int32)
  · simp only [if_pos hc236] at h
    refine OEnds.ifT hm_40 rfl (q := 18) rfl ((tlt hc236).1) ?_
    refine OEnds.adv hm_40 1 (pc' := 19) (L' := [qr 14, qi v1, qi v2]) (S' := [.int (-1)]) (H' := (c0 :: c1 :: c2 :: c3 :: c4 :: c5 :: c6 :: c7 :: c8 :: c9 :: c10 :: c11 :: c12 :: c13 :: bk1 zq zn zl za zd zb zc zk zh zi zf zg zj zm ze zo zp po)) rfl ?_
    cases h
    exact OEnds.iret hm_40 rfl rfl
  · simp only [if_neg hc236] at h
    refine OEnds.ifF hm_40 rfl ((flt hc236).1) ?_
    refine OEnds.adv hm_40 2 (pc' := 7) (L' := [qr 14, qi v1, qi v2]) (S' := [.int 24, .int v1]) (H' := (c0 :: c1 :: c2 :: c3 :: c4 :: c5 :: c6 :: c7 :: c8 :: c9 :: c10 :: c11 :: c12 :: c13 :: bk1 zq zn zl za zd zb zc zk zh zi zf zg zj zm ze zo zp po)) rfl ?_
    by_cases hc237 : v1 < (24 : Int32)
    · simp only [if_pos hc237] at h
      refine OEnds.icmpF hm_40 rfl ((tlt hc237).2.1) ?_
      refine OEnds.adv hm_40 2 (pc' := 12) (L' := [qr 14, qi v1, qi v2]) (S' := [.int v2, .ref 14]) (H' := (c0 :: c1 :: c2 :: c3 :: c4 :: c5 :: c6 :: c7 :: c8 :: c9 :: c10 :: c11 :: c12 :: c13 :: bk1 zq zn zl za zd zb zc zk zh zi zf zg zj zm ze zo zp po)) rfl ?_
      obtain ⟨r121, hq238, h⟩ := bnd h
      refine OEnds.call0 hm_40 rfl rfl (by decide) rfl (as := [.ref 14, .int v2]) (rest := []) rfl rfl (ok_isValidNight_1 hq238) ?_
      show OEnds own_P 40 15 [qr 14, qi v1, qi v2] [.int r121] (c0 :: c1 :: c2 :: c3 :: c4 :: c5 :: c6 :: c7 :: c8 :: c9 :: c10 :: c11 :: c12 :: c13 :: bk1 zq zn zl za zd zb zc zk zh zi zf zg zj zm ze zo zp po) _
      by_cases hc239 : r121 = (0 : Int32)
      · simp only [if_pos hc239] at h
        refine OEnds.ifF hm_40 rfl ((teq hc239).2) ?_
        refine OEnds.adv hm_40 1 (pc' := 19) (L' := [qr 14, qi v1, qi v2]) (S' := [.int (-1)]) (H' := (c0 :: c1 :: c2 :: c3 :: c4 :: c5 :: c6 :: c7 :: c8 :: c9 :: c10 :: c11 :: c12 :: c13 :: bk1 zq zn zl za zd zb zc zk zh zi zf zg zj zm ze zo zp po)) rfl ?_
        cases h
        exact OEnds.iret hm_40 rfl rfl
      · simp only [if_neg hc239] at h
        refine OEnds.ifT hm_40 rfl (q := 20) rfl ((feq hc239).2) ?_
        refine OEnds.adv hm_40 5 (pc' := 27) (L' := [qr 14, qi v1, qi v2]) (S' := [.int v2, .int v1, .ref 14, .ref 25]) (H' := (c0 :: c1 :: c2 :: c3 :: c4 :: c5 :: c6 :: c7 :: c8 :: c9 :: c10 :: c11 :: c12 :: c13 :: bk1 zq zn zl za zd zb zc zk zh zi zf zg zj zm ze zo zp po)) rfl ?_
        obtain ⟨r122, hq240, h⟩ := bnd h
        refine OEnds.call0 hm_40 rfl rfl (by decide) rfl (as := [.ref 14, .int v1, .int v2]) (rest := [.ref 25]) rfl rfl (ok_gridIndex_1 hq240) ?_
        show OEnds own_P 40 30 [qr 14, qi v1, qi v2] [.int r122, .ref 25] (c0 :: c1 :: c2 :: c3 :: c4 :: c5 :: c6 :: c7 :: c8 :: c9 :: c10 :: c11 :: c12 :: c13 :: bk1 zq zn zl za zd zb zc zk zh zi zf zg zj zm ze zo zp po) _
        obtain ⟨x123, hx123, h⟩ := bnd h
        refine OEnds.plain hm_40 rfl rfl (x_iaload rfl hx123) ?_
        show OEnds own_P 40 31 [qr 14, qi v1, qi v2] [.int x123] (c0 :: c1 :: c2 :: c3 :: c4 :: c5 :: c6 :: c7 :: c8 :: c9 :: c10 :: c11 :: c12 :: c13 :: bk1 zq zn zl za zd zb zc zk zh zi zf zg zj zm ze zo zp po) _
        cases h
        exact OEnds.iret hm_40 rfl rfl
    · simp only [if_neg hc237] at h
      refine OEnds.icmpT hm_40 rfl (q := 18) rfl ((flt hc237).2.1) ?_
      refine OEnds.adv hm_40 1 (pc' := 19) (L' := [qr 14, qi v1, qi v2]) (S' := [.int (-1)]) (H' := (c0 :: c1 :: c2 :: c3 :: c4 :: c5 :: c6 :: c7 :: c8 :: c9 :: c10 :: c11 :: c12 :: c13 :: bk1 zq zn zl za zd zb zc zk zh zi zf zg zj zm ze zo zp po)) rfl ?_
      cases h
      exact OEnds.iret hm_40 rfl rfl
theorem ok_roomIsFree_11_1 {zq zn zl za zd zb zc zk zh zi zf zg : List Int32} {zj zm ze zo zp : Int32} {c0 c1 c2 c3 c4 c5 c6 c7 c8 c9 c10 c11 c12 c13 : ACell} {po : List ACell} : ∀ (n : Nat), ∀ {v1 v4 v5 : Int32} {d2 d3 : Slot} {res : Int32}, f_roomIsFree_11 zf n v1 v4 v5 = some res → OEnds own_P 39 11 [qr 14, qi v1, d2, d3, qi v4, qi v5] [] (c0 :: c1 :: c2 :: c3 :: c4 :: c5 :: c6 :: c7 :: c8 :: c9 :: c10 :: c11 :: c12 :: c13 :: bk1 zq zn zl za zd zb zc zk zh zi zf zg zj zm ze zo zp po) (some (.int res), (c0 :: c1 :: c2 :: c3 :: c4 :: c5 :: c6 :: c7 :: c8 :: c9 :: c10 :: c11 :: c12 :: c13 :: bk1 zq zn zl za zd zb zc zk zh zi zf zg zj zm ze zo zp po), 0, 0) := by
  intro n
  induction n with
  | zero => intro v1 v4 v5 d2 d3 res h; cases h
  | succ n ih =>
    intro v1 v4 v5 d2 d3 res h
    unfold f_roomIsFree_11 at h
    refine OEnds.adv hm_39 1 (pc' := 13) (L' := [qr 14, qi v1, qu, qu, qi v4, qi v5]) (S' := [.int v5]) (H' := (c0 :: c1 :: c2 :: c3 :: c4 :: c5 :: c6 :: c7 :: c8 :: c9 :: c10 :: c11 :: c12 :: c13 :: bk1 zq zn zl za zd zb zc zk zh zi zf zg zj zm ze zo zp po)) rfl ?_
    by_cases hc241 : v5 < (0 : Int32)
    · simp only [if_pos hc241] at h
      refine OEnds.ifT hm_39 rfl (q := 42) rfl ((tlt hc241).1) ?_
      refine OEnds.adv hm_39 1 (pc' := 43) (L' := [qr 14, qi v1, qu, qu, qi v4, qi v5]) (S' := [.int 1]) (H' := (c0 :: c1 :: c2 :: c3 :: c4 :: c5 :: c6 :: c7 :: c8 :: c9 :: c10 :: c11 :: c12 :: c13 :: bk1 zq zn zl za zd zb zc zk zh zi zf zg zj zm ze zo zp po)) rfl ?_
      cases h
      exact OEnds.iret hm_39 rfl rfl
    · simp only [if_neg hc241] at h
      refine OEnds.ifF hm_39 rfl ((flt hc241).1) ?_
      refine OEnds.adv hm_39 2 (pc' := 20) (L' := [qr 14, qi v1, qu, qu, qi v4, qi v5]) (S' := [.int v4, .int v5]) (H' := (c0 :: c1 :: c2 :: c3 :: c4 :: c5 :: c6 :: c7 :: c8 :: c9 :: c10 :: c11 :: c12 :: c13 :: bk1 zq zn zl za zd zb zc zk zh zi zf zg zj zm ze zo zp po)) rfl ?_
      by_cases hc242 : v5 < v4
      · simp only [if_pos hc242] at h
        refine OEnds.icmpF hm_39 rfl ((tlt hc242).2.1) ?_
        refine OEnds.adv hm_39 3 (pc' := 27) (L' := [qr 14, qi v1, qu, qu, qi v4, qi v5]) (S' := [.int v5, .int v1, .ref 14]) (H' := (c0 :: c1 :: c2 :: c3 :: c4 :: c5 :: c6 :: c7 :: c8 :: c9 :: c10 :: c11 :: c12 :: c13 :: bk1 zq zn zl za zd zb zc zk zh zi zf zg zj zm ze zo zp po)) rfl ?_
        obtain ⟨r125, hq243, h⟩ := bnd h
        refine OEnds.call0 hm_39 rfl rfl (by decide) rfl (as := [.ref 14, .int v1, .int v5]) (rest := []) rfl rfl (ok_gridAt_1 hq243) ?_
        refine OEnds.adv hm_39 1 (pc' := 31) (L' := [qr 14, qi v1, qu, qu, qi v4, qi v5]) (S' := [.int (-1), .int r125]) (H' := (c0 :: c1 :: c2 :: c3 :: c4 :: c5 :: c6 :: c7 :: c8 :: c9 :: c10 :: c11 :: c12 :: c13 :: bk1 zq zn zl za zd zb zc zk zh zi zf zg zj zm ze zo zp po)) rfl ?_
        by_cases hc244 : r125 = (-1 : Int32)
        · simp only [if_pos hc244] at h
          refine OEnds.icmpT hm_39 rfl (q := 36) rfl ((teq hc244).1) ?_
          refine OEnds.adv hm_39 2 (pc' := 11) (L' := [qr 14, qi v1, qu, qu, qi v4, qi (v5 + (1 : Int32))]) (S' := []) (H' := (c0 :: c1 :: c2 :: c3 :: c4 :: c5 :: c6 :: c7 :: c8 :: c9 :: c10 :: c11 :: c12 :: c13 :: bk1 zq zn zl za zd zb zc zk zh zi zf zg zj zm ze zo zp po)) rfl ?_
          exact ih h
        · simp only [if_neg hc244] at h
          refine OEnds.icmpF hm_39 rfl ((feq hc244).1) ?_
          refine OEnds.adv hm_39 1 (pc' := 35) (L' := [qr 14, qi v1, qu, qu, qi v4, qi v5]) (S' := [.int 0]) (H' := (c0 :: c1 :: c2 :: c3 :: c4 :: c5 :: c6 :: c7 :: c8 :: c9 :: c10 :: c11 :: c12 :: c13 :: bk1 zq zn zl za zd zb zc zk zh zi zf zg zj zm ze zo zp po)) rfl ?_
          cases h
          exact OEnds.iret hm_39 rfl rfl
      · simp only [if_neg hc242] at h
        refine OEnds.icmpT hm_39 rfl (q := 42) rfl ((flt hc242).2.1) ?_
        refine OEnds.adv hm_39 1 (pc' := 43) (L' := [qr 14, qi v1, qu, qu, qi v4, qi v5]) (S' := [.int 1]) (H' := (c0 :: c1 :: c2 :: c3 :: c4 :: c5 :: c6 :: c7 :: c8 :: c9 :: c10 :: c11 :: c12 :: c13 :: bk1 zq zn zl za zd zb zc zk zh zi zf zg zj zm ze zo zp po)) rfl ?_
        cases h
        exact OEnds.iret hm_39 rfl rfl
theorem ok_roomIsFree_1 {zq zn zl za zd zb zc zk zh zi zf zg : List Int32} {zj zm ze zo zp : Int32} {c0 c1 c2 c3 c4 c5 c6 c7 c8 c9 c10 c11 c12 c13 : ACell} {po : List ACell} {v1 v2 v3 res : Int32} (h : f_roomIsFree zf v1 v2 v3 = some res) : OEnds own_P 39 0 [qr 14, qi v1, qi v2, qi v3, qu, qu] [] (c0 :: c1 :: c2 :: c3 :: c4 :: c5 :: c6 :: c7 :: c8 :: c9 :: c10 :: c11 :: c12 :: c13 :: bk1 zq zn zl za zd zb zc zk zh zi zf zg zj zm ze zo zp po) (some (.int res), (c0 :: c1 :: c2 :: c3 :: c4 :: c5 :: c6 :: c7 :: c8 :: c9 :: c10 :: c11 :: c12 :: c13 :: bk1 zq zn zl za zd zb zc zk zh zi zf zg zj zm ze zo zp po), 0, 0) := by
  unfold f_roomIsFree at h
  refine OEnds.adv hm_39 3 (pc' := 3) (L' := [qr 14, qi v1, qi v2, qi v3, qu, qu]) (S' := [.int v3, .int v2, .ref 14]) (H' := (c0 :: c1 :: c2 :: c3 :: c4 :: c5 :: c6 :: c7 :: c8 :: c9 :: c10 :: c11 :: c12 :: c13 :: bk1 zq zn zl za zd zb zc zk zh zi zf zg zj zm ze zo zp po)) rfl ?_
  obtain ⟨r124, hq245, h⟩ := bnd h
  refine OEnds.call0 hm_39 rfl rfl (by decide) rfl (as := [.ref 14, .int v2, .int v3]) (rest := []) rfl rfl (ok_endOf_1 hq245) ?_
  refine OEnds.adv hm_39 3 (pc' := 11) (L' := [qr 14, qi v1, qi v2, qi v3, qi r124, qi v2]) (S' := []) (H' := (c0 :: c1 :: c2 :: c3 :: c4 :: c5 :: c6 :: c7 :: c8 :: c9 :: c10 :: c11 :: c12 :: c13 :: bk1 zq zn zl za zd zb zc zk zh zi zf zg zj zm ze zo zp po)) rfl ?_
  exact ok_roomIsFree_11_1 100000 h
theorem ok_markRoom_23_1 {zq zn zl za zd zb zc zk zh zi zg : List Int32} {zj zm ze zo zp : Int32} {c0 c1 c2 c3 c4 c5 c6 c7 c8 c9 c10 c11 c12 c13 : ACell} {po : List ACell} : ∀ (n : Nat), ∀ {zf : List Int32} {v1 v2 v5 v6 : Int32} {d3 d4 : Slot} {w_o_planGrid : List Int32}, f_markRoom_23 n zf v1 v2 v5 v6 = some w_o_planGrid → OEnds own_P 42 23 [qr 14, qi v1, qi v2, d3, d4, qi v5, qi v6] [] (c0 :: c1 :: c2 :: c3 :: c4 :: c5 :: c6 :: c7 :: c8 :: c9 :: c10 :: c11 :: c12 :: c13 :: bk1 zq zn zl za zd zb zc zk zh zi zf zg zj zm ze zo zp po) (none, (c0 :: c1 :: c2 :: c3 :: c4 :: c5 :: c6 :: c7 :: c8 :: c9 :: c10 :: c11 :: c12 :: c13 :: bk1 zq zn zl za zd zb zc zk zh zi w_o_planGrid zg zj zm ze zo zp po), 0, 0) := by
  intro n
  induction n with
  | zero => intro zf v1 v2 v5 v6 d3 d4 w_o_planGrid h; cases h
  | succ n ih =>
    intro zf v1 v2 v5 v6 d3 d4 w_o_planGrid h
    unfold f_markRoom_23 at h
    refine OEnds.adv hm_42 1 (pc' := 25) (L' := [qr 14, qi v1, qi v2, qu, qu, qi v5, qi v6]) (S' := [.int v6]) (H' := (c0 :: c1 :: c2 :: c3 :: c4 :: c5 :: c6 :: c7 :: c8 :: c9 :: c10 :: c11 :: c12 :: c13 :: bk1 zq zn zl za zd zb zc zk zh zi zf zg zj zm ze zo zp po)) rfl ?_
    by_cases hc246 : v6 < (0 : Int32)
    · simp only [if_pos hc246] at h
      refine OEnds.ifT hm_42 rfl (q := 54) rfl ((tlt hc246).1) ?_
      show OEnds own_P 42 54 [qr 14, qi v1, qi v2, qu, qu, qi v5, qi v6] [] (c0 :: c1 :: c2 :: c3 :: c4 :: c5 :: c6 :: c7 :: c8 :: c9 :: c10 :: c11 :: c12 :: c13 :: bk1 zq zn zl za zd zb zc zk zh zi zf zg zj zm ze zo zp po) _
      cases h
      exact OEnds.vret hm_42 rfl rfl
    · simp only [if_neg hc246] at h
      refine OEnds.ifF hm_42 rfl ((flt hc246).1) ?_
      refine OEnds.adv hm_42 2 (pc' := 32) (L' := [qr 14, qi v1, qi v2, qu, qu, qi v5, qi v6]) (S' := [.int v5, .int v6]) (H' := (c0 :: c1 :: c2 :: c3 :: c4 :: c5 :: c6 :: c7 :: c8 :: c9 :: c10 :: c11 :: c12 :: c13 :: bk1 zq zn zl za zd zb zc zk zh zi zf zg zj zm ze zo zp po)) rfl ?_
      by_cases hc247 : v6 < v5
      · simp only [if_pos hc247] at h
        refine OEnds.icmpF hm_42 rfl ((tlt hc247).2.1) ?_
        refine OEnds.adv hm_42 5 (pc' := 43) (L' := [qr 14, qi v1, qi v2, qu, qu, qi v5, qi v6]) (S' := [.int v6, .int v1, .ref 14, .ref 25]) (H' := (c0 :: c1 :: c2 :: c3 :: c4 :: c5 :: c6 :: c7 :: c8 :: c9 :: c10 :: c11 :: c12 :: c13 :: bk1 zq zn zl za zd zb zc zk zh zi zf zg zj zm ze zo zp po)) rfl ?_
        obtain ⟨r127, hq248, h⟩ := bnd h
        refine OEnds.call0 hm_42 rfl rfl (by decide) rfl (as := [.ref 14, .int v1, .int v6]) (rest := [.ref 25]) rfl rfl (ok_gridIndex_1 hq248) ?_
        refine OEnds.adv hm_42 1 (pc' := 47) (L' := [qr 14, qi v1, qi v2, qu, qu, qi v5, qi v6]) (S' := [.int v2, .int r127, .ref 25]) (H' := (c0 :: c1 :: c2 :: c3 :: c4 :: c5 :: c6 :: c7 :: c8 :: c9 :: c10 :: c11 :: c12 :: c13 :: bk1 zq zn zl za zd zb zc zk zh zi zf zg zj zm ze zo zp po)) rfl ?_
        obtain ⟨A128, hA128, h⟩ := bnd h
        refine OEnds.plain hm_42 rfl rfl (x_iastore rfl (Nat.le_of_ble_eq_true rfl) hA128) ?_
        refine OEnds.adv hm_42 2 (pc' := 23) (L' := [qr 14, qi v1, qi v2, qu, qu, qi v5, qi (v6 + (1 : Int32))]) (S' := []) (H' := (c0 :: c1 :: c2 :: c3 :: c4 :: c5 :: c6 :: c7 :: c8 :: c9 :: c10 :: c11 :: c12 :: c13 :: bk1 zq zn zl za zd zb zc zk zh zi A128 zg zj zm ze zo zp po)) rfl ?_
        exact ih h
      · simp only [if_neg hc247] at h
        refine OEnds.icmpT hm_42 rfl (q := 54) rfl ((flt hc247).2.1) ?_
        show OEnds own_P 42 54 [qr 14, qi v1, qi v2, qu, qu, qi v5, qi v6] [] (c0 :: c1 :: c2 :: c3 :: c4 :: c5 :: c6 :: c7 :: c8 :: c9 :: c10 :: c11 :: c12 :: c13 :: bk1 zq zn zl za zd zb zc zk zh zi zf zg zj zm ze zo zp po) _
        cases h
        exact OEnds.vret hm_42 rfl rfl
theorem ok_markRoom_1 {zq zn zl za zd zb zc zk zh zi zg : List Int32} {zj zm ze zo zp : Int32} {c0 c1 c2 c3 c4 c5 c6 c7 c8 c9 c10 c11 c12 c13 : ACell} {po : List ACell} {zf : List Int32} {v1 v2 v3 v4 : Int32} {w_o_planGrid : List Int32} (h : f_markRoom zf v1 v2 v3 v4 = some w_o_planGrid) : OEnds own_P 42 0 [qr 14, qi v1, qi v2, qi v3, qi v4, qu, qu] [] (c0 :: c1 :: c2 :: c3 :: c4 :: c5 :: c6 :: c7 :: c8 :: c9 :: c10 :: c11 :: c12 :: c13 :: bk1 zq zn zl za zd zb zc zk zh zi zf zg zj zm ze zo zp po) (none, (c0 :: c1 :: c2 :: c3 :: c4 :: c5 :: c6 :: c7 :: c8 :: c9 :: c10 :: c11 :: c12 :: c13 :: bk1 zq zn zl za zd zb zc zk zh zi w_o_planGrid zg zj zm ze zo zp po), 0, 0) := by
  unfold f_markRoom at h
  refine OEnds.adv hm_42 1 (pc' := 1) (L' := [qr 14, qi v1, qi v2, qi v3, qi v4, qu, qu]) (S' := [.int v1]) (H' := (c0 :: c1 :: c2 :: c3 :: c4 :: c5 :: c6 :: c7 :: c8 :: c9 :: c10 :: c11 :: c12 :: c13 :: bk1 zq zn zl za zd zb zc zk zh zi zf zg zj zm ze zo zp po)) rfl ?_
  by_cases hc249 : v1 < (0 : Int32)
  · simp only [if_pos hc249] at h
    refine OEnds.ifT hm_42 rfl (q := 10) rfl ((tlt hc249).1) ?_
    show OEnds own_P 42 10 [qr 14, qi v1, qi v2, qi v3, qi v4, qu, qu] [] (c0 :: c1 :: c2 :: c3 :: c4 :: c5 :: c6 :: c7 :: c8 :: c9 :: c10 :: c11 :: c12 :: c13 :: bk1 zq zn zl za zd zb zc zk zh zi zf zg zj zm ze zo zp po) _
    cases h
    exact OEnds.vret hm_42 rfl rfl
  · simp only [if_neg hc249] at h
    refine OEnds.ifF hm_42 rfl ((flt hc249).1) ?_
    refine OEnds.adv hm_42 2 (pc' := 7) (L' := [qr 14, qi v1, qi v2, qi v3, qi v4, qu, qu]) (S' := [.int 24, .int v1]) (H' := (c0 :: c1 :: c2 :: c3 :: c4 :: c5 :: c6 :: c7 :: c8 :: c9 :: c10 :: c11 :: c12 :: c13 :: bk1 zq zn zl za zd zb zc zk zh zi zf zg zj zm ze zo zp po)) rfl ?_
    by_cases hc250 : v1 < (24 : Int32)
    · simp only [if_pos hc250] at h
      refine OEnds.icmpT hm_42 rfl (q := 11) rfl ((tlt hc250).1) ?_
      refine OEnds.adv hm_42 3 (pc' := 15) (L' := [qr 14, qi v1, qi v2, qi v3, qi v4, qu, qu]) (S' := [.int v4, .int v3, .ref 14]) (H' := (c0 :: c1 :: c2 :: c3 :: c4 :: c5 :: c6 :: c7 :: c8 :: c9 :: c10 :: c11 :: c12 :: c13 :: bk1 zq zn zl za zd zb zc zk zh zi zf zg zj zm ze zo zp po)) rfl ?_
      obtain ⟨r126, hq251, h⟩ := bnd h
      refine OEnds.call0 hm_42 rfl rfl (by decide) rfl (as := [.ref 14, .int v3, .int v4]) (rest := []) rfl rfl (ok_endOf_1 hq251) ?_
      refine OEnds.adv hm_42 3 (pc' := 23) (L' := [qr 14, qi v1, qi v2, qi v3, qi v4, qi r126, qi v3]) (S' := []) (H' := (c0 :: c1 :: c2 :: c3 :: c4 :: c5 :: c6 :: c7 :: c8 :: c9 :: c10 :: c11 :: c12 :: c13 :: bk1 zq zn zl za zd zb zc zk zh zi zf zg zj zm ze zo zp po)) rfl ?_
      exact ok_markRoom_23_1 100000 h
    · simp only [if_neg hc250] at h
      refine OEnds.icmpF hm_42 rfl ((flt hc250).1) ?_
      show OEnds own_P 42 10 [qr 14, qi v1, qi v2, qi v3, qi v4, qu, qu] [] (c0 :: c1 :: c2 :: c3 :: c4 :: c5 :: c6 :: c7 :: c8 :: c9 :: c10 :: c11 :: c12 :: c13 :: bk1 zq zn zl za zd zb zc zk zh zi zf zg zj zm ze zo zp po) _
      cases h
      exact OEnds.vret hm_42 rfl rfl
theorem ok_placeStay_78_1 {zq zn zl za zd zb zc zk zh zg : List Int32} {zj zm ze zo zp : Int32} {c0 c1 c2 c3 c4 c5 c6 c7 c8 c9 c10 c11 c12 c13 : ACell} {po : List ACell} : ∀ {zi zf : List Int32} {v1 v3 v4 v5 : Int32} {d2 : Slot} {res : Int32} {w_o_planRoom : List Int32} {w_o_planGrid : List Int32}, f_placeStay_78 zl za zd zb zc zj zi zf v1 v3 v4 v5 = some (res, w_o_planRoom, w_o_planGrid) → OEnds own_P 38 78 [qr 14, qi v1, d2, qi v3, qi v4, qi v5] [] (c0 :: c1 :: c2 :: c3 :: c4 :: c5 :: c6 :: c7 :: c8 :: c9 :: c10 :: c11 :: c12 :: c13 :: bk1 zq zn zl za zd zb zc zk zh zi zf zg zj zm ze zo zp po) (some (.int res), (c0 :: c1 :: c2 :: c3 :: c4 :: c5 :: c6 :: c7 :: c8 :: c9 :: c10 :: c11 :: c12 :: c13 :: bk1 zq zn zl za zd zb zc zk zh w_o_planRoom w_o_planGrid zg zj zm ze zo zp po), 0, 0) := by
  intro zi zf v1 v3 v4 v5 d2 res w_o_planRoom w_o_planGrid h
  unfold f_placeStay_78 at h
  refine OEnds.adv hm_38 5 (pc' := 85) (L' := [qr 14, qi v1, qu, qi v3, qi v4, qi v5]) (S' := [.int v4, .int v3, .int v1, .int v5, .ref 14]) (H' := (c0 :: c1 :: c2 :: c3 :: c4 :: c5 :: c6 :: c7 :: c8 :: c9 :: c10 :: c11 :: c12 :: c13 :: bk1 zq zn zl za zd zb zc zk zh zi zf zg zj zm ze zo zp po)) rfl ?_
  obtain ⟨s136, hq252, h⟩ := bnd h
  refine OEnds.call0 hm_38 rfl rfl (by decide) rfl (as := [.ref 14, .int v5, .int v1, .int v3, .int v4]) (rest := []) rfl rfl (ok_markRoom_1 hq252) ?_
  refine OEnds.adv hm_38 4 (pc' := 95) (L' := [qr 14, qi v1, qu, qi v3, qi v4, qi v5]) (S' := [.int v5, .int v1, .ref 24]) (H' := (c0 :: c1 :: c2 :: c3 :: c4 :: c5 :: c6 :: c7 :: c8 :: c9 :: c10 :: c11 :: c12 :: c13 :: bk1 zq zn zl za zd zb zc zk zh zi s136 zg zj zm ze zo zp po)) rfl ?_
  obtain ⟨A137, hA137, h⟩ := bnd h
  refine OEnds.plain hm_38 rfl rfl (x_iastore rfl (Nat.le_of_ble_eq_true rfl) hA137) ?_
  refine OEnds.adv hm_38 1 (pc' := 97) (L' := [qr 14, qi v1, qu, qi v3, qi v4, qi v5]) (S' := [.int 1]) (H' := (c0 :: c1 :: c2 :: c3 :: c4 :: c5 :: c6 :: c7 :: c8 :: c9 :: c10 :: c11 :: c12 :: c13 :: bk1 zq zn zl za zd zb zc zk zh A137 s136 zg zj zm ze zo zp po)) rfl ?_
  cases h
  exact OEnds.iret hm_38 rfl rfl
theorem ok_placeStay_50_1 {zq zn zl za zd zb zc zk zh zg : List Int32} {zj zm ze zo zp : Int32} {c0 c1 c2 c3 c4 c5 c6 c7 c8 c9 c10 c11 c12 c13 : ACell} {po : List ACell} {k78 : List Int32 → List Int32 → Int32 → Int32 → Int32 → Int32 → Option (Int32 × List Int32 × List Int32)} (hk78 : ∀ {zi zf : List Int32} {v1 v3 v4 v5 : Int32} {d2 : Slot} {res : Int32} {w_o_planRoom : List Int32} {w_o_planGrid : List Int32}, k78 zi zf v1 v3 v4 v5 = some (res, w_o_planRoom, w_o_planGrid) → OEnds own_P 38 78 [qr 14, qi v1, d2, qi v3, qi v4, qi v5] [] (c0 :: c1 :: c2 :: c3 :: c4 :: c5 :: c6 :: c7 :: c8 :: c9 :: c10 :: c11 :: c12 :: c13 :: bk1 zq zn zl za zd zb zc zk zh zi zf zg zj zm ze zo zp po) (some (.int res), (c0 :: c1 :: c2 :: c3 :: c4 :: c5 :: c6 :: c7 :: c8 :: c9 :: c10 :: c11 :: c12 :: c13 :: bk1 zq zn zl za zd zb zc zk zh w_o_planRoom w_o_planGrid zg zj zm ze zo zp po), 0, 0)) : ∀ (n : Nat), ∀ {zi zf : List Int32} {v1 v3 v4 v5 : Int32} {d2 : Slot} {res : Int32} {w_o_planRoom : List Int32} {w_o_planGrid : List Int32}, f_placeStay_50 k78 zl za zd zb zc zj n zi zf v1 v3 v4 v5 = some (res, w_o_planRoom, w_o_planGrid) → OEnds own_P 38 50 [qr 14, qi v1, d2, qi v3, qi v4, qi v5] [] (c0 :: c1 :: c2 :: c3 :: c4 :: c5 :: c6 :: c7 :: c8 :: c9 :: c10 :: c11 :: c12 :: c13 :: bk1 zq zn zl za zd zb zc zk zh zi zf zg zj zm ze zo zp po) (some (.int res), (c0 :: c1 :: c2 :: c3 :: c4 :: c5 :: c6 :: c7 :: c8 :: c9 :: c10 :: c11 :: c12 :: c13 :: bk1 zq zn zl za zd zb zc zk zh w_o_planRoom w_o_planGrid zg zj zm ze zo zp po), 0, 0) := by
  intro n
  induction n with
  | zero => intro zi zf v1 v3 v4 v5 d2 res w_o_planRoom w_o_planGrid h; cases h
  | succ n ih =>
    intro zi zf v1 v3 v4 v5 d2 res w_o_planRoom w_o_planGrid h
    unfold f_placeStay_50 at h
    refine OEnds.adv hm_38 3 (pc' := 56) (L' := [qr 14, qi v1, qu, qi v3, qi v4, qi v5]) (S' := [.int zj, .int v5]) (H' := (c0 :: c1 :: c2 :: c3 :: c4 :: c5 :: c6 :: c7 :: c8 :: c9 :: c10 :: c11 :: c12 :: c13 :: bk1 zq zn zl za zd zb zc zk zh zi zf zg zj zm ze zo zp po)) rfl ?_
    by_cases hc253 : v5 < zj
    · simp only [if_pos hc253] at h
      refine OEnds.icmpF hm_38 rfl ((tlt hc253).2.1) ?_
      refine OEnds.adv hm_38 2 (pc' := 63) (L' := [qr 14, qi v1, qu, qi v3, qi v4, qi v5]) (S' := [.int 24, .int v5]) (H' := (c0 :: c1 :: c2 :: c3 :: c4 :: c5 :: c6 :: c7 :: c8 :: c9 :: c10 :: c11 :: c12 :: c13 :: bk1 zq zn zl za zd zb zc zk zh zi zf zg zj zm ze zo zp po)) rfl ?_
      by_cases hc254 : v5 < (24 : Int32)
      · simp only [if_pos hc254] at h
        refine OEnds.icmpF hm_38 rfl ((tlt hc254).2.1) ?_
        refine OEnds.adv hm_38 4 (pc' := 72) (L' := [qr 14, qi v1, qu, qi v3, qi v4, qi v5]) (S' := [.int v4, .int v3, .int v5, .ref 14]) (H' := (c0 :: c1 :: c2 :: c3 :: c4 :: c5 :: c6 :: c7 :: c8 :: c9 :: c10 :: c11 :: c12 :: c13 :: bk1 zq zn zl za zd zb zc zk zh zi zf zg zj zm ze zo zp po)) rfl ?_
        obtain ⟨r135, hq255, h⟩ := bnd h
        refine OEnds.call0 hm_38 rfl rfl (by decide) rfl (as := [.ref 14, .int v5, .int v3, .int v4]) (rest := []) rfl rfl (ok_roomIsFree_1 hq255) ?_
        show OEnds own_P 38 75 [qr 14, qi v1, qu, qi v3, qi v4, qi v5] [.int r135] (c0 :: c1 :: c2 :: c3 :: c4 :: c5 :: c6 :: c7 :: c8 :: c9 :: c10 :: c11 :: c12 :: c13 :: bk1 zq zn zl za zd zb zc zk zh zi zf zg zj zm ze zo zp po) _
        by_cases hc256 : r135 = (0 : Int32)
        · simp only [if_pos hc256] at h
          refine OEnds.ifT hm_38 rfl (q := 98) rfl ((teq hc256).1) ?_
          refine OEnds.adv hm_38 2 (pc' := 50) (L' := [qr 14, qi v1, qu, qi v3, qi v4, qi (v5 + (1 : Int32))]) (S' := []) (H' := (c0 :: c1 :: c2 :: c3 :: c4 :: c5 :: c6 :: c7 :: c8 :: c9 :: c10 :: c11 :: c12 :: c13 :: bk1 zq zn zl za zd zb zc zk zh zi zf zg zj zm ze zo zp po)) rfl ?_
          exact ih h
        · simp only [if_neg hc256] at h
          refine OEnds.ifF hm_38 rfl ((feq hc256).1) ?_
          show OEnds own_P 38 78 [qr 14, qi v1, qu, qi v3, qi v4, qi v5] [] (c0 :: c1 :: c2 :: c3 :: c4 :: c5 :: c6 :: c7 :: c8 :: c9 :: c10 :: c11 :: c12 :: c13 :: bk1 zq zn zl za zd zb zc zk zh zi zf zg zj zm ze zo zp po) _
          exact hk78 h
      · simp only [if_neg hc254] at h
        refine OEnds.icmpT hm_38 rfl (q := 104) rfl ((flt hc254).2.1) ?_
        refine OEnds.adv hm_38 1 (pc' := 105) (L' := [qr 14, qi v1, qu, qi v3, qi v4, qi v5]) (S' := [.int 0]) (H' := (c0 :: c1 :: c2 :: c3 :: c4 :: c5 :: c6 :: c7 :: c8 :: c9 :: c10 :: c11 :: c12 :: c13 :: bk1 zq zn zl za zd zb zc zk zh zi zf zg zj zm ze zo zp po)) rfl ?_
        cases h
        exact OEnds.iret hm_38 rfl rfl
    · simp only [if_neg hc253] at h
      refine OEnds.icmpT hm_38 rfl (q := 104) rfl ((flt hc253).2.1) ?_
      refine OEnds.adv hm_38 1 (pc' := 105) (L' := [qr 14, qi v1, qu, qi v3, qi v4, qi v5]) (S' := [.int 0]) (H' := (c0 :: c1 :: c2 :: c3 :: c4 :: c5 :: c6 :: c7 :: c8 :: c9 :: c10 :: c11 :: c12 :: c13 :: bk1 zq zn zl za zd zb zc zk zh zi zf zg zj zm ze zo zp po)) rfl ?_
      cases h
      exact OEnds.iret hm_38 rfl rfl
theorem ok_placeStay_1 {zq zn zl za zd zb zc zk zh zg : List Int32} {zj zm ze zo zp : Int32} {c0 c1 c2 c3 c4 c5 c6 c7 c8 c9 c10 c11 c12 c13 : ACell} {po : List ACell} {zi zf : List Int32} {v1 res : Int32} {w_o_planRoom w_o_planGrid : List Int32} (h : f_placeStay zl za zd zb zc zj zi zf v1 = some (res, w_o_planRoom, w_o_planGrid)) : OEnds own_P 38 0 [qr 14, qi v1, qu, qu, qu, qu] [] (c0 :: c1 :: c2 :: c3 :: c4 :: c5 :: c6 :: c7 :: c8 :: c9 :: c10 :: c11 :: c12 :: c13 :: bk1 zq zn zl za zd zb zc zk zh zi zf zg zj zm ze zo zp po) (some (.int res), (c0 :: c1 :: c2 :: c3 :: c4 :: c5 :: c6 :: c7 :: c8 :: c9 :: c10 :: c11 :: c12 :: c13 :: bk1 zq zn zl za zd zb zc zk zh w_o_planRoom w_o_planGrid zg zj zm ze zo zp po), 0, 0) := by
  unfold f_placeStay at h
  refine OEnds.adv hm_38 2 (pc' := 2) (L' := [qr 14, qi v1, qu, qu, qu, qu]) (S' := [.int v1, .ref 14]) (H' := (c0 :: c1 :: c2 :: c3 :: c4 :: c5 :: c6 :: c7 :: c8 :: c9 :: c10 :: c11 :: c12 :: c13 :: bk1 zq zn zl za zd zb zc zk zh zi zf zg zj zm ze zo zp po)) rfl ?_
  obtain ⟨r129, hq257, h⟩ := bnd h
  refine OEnds.call0 hm_38 rfl rfl (by decide) rfl (as := [.ref 14, .int v1]) (rest := []) rfl rfl (ok_isActiveStay_1 hq257) ?_
  show OEnds own_P 38 5 [qr 14, qi v1, qu, qu, qu, qu] [.int r129] (c0 :: c1 :: c2 :: c3 :: c4 :: c5 :: c6 :: c7 :: c8 :: c9 :: c10 :: c11 :: c12 :: c13 :: bk1 zq zn zl za zd zb zc zk zh zi zf zg zj zm ze zo zp po) _
  by_cases hc258 : r129 = (0 : Int32)
  · simp only [if_pos hc258] at h
    refine OEnds.ifF hm_38 rfl ((teq hc258).2) ?_
    refine OEnds.adv hm_38 1 (pc' := 9) (L' := [qr 14, qi v1, qu, qu, qu, qu]) (S' := [.int 0]) (H' := (c0 :: c1 :: c2 :: c3 :: c4 :: c5 :: c6 :: c7 :: c8 :: c9 :: c10 :: c11 :: c12 :: c13 :: bk1 zq zn zl za zd zb zc zk zh zi zf zg zj zm ze zo zp po)) rfl ?_
    cases h
    exact OEnds.iret hm_38 rfl rfl
  · simp only [if_neg hc258] at h
    refine OEnds.ifT hm_38 rfl (q := 10) rfl ((feq hc258).2) ?_
    refine OEnds.adv hm_38 3 (pc' := 15) (L' := [qr 14, qi v1, qu, qu, qu, qu]) (S' := [.int v1, .ref 19]) (H' := (c0 :: c1 :: c2 :: c3 :: c4 :: c5 :: c6 :: c7 :: c8 :: c9 :: c10 :: c11 :: c12 :: c13 :: bk1 zq zn zl za zd zb zc zk zh zi zf zg zj zm ze zo zp po)) rfl ?_
    obtain ⟨x130, hx130, h⟩ := bnd h
    refine OEnds.plain hm_38 rfl rfl (x_iaload rfl hx130) ?_
    refine OEnds.adv hm_38 3 (pc' := 19) (L' := [qr 14, qi v1, qi x130, qu, qu, qu]) (S' := [.int x130, .ref 14]) (H' := (c0 :: c1 :: c2 :: c3 :: c4 :: c5 :: c6 :: c7 :: c8 :: c9 :: c10 :: c11 :: c12 :: c13 :: bk1 zq zn zl za zd zb zc zk zh zi zf zg zj zm ze zo zp po)) rfl ?_
    obtain ⟨r131, hq259, h⟩ := bnd h
    refine OEnds.call0 hm_38 rfl rfl (by decide) rfl (as := [.ref 14, .int x130]) (rest := []) rfl rfl (ok_isValidType_1 hq259) ?_
    show OEnds own_P 38 22 [qr 14, qi v1, qi x130, qu, qu, qu] [.int r131] (c0 :: c1 :: c2 :: c3 :: c4 :: c5 :: c6 :: c7 :: c8 :: c9 :: c10 :: c11 :: c12 :: c13 :: bk1 zq zn zl za zd zb zc zk zh zi zf zg zj zm ze zo zp po) _
    by_cases hc260 : r131 = (0 : Int32)
    · simp only [if_pos hc260] at h
      refine OEnds.ifF hm_38 rfl ((teq hc260).2) ?_
      refine OEnds.adv hm_38 1 (pc' := 26) (L' := [qr 14, qi v1, qi x130, qu, qu, qu]) (S' := [.int 0]) (H' := (c0 :: c1 :: c2 :: c3 :: c4 :: c5 :: c6 :: c7 :: c8 :: c9 :: c10 :: c11 :: c12 :: c13 :: bk1 zq zn zl za zd zb zc zk zh zi zf zg zj zm ze zo zp po)) rfl ?_
      cases h
      exact OEnds.iret hm_38 rfl rfl
    · simp only [if_neg hc260] at h
      refine OEnds.ifT hm_38 rfl (q := 27) rfl ((feq hc260).2) ?_
      refine OEnds.adv hm_38 3 (pc' := 32) (L' := [qr 14, qi v1, qi x130, qu, qu, qu]) (S' := [.int v1, .ref 20]) (H' := (c0 :: c1 :: c2 :: c3 :: c4 :: c5 :: c6 :: c7 :: c8 :: c9 :: c10 :: c11 :: c12 :: c13 :: bk1 zq zn zl za zd zb zc zk zh zi zf zg zj zm ze zo zp po)) rfl ?_
      obtain ⟨x132, hx132, h⟩ := bnd h
      refine OEnds.plain hm_38 rfl rfl (x_iaload rfl hx132) ?_
      refine OEnds.adv hm_38 4 (pc' := 39) (L' := [qr 14, qi v1, qi x130, qi x132, qu, qu]) (S' := [.int v1, .ref 21]) (H' := (c0 :: c1 :: c2 :: c3 :: c4 :: c5 :: c6 :: c7 :: c8 :: c9 :: c10 :: c11 :: c12 :: c13 :: bk1 zq zn zl za zd zb zc zk zh zi zf zg zj zm ze zo zp po)) rfl ?_
      obtain ⟨x133, hx133, h⟩ := bnd h
      refine OEnds.plain hm_38 rfl rfl (x_iaload rfl hx133) ?_
      refine OEnds.adv hm_38 4 (pc' := 47) (L' := [qr 14, qi v1, qi x130, qi x132, qi x133, qu]) (S' := [.int x130, .ref 17]) (H' := (c0 :: c1 :: c2 :: c3 :: c4 :: c5 :: c6 :: c7 :: c8 :: c9 :: c10 :: c11 :: c12 :: c13 :: bk1 zq zn zl za zd zb zc zk zh zi zf zg zj zm ze zo zp po)) rfl ?_
      obtain ⟨x134, hx134, h⟩ := bnd h
      refine OEnds.plain hm_38 rfl rfl (x_iaload rfl hx134) ?_
      refine OEnds.adv hm_38 1 (pc' := 50) (L' := [qr 14, qi v1, qi x130, qi x132, qi x133, qi x134]) (S' := []) (H' := (c0 :: c1 :: c2 :: c3 :: c4 :: c5 :: c6 :: c7 :: c8 :: c9 :: c10 :: c11 :: c12 :: c13 :: bk1 zq zn zl za zd zb zc zk zh zi zf zg zj zm ze zo zp po)) rfl ?_
      exact ok_placeStay_50_1 (k78 := f_placeStay_78 zl za zd zb zc zj) ok_placeStay_78_1 100000 h
theorem ok_assign_58_1 {zq zn zl za zd zb zc zk zh : List Int32} {zj zm : Int32} {c0 c1 c2 c3 c4 c5 c6 c7 c8 c9 c10 c11 c12 c13 : ACell} {po : List ACell} : ∀ {zi zf zg : List Int32} {ze zo zp v1 : Int32} {d2 d3 d4 : Slot} {res : Int32} {w_o_planRoom w_o_planGrid w_o_planOrder : List Int32} {w_o_planOrderLength w_o_planCurrent : Int32} {w_o_planUnplaced : Int32}, f_assign_58 zl za zd zb zc zj zi zf zg ze zo zp v1 = some (res, w_o_planRoom, w_o_planGrid, w_o_planOrder, w_o_planOrderLength, w_o_planCurrent, w_o_planUnplaced) → OEnds own_P 8 58 [qr 14, qi v1, d2, d3, d4] [] (c0 :: c1 :: c2 :: c3 :: c4 :: c5 :: c6 :: c7 :: c8 :: c9 :: c10 :: c11 :: c12 :: c13 :: bk1 zq zn zl za zd zb zc zk zh zi zf zg zj zm ze zo zp po) (some (.int res), (c0 :: c1 :: c2 :: c3 :: c4 :: c5 :: c6 :: c7 :: c8 :: c9 :: c10 :: c11 :: c12 :: c13 :: bk1 zq zn zl za zd zb zc zk zh w_o_planRoom w_o_planGrid w_o_planOrder zj zm w_o_planOrderLength w_o_planCurrent w_o_planUnplaced po), 0, 0) := by
  intro zi zf zg ze zo zp v1 d2 d3 d4 res w_o_planRoom w_o_planGrid w_o_planOrder w_o_planOrderLength w_o_planCurrent w_o_planUnplaced h
  unfold f_assign_58 at h
  refine OEnds.adv hm_8 7 (pc' := 69) (L' := [qr 14, qi v1, qu, qu, qu]) (S' := [.int v1]) (H' := (c0 :: c1 :: c2 :: c3 :: c4 :: c5 :: c6 :: c7 :: c8 :: c9 :: c10 :: c11 :: c12 :: c13 :: bk1 zq zn zl za zd zb zc zk zh zi zf zg zj zm ze 1 v1 po)) rfl ?_
  cases h
  exact OEnds.iret hm_8 rfl rfl
theorem ok_assign_16_1 {zq zn zl za zd zb zc zk zh : List Int32} {zj zm : Int32} {c0 c1 c2 c3 c4 c5 c6 c7 c8 c9 c10 c11 c12 c13 : ACell} {po : List ACell} {k58 : List Int32 → List Int32 → List Int32 → Int32 → Int32 → Int32 → Int32 → Option (Int32 × List Int32 × List Int32 × List Int32 × Int32 × Int32 × Int32)} (hk58 : ∀ {zi zf zg : List Int32} {ze zo zp v1 : Int32} {d2 d3 d4 : Slot} {res : Int32} {w_o_planRoom w_o_planGrid w_o_planOrder : List Int32} {w_o_planOrderLength w_o_planCurrent : Int32} {w_o_planUnplaced : Int32}, k58 zi zf zg ze zo zp v1 = some (res, w_o_planRoom, w_o_planGrid, w_o_planOrder, w_o_planOrderLength, w_o_planCurrent, w_o_planUnplaced) → OEnds own_P 8 58 [qr 14, qi v1, d2, d3, d4] [] (c0 :: c1 :: c2 :: c3 :: c4 :: c5 :: c6 :: c7 :: c8 :: c9 :: c10 :: c11 :: c12 :: c13 :: bk1 zq zn zl za zd zb zc zk zh zi zf zg zj zm ze zo zp po) (some (.int res), (c0 :: c1 :: c2 :: c3 :: c4 :: c5 :: c6 :: c7 :: c8 :: c9 :: c10 :: c11 :: c12 :: c13 :: bk1 zq zn zl za zd zb zc zk zh w_o_planRoom w_o_planGrid w_o_planOrder zj zm w_o_planOrderLength w_o_planCurrent w_o_planUnplaced po), 0, 0)) : ∀ (n : Nat), ∀ {zi zf zg : List Int32} {ze zo zp v1 v2 : Int32} {d3 d4 : Slot} {res : Int32} {w_o_planRoom w_o_planGrid w_o_planOrder : List Int32} {w_o_planOrderLength w_o_planCurrent : Int32} {w_o_planUnplaced : Int32}, f_assign_16 k58 zl za zd zb zc zj n zi zf zg ze zo zp v1 v2 = some (res, w_o_planRoom, w_o_planGrid, w_o_planOrder, w_o_planOrderLength, w_o_planCurrent, w_o_planUnplaced) → OEnds own_P 8 16 [qr 14, qi v1, qi v2, d3, d4] [] (c0 :: c1 :: c2 :: c3 :: c4 :: c5 :: c6 :: c7 :: c8 :: c9 :: c10 :: c11 :: c12 :: c13 :: bk1 zq zn zl za zd zb zc zk zh zi zf zg zj zm ze zo zp po) (some (.int res), (c0 :: c1 :: c2 :: c3 :: c4 :: c5 :: c6 :: c7 :: c8 :: c9 :: c10 :: c11 :: c12 :: c13 :: bk1 zq zn zl za zd zb zc zk zh w_o_planRoom w_o_planGrid w_o_planOrder zj zm w_o_planOrderLength w_o_planCurrent w_o_planUnplaced po), 0, 0) := by
  intro n
  induction n with
  | zero => intro zi zf zg ze zo zp v1 v2 d3 d4 res w_o_planRoom w_o_planGrid w_o_planOrder w_o_planOrderLength w_o_planCurrent w_o_planUnplaced h; cases h
  | succ n ih =>
    intro zi zf zg ze zo zp v1 v2 d3 d4 res w_o_planRoom w_o_planGrid w_o_planOrder w_o_planOrderLength w_o_planCurrent w_o_planUnplaced h
    unfold f_assign_16 at h
    refine OEnds.adv hm_8 3 (pc' := 21) (L' := [qr 14, qi v1, qi v2, qu, qu]) (S' := [.int ze, .int v2]) (H' := (c0 :: c1 :: c2 :: c3 :: c4 :: c5 :: c6 :: c7 :: c8 :: c9 :: c10 :: c11 :: c12 :: c13 :: bk1 zq zn zl za zd zb zc zk zh zi zf zg zj zm ze zo zp po)) rfl ?_
    by_cases hc261 : v2 < ze
    · simp only [if_pos hc261] at h
      refine OEnds.icmpF hm_8 rfl ((tlt hc261).2.1) ?_
      refine OEnds.adv hm_8 2 (pc' := 27) (L' := [qr 14, qi v1, qi v2, qu, qu]) (S' := [.int 32, .int v2]) (H' := (c0 :: c1 :: c2 :: c3 :: c4 :: c5 :: c6 :: c7 :: c8 :: c9 :: c10 :: c11 :: c12 :: c13 :: bk1 zq zn zl za zd zb zc zk zh zi zf zg zj zm ze zo zp po)) rfl ?_
      by_cases hc262 : v2 < (32 : Int32)
      · simp only [if_pos hc262] at h
        refine OEnds.icmpF hm_8 rfl ((tlt hc262).2.1) ?_
        refine OEnds.adv hm_8 3 (pc' := 35) (L' := [qr 14, qi v1, qi v2, qu, qu]) (S' := [.int v2, .ref 26]) (H' := (c0 :: c1 :: c2 :: c3 :: c4 :: c5 :: c6 :: c7 :: c8 :: c9 :: c10 :: c11 :: c12 :: c13 :: bk1 zq zn zl za zd zb zc zk zh zi zf zg zj zm ze zo zp po)) rfl ?_
        obtain ⟨x145, hx145, h⟩ := bnd h
        refine OEnds.plain hm_8 rfl rfl (x_iaload rfl hx145) ?_
        refine OEnds.adv hm_8 3 (pc' := 39) (L' := [qr 14, qi v1, qi v2, qi x145, qu]) (S' := [.int x145, .ref 14]) (H' := (c0 :: c1 :: c2 :: c3 :: c4 :: c5 :: c6 :: c7 :: c8 :: c9 :: c10 :: c11 :: c12 :: c13 :: bk1 zq zn zl za zd zb zc zk zh zi zf zg zj zm ze zo zp po)) rfl ?_
        obtain ⟨⟨r146, s147, s148⟩, hq263, h⟩ := bnd h
        refine OEnds.call0 hm_8 rfl rfl (by decide) rfl (as := [.ref 14, .int x145]) (rest := []) rfl rfl (ok_placeStay_1 hq263) ?_
        refine OEnds.adv hm_8 2 (pc' := 46) (L' := [qr 14, qi v1, qi v2, qi x145, qi r146]) (S' := [.int r146]) (H' := (c0 :: c1 :: c2 :: c3 :: c4 :: c5 :: c6 :: c7 :: c8 :: c9 :: c10 :: c11 :: c12 :: c13 :: bk1 zq zn zl za zd zb zc zk zh s147 s148 zg zj zm ze zo zp po)) rfl ?_
        by_cases hc264 : r146 = (0 : Int32)
        · simp only [if_pos hc264] at h
          refine OEnds.ifF hm_8 rfl ((teq hc264).2) ?_
          refine OEnds.adv hm_8 3 (pc' := 16) (L' := [qr 14, qi (v1 + (1 : Int32)), qi (v2 + (1 : Int32)), qi x145, qi r146]) (S' := []) (H' := (c0 :: c1 :: c2 :: c3 :: c4 :: c5 :: c6 :: c7 :: c8 :: c9 :: c10 :: c11 :: c12 :: c13 :: bk1 zq zn zl za zd zb zc zk zh s147 s148 zg zj zm ze zo zp po)) rfl ?_
          exact ih h
        · simp only [if_neg hc264] at h
          refine OEnds.ifT hm_8 rfl (q := 52) rfl ((feq hc264).2) ?_
          refine OEnds.adv hm_8 2 (pc' := 16) (L' := [qr 14, qi v1, qi (v2 + (1 : Int32)), qi x145, qi r146]) (S' := []) (H' := (c0 :: c1 :: c2 :: c3 :: c4 :: c5 :: c6 :: c7 :: c8 :: c9 :: c10 :: c11 :: c12 :: c13 :: bk1 zq zn zl za zd zb zc zk zh s147 s148 zg zj zm ze zo zp po)) rfl ?_
          exact ih h
      · simp only [if_neg hc262] at h
        refine OEnds.icmpT hm_8 rfl (q := 58) rfl ((flt hc262).2.1) ?_
        show OEnds own_P 8 58 [qr 14, qi v1, qi v2, qu, qu] [] (c0 :: c1 :: c2 :: c3 :: c4 :: c5 :: c6 :: c7 :: c8 :: c9 :: c10 :: c11 :: c12 :: c13 :: bk1 zq zn zl za zd zb zc zk zh zi zf zg zj zm ze zo zp po) _
        exact hk58 h
    · simp only [if_neg hc261] at h
      refine OEnds.icmpT hm_8 rfl (q := 58) rfl ((flt hc261).2.1) ?_
      show OEnds own_P 8 58 [qr 14, qi v1, qi v2, qu, qu] [] (c0 :: c1 :: c2 :: c3 :: c4 :: c5 :: c6 :: c7 :: c8 :: c9 :: c10 :: c11 :: c12 :: c13 :: bk1 zq zn zl za zd zb zc zk zh zi zf zg zj zm ze zo zp po) _
      exact hk58 h
theorem ok_assign_1 {zq zn zl za zd zb zc zk zh : List Int32} {zj zm : Int32} {c0 c1 c2 c3 c4 c5 c6 c7 c8 c9 c10 c11 c12 c13 : ACell} {po : List ACell} {zi zf zg : List Int32} {ze zo zp res : Int32} {w_o_planRoom w_o_planGrid w_o_planOrder : List Int32} {w_o_planOrderLength w_o_planCurrent w_o_planUnplaced : Int32} (h : f_assign zl za zd zb zc zj zi zf zg ze zo zp = some (res, w_o_planRoom, w_o_planGrid, w_o_planOrder, w_o_planOrderLength, w_o_planCurrent, w_o_planUnplaced)) : OEnds own_P 8 0 [qr 14, qu, qu, qu, qu] [] (c0 :: c1 :: c2 :: c3 :: c4 :: c5 :: c6 :: c7 :: c8 :: c9 :: c10 :: c11 :: c12 :: c13 :: bk1 zq zn zl za zd zb zc zk zh zi zf zg zj zm ze zo zp po) (some (.int res), (c0 :: c1 :: c2 :: c3 :: c4 :: c5 :: c6 :: c7 :: c8 :: c9 :: c10 :: c11 :: c12 :: c13 :: bk1 zq zn zl za zd zb zc zk zh w_o_planRoom w_o_planGrid w_o_planOrder zj zm w_o_planOrderLength w_o_planCurrent w_o_planUnplaced po), 0, 0) := by
  unfold f_assign at h
  refine OEnds.adv hm_8 1 (pc' := 1) (L' := [qr 14, qu, qu, qu, qu]) (S' := [.ref 14]) (H' := (c0 :: c1 :: c2 :: c3 :: c4 :: c5 :: c6 :: c7 :: c8 :: c9 :: c10 :: c11 :: c12 :: c13 :: bk1 zq zn zl za zd zb zc zk zh zi zf zg zj zm ze zo zp po)) rfl ?_
  obtain ⟨s138, hq265, h⟩ := bnd h
  refine OEnds.call0 hm_8 rfl rfl (by decide) rfl (as := [.ref 14]) (rest := []) rfl rfl (ok_discardPlan_1 hq265) ?_
  refine OEnds.adv hm_8 1 (pc' := 5) (L' := [qr 14, qu, qu, qu, qu]) (S' := [.ref 14]) (H' := (c0 :: c1 :: c2 :: c3 :: c4 :: c5 :: c6 :: c7 :: c8 :: c9 :: c10 :: c11 :: c12 :: c13 :: bk1 zq zn zl za zd zb zc zk zh zi zf zg zj zm ze s138 zp po)) rfl ?_
  obtain ⟨⟨s139, s140, s141, s142⟩, hq266, h⟩ := bnd h
  refine OEnds.call0 hm_8 rfl rfl (by decide) rfl (as := [.ref 14]) (rest := []) rfl rfl (ok_clearPlan_1 hq266) ?_
  refine OEnds.adv hm_8 1 (pc' := 9) (L' := [qr 14, qu, qu, qu, qu]) (S' := [.ref 14]) (H' := (c0 :: c1 :: c2 :: c3 :: c4 :: c5 :: c6 :: c7 :: c8 :: c9 :: c10 :: c11 :: c12 :: c13 :: bk1 zq zn zl za zd zb zc zk zh s139 s140 s141 zj zm s142 s138 zp po)) rfl ?_
  obtain ⟨⟨s143, s144⟩, hq267, h⟩ := bnd h
  refine OEnds.call0 hm_8 rfl rfl (by decide) rfl (as := [.ref 14]) (rest := []) rfl rfl (ok_buildOrder_1 hq267) ?_
  refine OEnds.adv hm_8 4 (pc' := 16) (L' := [qr 14, qi 0, qi 0, qu, qu]) (S' := []) (H' := (c0 :: c1 :: c2 :: c3 :: c4 :: c5 :: c6 :: c7 :: c8 :: c9 :: c10 :: c11 :: c12 :: c13 :: bk1 zq zn zl za zd zb zc zk zh s139 s140 s143 zj zm s144 s138 zp po)) rfl ?_
  exact ok_assign_16_1 (k58 := f_assign_58 zl za zd zb zc zj) ok_assign_58_1 100000 h
theorem ok_L_step_1 {zaf zx zy : List Int32} {zz : Int32} {c0 c1 c2 c3 c4 c5 c6 c7 c8 c9 c10 c11 c12 c13 : ACell} {po : List ACell} {zr zt zu zv zw zag zaa zab zac : List Int32} {zs zad zah zae v1 v2 v3 v4 v5 : Int32} {w_p0_slotActive w_p0_slotType w_p0_slotArrive w_p0_slotNights w_p0_exactCount w_p0_atLeastCount w_p0_planRoom w_p0_planGrid w_p0_planOrder : List Int32} {w_p0_activeStays w_p0_planOrderLength w_p0_planCurrent w_p0_planUnplaced : Int32} (h : f_L_step zx zy zz zr zt zu zv zw zag zaa zab zac zs zad zah zae v1 v2 v3 v4 v5 = some (w_p0_slotActive, w_p0_slotType, w_p0_slotArrive, w_p0_slotNights, w_p0_exactCount, w_p0_atLeastCount, w_p0_planRoom, w_p0_planGrid, w_p0_planOrder, w_p0_activeStays, w_p0_planOrderLength, w_p0_planCurrent, w_p0_planUnplaced)) : OEnds own_P 7 0 [qr 14, qi v1, qi v2, qi v3, qi v4, qi v5] [] (c0 :: c1 :: c2 :: c3 :: c4 :: c5 :: c6 :: c7 :: c8 :: c9 :: c10 :: c11 :: c12 :: c13 :: bk1 zaf zx zy zr zt zu zv zw zag zaa zab zac zz zs zad zah zae po) (none, (c0 :: c1 :: c2 :: c3 :: c4 :: c5 :: c6 :: c7 :: c8 :: c9 :: c10 :: c11 :: c12 :: c13 :: bk1 zaf zx zy w_p0_slotActive w_p0_slotType w_p0_slotArrive w_p0_slotNights w_p0_exactCount w_p0_atLeastCount w_p0_planRoom w_p0_planGrid w_p0_planOrder zz w_p0_activeStays w_p0_planOrderLength w_p0_planCurrent w_p0_planUnplaced po), 0, 0) := by
  unfold f_L_step at h
  refine OEnds.adv hm_7 1 (pc' := 1) (L' := [qr 14, qi v1, qi v2, qi v3, qi v4, qi v5]) (S' := [.int v1]) (H' := (c0 :: c1 :: c2 :: c3 :: c4 :: c5 :: c6 :: c7 :: c8 :: c9 :: c10 :: c11 :: c12 :: c13 :: bk1 zaf zx zy zr zt zu zv zw zag zaa zab zac zz zs zad zah zae po)) rfl ?_
  by_cases hc268 : v1 = (0 : Int32)
  · simp only [if_pos hc268] at h
    refine OEnds.ifF hm_7 rfl ((teq hc268).2) ?_
    refine OEnds.adv hm_7 4 (pc' := 9) (L' := [qr 14, qi v1, qi v2, qi v3, qi v4, qi v5]) (S' := [.int v4, .int v3, .int v2, .ref 14]) (H' := (c0 :: c1 :: c2 :: c3 :: c4 :: c5 :: c6 :: c7 :: c8 :: c9 :: c10 :: c11 :: c12 :: c13 :: bk1 zaf zx zy zr zt zu zv zw zag zaa zab zac zz zs zad zah zae po)) rfl ?_
    obtain ⟨⟨r172, s173, s174, s175, s176, s177, s178, s179, s180⟩, hq269, h⟩ := bnd h
    refine OEnds.call0 hm_7 rfl rfl (by decide) rfl (as := [.ref 14, .int v2, .int v3, .int v4]) (rest := []) rfl rfl (ok_book_1 hq269) ?_
    refine OEnds.adv hm_7 2 (pc' := 54) (L' := [qr 14, qi v1, qi v2, qi v3, qi v4, qi v5]) (S' := []) (H' := (c0 :: c1 :: c2 :: c3 :: c4 :: c5 :: c6 :: c7 :: c8 :: c9 :: c10 :: c11 :: c12 :: c13 :: bk1 zaf zx zy s173 s174 s175 s176 s177 s178 zaa zab zac zz s179 zad s180 zae po)) rfl ?_
    cases h
    exact OEnds.vret hm_7 rfl rfl
  · simp only [if_neg hc268] at h
    refine OEnds.ifT hm_7 rfl (q := 16) rfl ((feq hc268).2) ?_
    refine OEnds.adv hm_7 2 (pc' := 18) (L' := [qr 14, qi v1, qi v2, qi v3, qi v4, qi v5]) (S' := [.int 1, .int v1]) (H' := (c0 :: c1 :: c2 :: c3 :: c4 :: c5 :: c6 :: c7 :: c8 :: c9 :: c10 :: c11 :: c12 :: c13 :: bk1 zaf zx zy zr zt zu zv zw zag zaa zab zac zz zs zad zah zae po)) rfl ?_
    by_cases hc270 : v1 = (1 : Int32)
    · simp only [if_pos hc270] at h
      refine OEnds.icmpF hm_7 rfl ((teq hc270).2) ?_
      refine OEnds.adv hm_7 5 (pc' := 28) (L' := [qr 14, qi v1, qi v2, qi v3, qi v4, qi v5]) (S' := [.int v5, .int v4, .int v3, .int v2, .ref 14]) (H' := (c0 :: c1 :: c2 :: c3 :: c4 :: c5 :: c6 :: c7 :: c8 :: c9 :: c10 :: c11 :: c12 :: c13 :: bk1 zaf zx zy zr zt zu zv zw zag zaa zab zac zz zs zad zah zae po)) rfl ?_
      obtain ⟨⟨r165, s166, s167, s168, s169, s170, s171⟩, hq271, h⟩ := bnd h
      refine OEnds.call0 hm_7 rfl rfl (by decide) rfl (as := [.ref 14, .int v2, .int v3, .int v4, .int v5]) (rest := []) rfl rfl (ok_amend_1 hq271) ?_
      refine OEnds.adv hm_7 2 (pc' := 54) (L' := [qr 14, qi v1, qi v2, qi v3, qi v4, qi v5]) (S' := []) (H' := (c0 :: c1 :: c2 :: c3 :: c4 :: c5 :: c6 :: c7 :: c8 :: c9 :: c10 :: c11 :: c12 :: c13 :: bk1 zaf zx zy zr s166 s167 s168 s169 s170 zaa zab zac zz zs zad s171 zae po)) rfl ?_
      cases h
      exact OEnds.vret hm_7 rfl rfl
    · simp only [if_neg hc270] at h
      refine OEnds.icmpT hm_7 rfl (q := 35) rfl ((feq hc270).2) ?_
      refine OEnds.adv hm_7 2 (pc' := 37) (L' := [qr 14, qi v1, qi v2, qi v3, qi v4, qi v5]) (S' := [.int 2, .int v1]) (H' := (c0 :: c1 :: c2 :: c3 :: c4 :: c5 :: c6 :: c7 :: c8 :: c9 :: c10 :: c11 :: c12 :: c13 :: bk1 zaf zx zy zr zt zu zv zw zag zaa zab zac zz zs zad zah zae po)) rfl ?_
      by_cases hc272 : v1 = (2 : Int32)
      · simp only [if_pos hc272] at h
        refine OEnds.icmpF hm_7 rfl ((teq hc272).2) ?_
        refine OEnds.adv hm_7 2 (pc' := 42) (L' := [qr 14, qi v1, qi v2, qi v3, qi v4, qi v5]) (S' := [.int v2, .ref 14]) (H' := (c0 :: c1 :: c2 :: c3 :: c4 :: c5 :: c6 :: c7 :: c8 :: c9 :: c10 :: c11 :: c12 :: c13 :: bk1 zaf zx zy zr zt zu zv zw zag zaa zab zac zz zs zad zah zae po)) rfl ?_
        obtain ⟨⟨r156, s157, s158, s159, s160, s161, s162, s163, s164⟩, hq273, h⟩ := bnd h
        refine OEnds.call0 hm_7 rfl rfl (by decide) rfl (as := [.ref 14, .int v2]) (rest := []) rfl rfl (ok_cancel_1 hq273) ?_
        refine OEnds.adv hm_7 2 (pc' := 54) (L' := [qr 14, qi v1, qi v2, qi v3, qi v4, qi v5]) (S' := []) (H' := (c0 :: c1 :: c2 :: c3 :: c4 :: c5 :: c6 :: c7 :: c8 :: c9 :: c10 :: c11 :: c12 :: c13 :: bk1 zaf zx zy s157 s158 s159 s160 s161 s162 zaa zab zac zz s163 zad s164 zae po)) rfl ?_
        cases h
        exact OEnds.vret hm_7 rfl rfl
      · simp only [if_neg hc272] at h
        refine OEnds.icmpT hm_7 rfl (q := 49) rfl ((feq hc272).2) ?_
        refine OEnds.adv hm_7 1 (pc' := 50) (L' := [qr 14, qi v1, qi v2, qi v3, qi v4, qi v5]) (S' := [.ref 14]) (H' := (c0 :: c1 :: c2 :: c3 :: c4 :: c5 :: c6 :: c7 :: c8 :: c9 :: c10 :: c11 :: c12 :: c13 :: bk1 zaf zx zy zr zt zu zv zw zag zaa zab zac zz zs zad zah zae po)) rfl ?_
        obtain ⟨⟨r149, s150, s151, s152, s153, s154, s155⟩, hq274, h⟩ := bnd h
        refine OEnds.call0 hm_7 rfl rfl (by decide) rfl (as := [.ref 14]) (rest := []) rfl rfl (ok_assign_1 hq274) ?_
        refine OEnds.adv hm_7 1 (pc' := 54) (L' := [qr 14, qi v1, qi v2, qi v3, qi v4, qi v5]) (S' := []) (H' := (c0 :: c1 :: c2 :: c3 :: c4 :: c5 :: c6 :: c7 :: c8 :: c9 :: c10 :: c11 :: c12 :: c13 :: bk1 zaf zx zy zr zt zu zv zw zag s150 s151 s152 zz zs s153 s154 s155 po)) rfl ?_
        cases h
        exact OEnds.vret hm_7 rfl rfl
theorem ok_stayType_1 {zq zn zl za zd zb zc zk zh zi zf zg : List Int32} {zj zm ze zo zp : Int32} {c0 c1 c2 c3 c4 c5 c6 c7 c8 c9 c10 c11 c12 c13 : ACell} {po : List ACell} {v1 res : Int32} (h : f_stayType za zd v1 = some res) : OEnds own_P 18 0 [qr 14, qi v1] [] (c0 :: c1 :: c2 :: c3 :: c4 :: c5 :: c6 :: c7 :: c8 :: c9 :: c10 :: c11 :: c12 :: c13 :: bk1 zq zn zl za zd zb zc zk zh zi zf zg zj zm ze zo zp po) (some (.int res), (c0 :: c1 :: c2 :: c3 :: c4 :: c5 :: c6 :: c7 :: c8 :: c9 :: c10 :: c11 :: c12 :: c13 :: bk1 zq zn zl za zd zb zc zk zh zi zf zg zj zm ze zo zp po), 0, 0) := by
  unfold f_stayType at h
  refine OEnds.adv hm_18 2 (pc' := 2) (L' := [qr 14, qi v1]) (S' := [.int v1, .ref 14]) (H' := (c0 :: c1 :: c2 :: c3 :: c4 :: c5 :: c6 :: c7 :: c8 :: c9 :: c10 :: c11 :: c12 :: c13 :: bk1 zq zn zl za zd zb zc zk zh zi zf zg zj zm ze zo zp po)) rfl ?_
  obtain ⟨r181, hq275, h⟩ := bnd h
  refine OEnds.call0 hm_18 rfl rfl (by decide) rfl (as := [.ref 14, .int v1]) (rest := []) rfl rfl (ok_isActiveStay_1 hq275) ?_
  show OEnds own_P 18 5 [qr 14, qi v1] [.int r181] (c0 :: c1 :: c2 :: c3 :: c4 :: c5 :: c6 :: c7 :: c8 :: c9 :: c10 :: c11 :: c12 :: c13 :: bk1 zq zn zl za zd zb zc zk zh zi zf zg zj zm ze zo zp po) _
  by_cases hc276 : r181 = (0 : Int32)
  · simp only [if_pos hc276] at h
    refine OEnds.ifF hm_18 rfl ((teq hc276).2) ?_
    refine OEnds.adv hm_18 1 (pc' := 9) (L' := [qr 14, qi v1]) (S' := [.int (-1)]) (H' := (c0 :: c1 :: c2 :: c3 :: c4 :: c5 :: c6 :: c7 :: c8 :: c9 :: c10 :: c11 :: c12 :: c13 :: bk1 zq zn zl za zd zb zc zk zh zi zf zg zj zm ze zo zp po)) rfl ?_
    cases h
    exact OEnds.iret hm_18 rfl rfl
  · simp only [if_neg hc276] at h
    refine OEnds.ifT hm_18 rfl (q := 10) rfl ((feq hc276).2) ?_
    refine OEnds.adv hm_18 3 (pc' := 15) (L' := [qr 14, qi v1]) (S' := [.int v1, .ref 19]) (H' := (c0 :: c1 :: c2 :: c3 :: c4 :: c5 :: c6 :: c7 :: c8 :: c9 :: c10 :: c11 :: c12 :: c13 :: bk1 zq zn zl za zd zb zc zk zh zi zf zg zj zm ze zo zp po)) rfl ?_
    obtain ⟨x182, hx182, h⟩ := bnd h
    refine OEnds.plain hm_18 rfl rfl (x_iaload rfl hx182) ?_
    show OEnds own_P 18 16 [qr 14, qi v1] [.int x182] (c0 :: c1 :: c2 :: c3 :: c4 :: c5 :: c6 :: c7 :: c8 :: c9 :: c10 :: c11 :: c12 :: c13 :: bk1 zq zn zl za zd zb zc zk zh zi zf zg zj zm ze zo zp po) _
    cases h
    exact OEnds.iret hm_18 rfl rfl
theorem ok_activeCount_0 {zq zn zl za zd zb zc zk zh zi zf zg : List Int32} {zj zm ze zo zp : Int32} {c0 : ACell} {po : List ACell} {res : Int32} (h : f_activeCount zm = some res) : OEnds own_P 17 0 [qr 1] [] (c0 :: bk0 zq zn zl za zd zb zc zk zh zi zf zg zj zm ze zo zp po) (some (.int res), (c0 :: bk0 zq zn zl za zd zb zc zk zh zi zf zg zj zm ze zo zp po), 0, 0) := by
  unfold f_activeCount at h
  refine OEnds.adv hm_17 2 (pc' := 4) (L' := [qr 1]) (S' := [.int zm]) (H' := (c0 :: bk0 zq zn zl za zd zb zc zk zh zi zf zg zj zm ze zo zp po)) rfl ?_
  cases h
  exact OEnds.iret hm_17 rfl rfl
theorem ok_activeCount_1 {zq zn zl za zd zb zc zk zh zi zf zg : List Int32} {zj zm ze zo zp : Int32} {c0 c1 c2 c3 c4 c5 c6 c7 c8 c9 c10 c11 c12 c13 : ACell} {po : List ACell} {res : Int32} (h : f_activeCount zm = some res) : OEnds own_P 17 0 [qr 14] [] (c0 :: c1 :: c2 :: c3 :: c4 :: c5 :: c6 :: c7 :: c8 :: c9 :: c10 :: c11 :: c12 :: c13 :: bk1 zq zn zl za zd zb zc zk zh zi zf zg zj zm ze zo zp po) (some (.int res), (c0 :: c1 :: c2 :: c3 :: c4 :: c5 :: c6 :: c7 :: c8 :: c9 :: c10 :: c11 :: c12 :: c13 :: bk1 zq zn zl za zd zb zc zk zh zi zf zg zj zm ze zo zp po), 0, 0) := by
  unfold f_activeCount at h
  refine OEnds.adv hm_17 2 (pc' := 4) (L' := [qr 14]) (S' := [.int zm]) (H' := (c0 :: c1 :: c2 :: c3 :: c4 :: c5 :: c6 :: c7 :: c8 :: c9 :: c10 :: c11 :: c12 :: c13 :: bk1 zq zn zl za zd zb zc zk zh zi zf zg zj zm ze zo zp po)) rfl ?_
  cases h
  exact OEnds.iret hm_17 rfl rfl
theorem ok_stayType_0 {zq zn zl za zd zb zc zk zh zi zf zg : List Int32} {zj zm ze zo zp : Int32} {c0 : ACell} {po : List ACell} {v1 res : Int32} (h : f_stayType za zd v1 = some res) : OEnds own_P 18 0 [qr 1, qi v1] [] (c0 :: bk0 zq zn zl za zd zb zc zk zh zi zf zg zj zm ze zo zp po) (some (.int res), (c0 :: bk0 zq zn zl za zd zb zc zk zh zi zf zg zj zm ze zo zp po), 0, 0) := by
  unfold f_stayType at h
  refine OEnds.adv hm_18 2 (pc' := 2) (L' := [qr 1, qi v1]) (S' := [.int v1, .ref 1]) (H' := (c0 :: bk0 zq zn zl za zd zb zc zk zh zi zf zg zj zm ze zo zp po)) rfl ?_
  obtain ⟨r181, hq277, h⟩ := bnd h
  refine OEnds.call0 hm_18 rfl rfl (by decide) rfl (as := [.ref 1, .int v1]) (rest := []) rfl rfl (ok_isActiveStay_0 hq277) ?_
  show OEnds own_P 18 5 [qr 1, qi v1] [.int r181] (c0 :: bk0 zq zn zl za zd zb zc zk zh zi zf zg zj zm ze zo zp po) _
  by_cases hc278 : r181 = (0 : Int32)
  · simp only [if_pos hc278] at h
    refine OEnds.ifF hm_18 rfl ((teq hc278).2) ?_
    refine OEnds.adv hm_18 1 (pc' := 9) (L' := [qr 1, qi v1]) (S' := [.int (-1)]) (H' := (c0 :: bk0 zq zn zl za zd zb zc zk zh zi zf zg zj zm ze zo zp po)) rfl ?_
    cases h
    exact OEnds.iret hm_18 rfl rfl
  · simp only [if_neg hc278] at h
    refine OEnds.ifT hm_18 rfl (q := 10) rfl ((feq hc278).2) ?_
    refine OEnds.adv hm_18 3 (pc' := 15) (L' := [qr 1, qi v1]) (S' := [.int v1, .ref 6]) (H' := (c0 :: bk0 zq zn zl za zd zb zc zk zh zi zf zg zj zm ze zo zp po)) rfl ?_
    obtain ⟨x182, hx182, h⟩ := bnd h
    refine OEnds.plain hm_18 rfl rfl (x_iaload rfl hx182) ?_
    show OEnds own_P 18 16 [qr 1, qi v1] [.int x182] (c0 :: bk0 zq zn zl za zd zb zc zk zh zi zf zg zj zm ze zo zp po) _
    cases h
    exact OEnds.iret hm_18 rfl rfl
theorem ok_stayArrive_0 {zq zn zl za zd zb zc zk zh zi zf zg : List Int32} {zj zm ze zo zp : Int32} {c0 : ACell} {po : List ACell} {v1 res : Int32} (h : f_stayArrive za zb v1 = some res) : OEnds own_P 20 0 [qr 1, qi v1] [] (c0 :: bk0 zq zn zl za zd zb zc zk zh zi zf zg zj zm ze zo zp po) (some (.int res), (c0 :: bk0 zq zn zl za zd zb zc zk zh zi zf zg zj zm ze zo zp po), 0, 0) := by
  unfold f_stayArrive at h
  refine OEnds.adv hm_20 2 (pc' := 2) (L' := [qr 1, qi v1]) (S' := [.int v1, .ref 1]) (H' := (c0 :: bk0 zq zn zl za zd zb zc zk zh zi zf zg zj zm ze zo zp po)) rfl ?_
  obtain ⟨r183, hq279, h⟩ := bnd h
  refine OEnds.call0 hm_20 rfl rfl (by decide) rfl (as := [.ref 1, .int v1]) (rest := []) rfl rfl (ok_isActiveStay_0 hq279) ?_
  show OEnds own_P 20 5 [qr 1, qi v1] [.int r183] (c0 :: bk0 zq zn zl za zd zb zc zk zh zi zf zg zj zm ze zo zp po) _
  by_cases hc280 : r183 = (0 : Int32)
  · simp only [if_pos hc280] at h
    refine OEnds.ifF hm_20 rfl ((teq hc280).2) ?_
    refine OEnds.adv hm_20 1 (pc' := 9) (L' := [qr 1, qi v1]) (S' := [.int (-1)]) (H' := (c0 :: bk0 zq zn zl za zd zb zc zk zh zi zf zg zj zm ze zo zp po)) rfl ?_
    cases h
    exact OEnds.iret hm_20 rfl rfl
  · simp only [if_neg hc280] at h
    refine OEnds.ifT hm_20 rfl (q := 10) rfl ((feq hc280).2) ?_
    refine OEnds.adv hm_20 3 (pc' := 15) (L' := [qr 1, qi v1]) (S' := [.int v1, .ref 7]) (H' := (c0 :: bk0 zq zn zl za zd zb zc zk zh zi zf zg zj zm ze zo zp po)) rfl ?_
    obtain ⟨x184, hx184, h⟩ := bnd h
    refine OEnds.plain hm_20 rfl rfl (x_iaload rfl hx184) ?_
    show OEnds own_P 20 16 [qr 1, qi v1] [.int x184] (c0 :: bk0 zq zn zl za zd zb zc zk zh zi zf zg zj zm ze zo zp po) _
    cases h
    exact OEnds.iret hm_20 rfl rfl
theorem ok_stayArrive_1 {zq zn zl za zd zb zc zk zh zi zf zg : List Int32} {zj zm ze zo zp : Int32} {c0 c1 c2 c3 c4 c5 c6 c7 c8 c9 c10 c11 c12 c13 : ACell} {po : List ACell} {v1 res : Int32} (h : f_stayArrive za zb v1 = some res) : OEnds own_P 20 0 [qr 14, qi v1] [] (c0 :: c1 :: c2 :: c3 :: c4 :: c5 :: c6 :: c7 :: c8 :: c9 :: c10 :: c11 :: c12 :: c13 :: bk1 zq zn zl za zd zb zc zk zh zi zf zg zj zm ze zo zp po) (some (.int res), (c0 :: c1 :: c2 :: c3 :: c4 :: c5 :: c6 :: c7 :: c8 :: c9 :: c10 :: c11 :: c12 :: c13 :: bk1 zq zn zl za zd zb zc zk zh zi zf zg zj zm ze zo zp po), 0, 0) := by
  unfold f_stayArrive at h
  refine OEnds.adv hm_20 2 (pc' := 2) (L' := [qr 14, qi v1]) (S' := [.int v1, .ref 14]) (H' := (c0 :: c1 :: c2 :: c3 :: c4 :: c5 :: c6 :: c7 :: c8 :: c9 :: c10 :: c11 :: c12 :: c13 :: bk1 zq zn zl za zd zb zc zk zh zi zf zg zj zm ze zo zp po)) rfl ?_
  obtain ⟨r183, hq281, h⟩ := bnd h
  refine OEnds.call0 hm_20 rfl rfl (by decide) rfl (as := [.ref 14, .int v1]) (rest := []) rfl rfl (ok_isActiveStay_1 hq281) ?_
  show OEnds own_P 20 5 [qr 14, qi v1] [.int r183] (c0 :: c1 :: c2 :: c3 :: c4 :: c5 :: c6 :: c7 :: c8 :: c9 :: c10 :: c11 :: c12 :: c13 :: bk1 zq zn zl za zd zb zc zk zh zi zf zg zj zm ze zo zp po) _
  by_cases hc282 : r183 = (0 : Int32)
  · simp only [if_pos hc282] at h
    refine OEnds.ifF hm_20 rfl ((teq hc282).2) ?_
    refine OEnds.adv hm_20 1 (pc' := 9) (L' := [qr 14, qi v1]) (S' := [.int (-1)]) (H' := (c0 :: c1 :: c2 :: c3 :: c4 :: c5 :: c6 :: c7 :: c8 :: c9 :: c10 :: c11 :: c12 :: c13 :: bk1 zq zn zl za zd zb zc zk zh zi zf zg zj zm ze zo zp po)) rfl ?_
    cases h
    exact OEnds.iret hm_20 rfl rfl
  · simp only [if_neg hc282] at h
    refine OEnds.ifT hm_20 rfl (q := 10) rfl ((feq hc282).2) ?_
    refine OEnds.adv hm_20 3 (pc' := 15) (L' := [qr 14, qi v1]) (S' := [.int v1, .ref 20]) (H' := (c0 :: c1 :: c2 :: c3 :: c4 :: c5 :: c6 :: c7 :: c8 :: c9 :: c10 :: c11 :: c12 :: c13 :: bk1 zq zn zl za zd zb zc zk zh zi zf zg zj zm ze zo zp po)) rfl ?_
    obtain ⟨x184, hx184, h⟩ := bnd h
    refine OEnds.plain hm_20 rfl rfl (x_iaload rfl hx184) ?_
    show OEnds own_P 20 16 [qr 14, qi v1] [.int x184] (c0 :: c1 :: c2 :: c3 :: c4 :: c5 :: c6 :: c7 :: c8 :: c9 :: c10 :: c11 :: c12 :: c13 :: bk1 zq zn zl za zd zb zc zk zh zi zf zg zj zm ze zo zp po) _
    cases h
    exact OEnds.iret hm_20 rfl rfl
theorem ok_stayNights_0 {zq zn zl za zd zb zc zk zh zi zf zg : List Int32} {zj zm ze zo zp : Int32} {c0 : ACell} {po : List ACell} {v1 res : Int32} (h : f_stayNights za zc v1 = some res) : OEnds own_P 21 0 [qr 1, qi v1] [] (c0 :: bk0 zq zn zl za zd zb zc zk zh zi zf zg zj zm ze zo zp po) (some (.int res), (c0 :: bk0 zq zn zl za zd zb zc zk zh zi zf zg zj zm ze zo zp po), 0, 0) := by
  unfold f_stayNights at h
  refine OEnds.adv hm_21 2 (pc' := 2) (L' := [qr 1, qi v1]) (S' := [.int v1, .ref 1]) (H' := (c0 :: bk0 zq zn zl za zd zb zc zk zh zi zf zg zj zm ze zo zp po)) rfl ?_
  obtain ⟨r185, hq283, h⟩ := bnd h
  refine OEnds.call0 hm_21 rfl rfl (by decide) rfl (as := [.ref 1, .int v1]) (rest := []) rfl rfl (ok_isActiveStay_0 hq283) ?_
  show OEnds own_P 21 5 [qr 1, qi v1] [.int r185] (c0 :: bk0 zq zn zl za zd zb zc zk zh zi zf zg zj zm ze zo zp po) _
  by_cases hc284 : r185 = (0 : Int32)
  · simp only [if_pos hc284] at h
    refine OEnds.ifF hm_21 rfl ((teq hc284).2) ?_
    refine OEnds.adv hm_21 1 (pc' := 9) (L' := [qr 1, qi v1]) (S' := [.int (-1)]) (H' := (c0 :: bk0 zq zn zl za zd zb zc zk zh zi zf zg zj zm ze zo zp po)) rfl ?_
    cases h
    exact OEnds.iret hm_21 rfl rfl
  · simp only [if_neg hc284] at h
    refine OEnds.ifT hm_21 rfl (q := 10) rfl ((feq hc284).2) ?_
    refine OEnds.adv hm_21 3 (pc' := 15) (L' := [qr 1, qi v1]) (S' := [.int v1, .ref 8]) (H' := (c0 :: bk0 zq zn zl za zd zb zc zk zh zi zf zg zj zm ze zo zp po)) rfl ?_
    obtain ⟨x186, hx186, h⟩ := bnd h
    refine OEnds.plain hm_21 rfl rfl (x_iaload rfl hx186) ?_
    show OEnds own_P 21 16 [qr 1, qi v1] [.int x186] (c0 :: bk0 zq zn zl za zd zb zc zk zh zi zf zg zj zm ze zo zp po) _
    cases h
    exact OEnds.iret hm_21 rfl rfl
theorem ok_stayNights_1 {zq zn zl za zd zb zc zk zh zi zf zg : List Int32} {zj zm ze zo zp : Int32} {c0 c1 c2 c3 c4 c5 c6 c7 c8 c9 c10 c11 c12 c13 : ACell} {po : List ACell} {v1 res : Int32} (h : f_stayNights za zc v1 = some res) : OEnds own_P 21 0 [qr 14, qi v1] [] (c0 :: c1 :: c2 :: c3 :: c4 :: c5 :: c6 :: c7 :: c8 :: c9 :: c10 :: c11 :: c12 :: c13 :: bk1 zq zn zl za zd zb zc zk zh zi zf zg zj zm ze zo zp po) (some (.int res), (c0 :: c1 :: c2 :: c3 :: c4 :: c5 :: c6 :: c7 :: c8 :: c9 :: c10 :: c11 :: c12 :: c13 :: bk1 zq zn zl za zd zb zc zk zh zi zf zg zj zm ze zo zp po), 0, 0) := by
  unfold f_stayNights at h
  refine OEnds.adv hm_21 2 (pc' := 2) (L' := [qr 14, qi v1]) (S' := [.int v1, .ref 14]) (H' := (c0 :: c1 :: c2 :: c3 :: c4 :: c5 :: c6 :: c7 :: c8 :: c9 :: c10 :: c11 :: c12 :: c13 :: bk1 zq zn zl za zd zb zc zk zh zi zf zg zj zm ze zo zp po)) rfl ?_
  obtain ⟨r185, hq285, h⟩ := bnd h
  refine OEnds.call0 hm_21 rfl rfl (by decide) rfl (as := [.ref 14, .int v1]) (rest := []) rfl rfl (ok_isActiveStay_1 hq285) ?_
  show OEnds own_P 21 5 [qr 14, qi v1] [.int r185] (c0 :: c1 :: c2 :: c3 :: c4 :: c5 :: c6 :: c7 :: c8 :: c9 :: c10 :: c11 :: c12 :: c13 :: bk1 zq zn zl za zd zb zc zk zh zi zf zg zj zm ze zo zp po) _
  by_cases hc286 : r185 = (0 : Int32)
  · simp only [if_pos hc286] at h
    refine OEnds.ifF hm_21 rfl ((teq hc286).2) ?_
    refine OEnds.adv hm_21 1 (pc' := 9) (L' := [qr 14, qi v1]) (S' := [.int (-1)]) (H' := (c0 :: c1 :: c2 :: c3 :: c4 :: c5 :: c6 :: c7 :: c8 :: c9 :: c10 :: c11 :: c12 :: c13 :: bk1 zq zn zl za zd zb zc zk zh zi zf zg zj zm ze zo zp po)) rfl ?_
    cases h
    exact OEnds.iret hm_21 rfl rfl
  · simp only [if_neg hc286] at h
    refine OEnds.ifT hm_21 rfl (q := 10) rfl ((feq hc286).2) ?_
    refine OEnds.adv hm_21 3 (pc' := 15) (L' := [qr 14, qi v1]) (S' := [.int v1, .ref 21]) (H' := (c0 :: c1 :: c2 :: c3 :: c4 :: c5 :: c6 :: c7 :: c8 :: c9 :: c10 :: c11 :: c12 :: c13 :: bk1 zq zn zl za zd zb zc zk zh zi zf zg zj zm ze zo zp po)) rfl ?_
    obtain ⟨x186, hx186, h⟩ := bnd h
    refine OEnds.plain hm_21 rfl rfl (x_iaload rfl hx186) ?_
    show OEnds own_P 21 16 [qr 14, qi v1] [.int x186] (c0 :: c1 :: c2 :: c3 :: c4 :: c5 :: c6 :: c7 :: c8 :: c9 :: c10 :: c11 :: c12 :: c13 :: bk1 zq zn zl za zd zb zc zk zh zi zf zg zj zm ze zo zp po) _
    cases h
    exact OEnds.iret hm_21 rfl rfl
theorem ok_exactAt_0 {zq zn zl za zd zb zc zk zh zi zf zg : List Int32} {zj zm ze zo zp : Int32} {c0 : ACell} {po : List ACell} {v1 v2 res : Int32} (h : f_exactAt zk v1 v2 = some res) : OEnds own_P 23 0 [qr 1, qi v1, qi v2] [] (c0 :: bk0 zq zn zl za zd zb zc zk zh zi zf zg zj zm ze zo zp po) (some (.int res), (c0 :: bk0 zq zn zl za zd zb zc zk zh zi zf zg zj zm ze zo zp po), 0, 0) := by
  unfold f_exactAt at h
  refine OEnds.adv hm_23 2 (pc' := 2) (L' := [qr 1, qi v1, qi v2]) (S' := [.int v1, .ref 1]) (H' := (c0 :: bk0 zq zn zl za zd zb zc zk zh zi zf zg zj zm ze zo zp po)) rfl ?_
  obtain ⟨r187, hq287, h⟩ := bnd h
  refine OEnds.call0 hm_23 rfl rfl (by decide) rfl (as := [.ref 1, .int v1]) (rest := []) rfl rfl (ok_isValidType_0 hq287) ?_
  show OEnds own_P 23 5 [qr 1, qi v1, qi v2] [.int r187] (c0 :: bk0 zq zn zl za zd zb zc zk zh zi zf zg zj zm ze zo zp po) _
  by_cases hc288 : r187 = (0 : Int32)
  · simp only [if_pos hc288] at h
    refine OEnds.ifT hm_23 rfl (q := 16) rfl ((teq hc288).1) ?_
    refine OEnds.adv hm_23 1 (pc' := 17) (L' := [qr 1, qi v1, qi v2]) (S' := [.int 0]) (H' := (c0 :: bk0 zq zn zl za zd zb zc zk zh zi zf zg zj zm ze zo zp po)) rfl ?_
    cases h
    exact OEnds.iret hm_23 rfl rfl
  · simp only [if_neg hc288] at h
    refine OEnds.ifF hm_23 rfl ((feq hc288).1) ?_
    refine OEnds.adv hm_23 2 (pc' := 10) (L' := [qr 1, qi v1, qi v2]) (S' := [.int v2, .ref 1]) (H' := (c0 :: bk0 zq zn zl za zd zb zc zk zh zi zf zg zj zm ze zo zp po)) rfl ?_
    obtain ⟨r188, hq289, h⟩ := bnd h
    refine OEnds.call0 hm_23 rfl rfl (by decide) rfl (as := [.ref 1, .int v2]) (rest := []) rfl rfl (ok_isValidNight_0 hq289) ?_
    show OEnds own_P 23 13 [qr 1, qi v1, qi v2] [.int r188] (c0 :: bk0 zq zn zl za zd zb zc zk zh zi zf zg zj zm ze zo zp po) _
    by_cases hc290 : r188 = (0 : Int32)
    · simp only [if_pos hc290] at h
      refine OEnds.ifF hm_23 rfl ((teq hc290).2) ?_
      refine OEnds.adv hm_23 1 (pc' := 17) (L' := [qr 1, qi v1, qi v2]) (S' := [.int 0]) (H' := (c0 :: bk0 zq zn zl za zd zb zc zk zh zi zf zg zj zm ze zo zp po)) rfl ?_
      cases h
      exact OEnds.iret hm_23 rfl rfl
    · simp only [if_neg hc290] at h
      refine OEnds.ifT hm_23 rfl (q := 18) rfl ((feq hc290).2) ?_
      refine OEnds.adv hm_23 5 (pc' := 25) (L' := [qr 1, qi v1, qi v2]) (S' := [.int v2, .int v1, .ref 1, .ref 9]) (H' := (c0 :: bk0 zq zn zl za zd zb zc zk zh zi zf zg zj zm ze zo zp po)) rfl ?_
      obtain ⟨r189, hq291, h⟩ := bnd h
      refine OEnds.call0 hm_23 rfl rfl (by decide) rfl (as := [.ref 1, .int v1, .int v2]) (rest := [.ref 9]) rfl rfl (ok_countIndex_0 hq291) ?_
      show OEnds own_P 23 28 [qr 1, qi v1, qi v2] [.int r189, .ref 9] (c0 :: bk0 zq zn zl za zd zb zc zk zh zi zf zg zj zm ze zo zp po) _
      obtain ⟨x190, hx190, h⟩ := bnd h
      refine OEnds.plain hm_23 rfl rfl (x_iaload rfl hx190) ?_
      show OEnds own_P 23 29 [qr 1, qi v1, qi v2] [.int x190] (c0 :: bk0 zq zn zl za zd zb zc zk zh zi zf zg zj zm ze zo zp po) _
      cases h
      exact OEnds.iret hm_23 rfl rfl
theorem ok_occupancy_0 {zq zn zl za zd zb zc zk zh zi zf zg : List Int32} {zj zm ze zo zp : Int32} {c0 : ACell} {po : List ACell} {v1 v2 res : Int32} (h : f_occupancy zk v1 v2 = some res) : OEnds own_P 22 0 [qr 1, qi v1, qi v2] [] (c0 :: bk0 zq zn zl za zd zb zc zk zh zi zf zg zj zm ze zo zp po) (some (.int res), (c0 :: bk0 zq zn zl za zd zb zc zk zh zi zf zg zj zm ze zo zp po), 0, 0) := by
  unfold f_occupancy at h
  refine OEnds.adv hm_22 2 (pc' := 2) (L' := [qr 1, qi v1, qi v2]) (S' := [.int v1, .ref 1]) (H' := (c0 :: bk0 zq zn zl za zd zb zc zk zh zi zf zg zj zm ze zo zp po)) rfl ?_
  obtain ⟨r191, hq292, h⟩ := bnd h
  refine OEnds.call0 hm_22 rfl rfl (by decide) rfl (as := [.ref 1, .int v1]) (rest := []) rfl rfl (ok_isValidType_0 hq292) ?_
  show OEnds own_P 22 5 [qr 1, qi v1, qi v2] [.int r191] (c0 :: bk0 zq zn zl za zd zb zc zk zh zi zf zg zj zm ze zo zp po) _
  by_cases hc293 : r191 = (0 : Int32)
  · simp only [if_pos hc293] at h
    refine OEnds.ifF hm_22 rfl ((teq hc293).2) ?_
    refine OEnds.adv hm_22 1 (pc' := 9) (L' := [qr 1, qi v1, qi v2]) (S' := [.int (-1)]) (H' := (c0 :: bk0 zq zn zl za zd zb zc zk zh zi zf zg zj zm ze zo zp po)) rfl ?_
    cases h
    exact OEnds.iret hm_22 rfl rfl
  · simp only [if_neg hc293] at h
    refine OEnds.ifT hm_22 rfl (q := 10) rfl ((feq hc293).2) ?_
    refine OEnds.adv hm_22 2 (pc' := 12) (L' := [qr 1, qi v1, qi v2]) (S' := [.int v2, .ref 1]) (H' := (c0 :: bk0 zq zn zl za zd zb zc zk zh zi zf zg zj zm ze zo zp po)) rfl ?_
    obtain ⟨r192, hq294, h⟩ := bnd h
    refine OEnds.call0 hm_22 rfl rfl (by decide) rfl (as := [.ref 1, .int v2]) (rest := []) rfl rfl (ok_isValidNight_0 hq294) ?_
    show OEnds own_P 22 15 [qr 1, qi v1, qi v2] [.int r192] (c0 :: bk0 zq zn zl za zd zb zc zk zh zi zf zg zj zm ze zo zp po) _
    by_cases hc295 : r192 = (0 : Int32)
    · simp only [if_pos hc295] at h
      refine OEnds.ifF hm_22 rfl ((teq hc295).2) ?_
      refine OEnds.adv hm_22 1 (pc' := 20) (L' := [qr 1, qi v1, qi v2]) (S' := [.int (-2)]) (H' := (c0 :: bk0 zq zn zl za zd zb zc zk zh zi zf zg zj zm ze zo zp po)) rfl ?_
      cases h
      exact OEnds.iret hm_22 rfl rfl
    · simp only [if_neg hc295] at h
      refine OEnds.ifT hm_22 rfl (q := 21) rfl ((feq hc295).2) ?_
      refine OEnds.adv hm_22 3 (pc' := 24) (L' := [qr 1, qi v1, qi v2]) (S' := [.int v2, .int v1, .ref 1]) (H' := (c0 :: bk0 zq zn zl za zd zb zc zk zh zi zf zg zj zm ze zo zp po)) rfl ?_
      obtain ⟨r193, hq296, h⟩ := bnd h
      refine OEnds.call0 hm_22 rfl rfl (by decide) rfl (as := [.ref 1, .int v1, .int v2]) (rest := []) rfl rfl (ok_exactAt_0 hq296) ?_
      show OEnds own_P 22 27 [qr 1, qi v1, qi v2] [.int r193] (c0 :: bk0 zq zn zl za zd zb zc zk zh zi zf zg zj zm ze zo zp po) _
      cases h
      exact OEnds.iret hm_22 rfl rfl
theorem ok_exactAt_1 {zq zn zl za zd zb zc zk zh zi zf zg : List Int32} {zj zm ze zo zp : Int32} {c0 c1 c2 c3 c4 c5 c6 c7 c8 c9 c10 c11 c12 c13 : ACell} {po : List ACell} {v1 v2 res : Int32} (h : f_exactAt zk v1 v2 = some res) : OEnds own_P 23 0 [qr 14, qi v1, qi v2] [] (c0 :: c1 :: c2 :: c3 :: c4 :: c5 :: c6 :: c7 :: c8 :: c9 :: c10 :: c11 :: c12 :: c13 :: bk1 zq zn zl za zd zb zc zk zh zi zf zg zj zm ze zo zp po) (some (.int res), (c0 :: c1 :: c2 :: c3 :: c4 :: c5 :: c6 :: c7 :: c8 :: c9 :: c10 :: c11 :: c12 :: c13 :: bk1 zq zn zl za zd zb zc zk zh zi zf zg zj zm ze zo zp po), 0, 0) := by
  unfold f_exactAt at h
  refine OEnds.adv hm_23 2 (pc' := 2) (L' := [qr 14, qi v1, qi v2]) (S' := [.int v1, .ref 14]) (H' := (c0 :: c1 :: c2 :: c3 :: c4 :: c5 :: c6 :: c7 :: c8 :: c9 :: c10 :: c11 :: c12 :: c13 :: bk1 zq zn zl za zd zb zc zk zh zi zf zg zj zm ze zo zp po)) rfl ?_
  obtain ⟨r187, hq297, h⟩ := bnd h
  refine OEnds.call0 hm_23 rfl rfl (by decide) rfl (as := [.ref 14, .int v1]) (rest := []) rfl rfl (ok_isValidType_1 hq297) ?_
  show OEnds own_P 23 5 [qr 14, qi v1, qi v2] [.int r187] (c0 :: c1 :: c2 :: c3 :: c4 :: c5 :: c6 :: c7 :: c8 :: c9 :: c10 :: c11 :: c12 :: c13 :: bk1 zq zn zl za zd zb zc zk zh zi zf zg zj zm ze zo zp po) _
  by_cases hc298 : r187 = (0 : Int32)
  · simp only [if_pos hc298] at h
    refine OEnds.ifT hm_23 rfl (q := 16) rfl ((teq hc298).1) ?_
    refine OEnds.adv hm_23 1 (pc' := 17) (L' := [qr 14, qi v1, qi v2]) (S' := [.int 0]) (H' := (c0 :: c1 :: c2 :: c3 :: c4 :: c5 :: c6 :: c7 :: c8 :: c9 :: c10 :: c11 :: c12 :: c13 :: bk1 zq zn zl za zd zb zc zk zh zi zf zg zj zm ze zo zp po)) rfl ?_
    cases h
    exact OEnds.iret hm_23 rfl rfl
  · simp only [if_neg hc298] at h
    refine OEnds.ifF hm_23 rfl ((feq hc298).1) ?_
    refine OEnds.adv hm_23 2 (pc' := 10) (L' := [qr 14, qi v1, qi v2]) (S' := [.int v2, .ref 14]) (H' := (c0 :: c1 :: c2 :: c3 :: c4 :: c5 :: c6 :: c7 :: c8 :: c9 :: c10 :: c11 :: c12 :: c13 :: bk1 zq zn zl za zd zb zc zk zh zi zf zg zj zm ze zo zp po)) rfl ?_
    obtain ⟨r188, hq299, h⟩ := bnd h
    refine OEnds.call0 hm_23 rfl rfl (by decide) rfl (as := [.ref 14, .int v2]) (rest := []) rfl rfl (ok_isValidNight_1 hq299) ?_
    show OEnds own_P 23 13 [qr 14, qi v1, qi v2] [.int r188] (c0 :: c1 :: c2 :: c3 :: c4 :: c5 :: c6 :: c7 :: c8 :: c9 :: c10 :: c11 :: c12 :: c13 :: bk1 zq zn zl za zd zb zc zk zh zi zf zg zj zm ze zo zp po) _
    by_cases hc300 : r188 = (0 : Int32)
    · simp only [if_pos hc300] at h
      refine OEnds.ifF hm_23 rfl ((teq hc300).2) ?_
      refine OEnds.adv hm_23 1 (pc' := 17) (L' := [qr 14, qi v1, qi v2]) (S' := [.int 0]) (H' := (c0 :: c1 :: c2 :: c3 :: c4 :: c5 :: c6 :: c7 :: c8 :: c9 :: c10 :: c11 :: c12 :: c13 :: bk1 zq zn zl za zd zb zc zk zh zi zf zg zj zm ze zo zp po)) rfl ?_
      cases h
      exact OEnds.iret hm_23 rfl rfl
    · simp only [if_neg hc300] at h
      refine OEnds.ifT hm_23 rfl (q := 18) rfl ((feq hc300).2) ?_
      refine OEnds.adv hm_23 5 (pc' := 25) (L' := [qr 14, qi v1, qi v2]) (S' := [.int v2, .int v1, .ref 14, .ref 22]) (H' := (c0 :: c1 :: c2 :: c3 :: c4 :: c5 :: c6 :: c7 :: c8 :: c9 :: c10 :: c11 :: c12 :: c13 :: bk1 zq zn zl za zd zb zc zk zh zi zf zg zj zm ze zo zp po)) rfl ?_
      obtain ⟨r189, hq301, h⟩ := bnd h
      refine OEnds.call0 hm_23 rfl rfl (by decide) rfl (as := [.ref 14, .int v1, .int v2]) (rest := [.ref 22]) rfl rfl (ok_countIndex_1 hq301) ?_
      show OEnds own_P 23 28 [qr 14, qi v1, qi v2] [.int r189, .ref 22] (c0 :: c1 :: c2 :: c3 :: c4 :: c5 :: c6 :: c7 :: c8 :: c9 :: c10 :: c11 :: c12 :: c13 :: bk1 zq zn zl za zd zb zc zk zh zi zf zg zj zm ze zo zp po) _
      obtain ⟨x190, hx190, h⟩ := bnd h
      refine OEnds.plain hm_23 rfl rfl (x_iaload rfl hx190) ?_
      show OEnds own_P 23 29 [qr 14, qi v1, qi v2] [.int x190] (c0 :: c1 :: c2 :: c3 :: c4 :: c5 :: c6 :: c7 :: c8 :: c9 :: c10 :: c11 :: c12 :: c13 :: bk1 zq zn zl za zd zb zc zk zh zi zf zg zj zm ze zo zp po) _
      cases h
      exact OEnds.iret hm_23 rfl rfl
theorem ok_occupancy_1 {zq zn zl za zd zb zc zk zh zi zf zg : List Int32} {zj zm ze zo zp : Int32} {c0 c1 c2 c3 c4 c5 c6 c7 c8 c9 c10 c11 c12 c13 : ACell} {po : List ACell} {v1 v2 res : Int32} (h : f_occupancy zk v1 v2 = some res) : OEnds own_P 22 0 [qr 14, qi v1, qi v2] [] (c0 :: c1 :: c2 :: c3 :: c4 :: c5 :: c6 :: c7 :: c8 :: c9 :: c10 :: c11 :: c12 :: c13 :: bk1 zq zn zl za zd zb zc zk zh zi zf zg zj zm ze zo zp po) (some (.int res), (c0 :: c1 :: c2 :: c3 :: c4 :: c5 :: c6 :: c7 :: c8 :: c9 :: c10 :: c11 :: c12 :: c13 :: bk1 zq zn zl za zd zb zc zk zh zi zf zg zj zm ze zo zp po), 0, 0) := by
  unfold f_occupancy at h
  refine OEnds.adv hm_22 2 (pc' := 2) (L' := [qr 14, qi v1, qi v2]) (S' := [.int v1, .ref 14]) (H' := (c0 :: c1 :: c2 :: c3 :: c4 :: c5 :: c6 :: c7 :: c8 :: c9 :: c10 :: c11 :: c12 :: c13 :: bk1 zq zn zl za zd zb zc zk zh zi zf zg zj zm ze zo zp po)) rfl ?_
  obtain ⟨r191, hq302, h⟩ := bnd h
  refine OEnds.call0 hm_22 rfl rfl (by decide) rfl (as := [.ref 14, .int v1]) (rest := []) rfl rfl (ok_isValidType_1 hq302) ?_
  show OEnds own_P 22 5 [qr 14, qi v1, qi v2] [.int r191] (c0 :: c1 :: c2 :: c3 :: c4 :: c5 :: c6 :: c7 :: c8 :: c9 :: c10 :: c11 :: c12 :: c13 :: bk1 zq zn zl za zd zb zc zk zh zi zf zg zj zm ze zo zp po) _
  by_cases hc303 : r191 = (0 : Int32)
  · simp only [if_pos hc303] at h
    refine OEnds.ifF hm_22 rfl ((teq hc303).2) ?_
    refine OEnds.adv hm_22 1 (pc' := 9) (L' := [qr 14, qi v1, qi v2]) (S' := [.int (-1)]) (H' := (c0 :: c1 :: c2 :: c3 :: c4 :: c5 :: c6 :: c7 :: c8 :: c9 :: c10 :: c11 :: c12 :: c13 :: bk1 zq zn zl za zd zb zc zk zh zi zf zg zj zm ze zo zp po)) rfl ?_
    cases h
    exact OEnds.iret hm_22 rfl rfl
  · simp only [if_neg hc303] at h
    refine OEnds.ifT hm_22 rfl (q := 10) rfl ((feq hc303).2) ?_
    refine OEnds.adv hm_22 2 (pc' := 12) (L' := [qr 14, qi v1, qi v2]) (S' := [.int v2, .ref 14]) (H' := (c0 :: c1 :: c2 :: c3 :: c4 :: c5 :: c6 :: c7 :: c8 :: c9 :: c10 :: c11 :: c12 :: c13 :: bk1 zq zn zl za zd zb zc zk zh zi zf zg zj zm ze zo zp po)) rfl ?_
    obtain ⟨r192, hq304, h⟩ := bnd h
    refine OEnds.call0 hm_22 rfl rfl (by decide) rfl (as := [.ref 14, .int v2]) (rest := []) rfl rfl (ok_isValidNight_1 hq304) ?_
    show OEnds own_P 22 15 [qr 14, qi v1, qi v2] [.int r192] (c0 :: c1 :: c2 :: c3 :: c4 :: c5 :: c6 :: c7 :: c8 :: c9 :: c10 :: c11 :: c12 :: c13 :: bk1 zq zn zl za zd zb zc zk zh zi zf zg zj zm ze zo zp po) _
    by_cases hc305 : r192 = (0 : Int32)
    · simp only [if_pos hc305] at h
      refine OEnds.ifF hm_22 rfl ((teq hc305).2) ?_
      refine OEnds.adv hm_22 1 (pc' := 20) (L' := [qr 14, qi v1, qi v2]) (S' := [.int (-2)]) (H' := (c0 :: c1 :: c2 :: c3 :: c4 :: c5 :: c6 :: c7 :: c8 :: c9 :: c10 :: c11 :: c12 :: c13 :: bk1 zq zn zl za zd zb zc zk zh zi zf zg zj zm ze zo zp po)) rfl ?_
      cases h
      exact OEnds.iret hm_22 rfl rfl
    · simp only [if_neg hc305] at h
      refine OEnds.ifT hm_22 rfl (q := 21) rfl ((feq hc305).2) ?_
      refine OEnds.adv hm_22 3 (pc' := 24) (L' := [qr 14, qi v1, qi v2]) (S' := [.int v2, .int v1, .ref 14]) (H' := (c0 :: c1 :: c2 :: c3 :: c4 :: c5 :: c6 :: c7 :: c8 :: c9 :: c10 :: c11 :: c12 :: c13 :: bk1 zq zn zl za zd zb zc zk zh zi zf zg zj zm ze zo zp po)) rfl ?_
      obtain ⟨r193, hq306, h⟩ := bnd h
      refine OEnds.call0 hm_22 rfl rfl (by decide) rfl (as := [.ref 14, .int v1, .int v2]) (rest := []) rfl rfl (ok_exactAt_1 hq306) ?_
      show OEnds own_P 22 27 [qr 14, qi v1, qi v2] [.int r193] (c0 :: c1 :: c2 :: c3 :: c4 :: c5 :: c6 :: c7 :: c8 :: c9 :: c10 :: c11 :: c12 :: c13 :: bk1 zq zn zl za zd zb zc zk zh zi zf zg zj zm ze zo zp po) _
      cases h
      exact OEnds.iret hm_22 rfl rfl
theorem ok_L_same_81_0_1 {zaf zx zy zr zt zu zv zw zag zaa zab zac : List Int32} {zz zs zad zah zae : Int32} {zao zap zaq zai zaj zak zal zam zar zas zat zau : List Int32} {zav zan zaw zax zay : Int32} {c0 : ACell} {po : List ACell} {k74 : Int32 → Option (Int32)} (hk74 : ∀ {v2 : Int32} {d3 : Slot} {res : Int32}, k74 v2 = some res → OEnds own_P 16 74 [qr 1, qr 14, qi v2, d3] [] (c0 :: bk0 zaf zx zy zr zt zu zv zw zag zaa zab zac zz zs zad zah zae (bk1 zao zap zaq zai zaj zak zal zam zar zas zat zau zav zan zaw zax zay po)) (some (.int res), (c0 :: bk0 zaf zx zy zr zt zu zv zw zag zaa zab zac zz zs zad zah zae (bk1 zao zap zaq zai zaj zak zal zam zar zas zat zau zav zan zaw zax zay po)), 0, 0)) : ∀ (n : Nat), ∀ {v2 v3 : Int32} {res : Int32}, f_L_same_81 k74 zr zt zu zv zw zs zai zaj zak zal zam zan n v2 v3 = some res → OEnds own_P 16 81 [qr 1, qr 14, qi v2, qi v3] [] (c0 :: bk0 zaf zx zy zr zt zu zv zw zag zaa zab zac zz zs zad zah zae (bk1 zao zap zaq zai zaj zak zal zam zar zas zat zau zav zan zaw zax zay po)) (some (.int res), (c0 :: bk0 zaf zx zy zr zt zu zv zw zag zaa zab zac zz zs zad zah zae (bk1 zao zap zaq zai zaj zak zal zam zar zas zat zau zav zan zaw zax zay po)), 0, 0) := by
  intro n
  induction n with
  | zero => intro v2 v3 res h; cases h
  | succ n ih =>
    intro v2 v3 res h
    unfold f_L_same_81 at h
    refine OEnds.adv hm_16 2 (pc' := 84) (L' := [qr 1, qr 14, qi v2, qi v3]) (S' := [.int 32, .int v3]) (H' := (c0 :: bk0 zaf zx zy zr zt zu zv zw zag zaa zab zac zz zs zad zah zae (bk1 zao zap zaq zai zaj zak zal zam zar zas zat zau zav zan zaw zax zay po))) rfl ?_
    by_cases hc307 : v3 < (32 : Int32)
    · simp only [if_pos hc307] at h
      refine OEnds.icmpF hm_16 rfl ((tlt hc307).2.1) ?_
      refine OEnds.adv hm_16 3 (pc' := 90) (L' := [qr 1, qr 14, qi v2, qi v3]) (S' := [.int v3, .int v2, .ref 1]) (H' := (c0 :: bk0 zaf zx zy zr zt zu zv zw zag zaa zab zac zz zs zad zah zae (bk1 zao zap zaq zai zaj zak zal zam zar zas zat zau zav zan zaw zax zay po))) rfl ?_
      obtain ⟨r202, hq308, h⟩ := bnd h
      refine OEnds.call0 hm_16 rfl rfl (by decide) rfl (as := [.ref 1, .int v2, .int v3]) (rest := []) rfl rfl (ok_occupancy_0 hq308) ?_
      refine OEnds.adv hm_16 3 (pc' := 96) (L' := [qr 1, qr 14, qi v2, qi v3]) (S' := [.int v3, .int v2, .ref 14, .int r202]) (H' := (c0 :: bk0 zaf zx zy zr zt zu zv zw zag zaa zab zac zz zs zad zah zae (bk1 zao zap zaq zai zaj zak zal zam zar zas zat zau zav zan zaw zax zay po))) rfl ?_
      obtain ⟨r203, hq309, h⟩ := bnd h
      refine OEnds.call0 hm_16 rfl rfl (by decide) rfl (as := [.ref 14, .int v2, .int v3]) (rest := [.int r202]) rfl rfl (ok_occupancy_1 hq309) ?_
      show OEnds own_P 16 99 [qr 1, qr 14, qi v2, qi v3] [.int r203, .int r202] (c0 :: bk0 zaf zx zy zr zt zu zv zw zag zaa zab zac zz zs zad zah zae (bk1 zao zap zaq zai zaj zak zal zam zar zas zat zau zav zan zaw zax zay po)) _
      by_cases hc310 : r202 = r203
      · simp only [if_pos hc310] at h
        refine OEnds.icmpT hm_16 rfl (q := 104) rfl ((teq hc310).1) ?_
        refine OEnds.adv hm_16 2 (pc' := 81) (L' := [qr 1, qr 14, qi v2, qi (v3 + (1 : Int32))]) (S' := []) (H' := (c0 :: bk0 zaf zx zy zr zt zu zv zw zag zaa zab zac zz zs zad zah zae (bk1 zao zap zaq zai zaj zak zal zam zar zas zat zau zav zan zaw zax zay po))) rfl ?_
        exact ih h
      · simp only [if_neg hc310] at h
        refine OEnds.icmpF hm_16 rfl ((feq hc310).1) ?_
        refine OEnds.adv hm_16 1 (pc' := 103) (L' := [qr 1, qr 14, qi v2, qi v3]) (S' := [.int 0]) (H' := (c0 :: bk0 zaf zx zy zr zt zu zv zw zag zaa zab zac zz zs zad zah zae (bk1 zao zap zaq zai zaj zak zal zam zar zas zat zau zav zan zaw zax zay po))) rfl ?_
        cases h
        exact OEnds.iret hm_16 rfl rfl
    · simp only [if_neg hc307] at h
      refine OEnds.icmpT hm_16 rfl (q := 110) rfl ((flt hc307).2.1) ?_
      refine OEnds.adv hm_16 2 (pc' := 74) (L' := [qr 1, qr 14, qi (v2 + (1 : Int32)), qi v3]) (S' := []) (H' := (c0 :: bk0 zaf zx zy zr zt zu zv zw zag zaa zab zac zz zs zad zah zae (bk1 zao zap zaq zai zaj zak zal zam zar zas zat zau zav zan zaw zax zay po))) rfl ?_
      exact hk74 h
theorem ok_L_same_74_0_1 {zaf zx zy zr zt zu zv zw zag zaa zab zac : List Int32} {zz zs zad zah zae : Int32} {zao zap zaq zai zaj zak zal zam zar zas zat zau : List Int32} {zav zan zaw zax zay : Int32} {c0 : ACell} {po : List ACell} : ∀ (n : Nat), ∀ {v2 : Int32} {d3 : Slot} {res : Int32}, f_L_same_74 zr zt zu zv zw zs zai zaj zak zal zam zan n v2 = some res → OEnds own_P 16 74 [qr 1, qr 14, qi v2, d3] [] (c0 :: bk0 zaf zx zy zr zt zu zv zw zag zaa zab zac zz zs zad zah zae (bk1 zao zap zaq zai zaj zak zal zam zar zas zat zau zav zan zaw zax zay po)) (some (.int res), (c0 :: bk0 zaf zx zy zr zt zu zv zw zag zaa zab zac zz zs zad zah zae (bk1 zao zap zaq zai zaj zak zal zam zar zas zat zau zav zan zaw zax zay po)), 0, 0) := by
  intro n
  induction n with
  | zero => intro v2 d3 res h; cases h
  | succ n ih =>
    intro v2 d3 res h
    unfold f_L_same_74 at h
    refine OEnds.adv hm_16 2 (pc' := 76) (L' := [qr 1, qr 14, qi v2, qu]) (S' := [.int 3, .int v2]) (H' := (c0 :: bk0 zaf zx zy zr zt zu zv zw zag zaa zab zac zz zs zad zah zae (bk1 zao zap zaq zai zaj zak zal zam zar zas zat zau zav zan zaw zax zay po))) rfl ?_
    by_cases hc311 : v2 < (3 : Int32)
    · simp only [if_pos hc311] at h
      refine OEnds.icmpF hm_16 rfl ((tlt hc311).2.1) ?_
      refine OEnds.adv hm_16 2 (pc' := 81) (L' := [qr 1, qr 14, qi v2, qi 0]) (S' := []) (H' := (c0 :: bk0 zaf zx zy zr zt zu zv zw zag zaa zab zac zz zs zad zah zae (bk1 zao zap zaq zai zaj zak zal zam zar zas zat zau zav zan zaw zax zay po))) rfl ?_
      exact ok_L_same_81_0_1 (k74 := f_L_same_74 zr zt zu zv zw zs zai zaj zak zal zam zan n) ih 100000 h
    · simp only [if_neg hc311] at h
      refine OEnds.icmpT hm_16 rfl (q := 116) rfl ((flt hc311).2.1) ?_
      refine OEnds.adv hm_16 1 (pc' := 117) (L' := [qr 1, qr 14, qi v2, qu]) (S' := [.int 1]) (H' := (c0 :: bk0 zaf zx zy zr zt zu zv zw zag zaa zab zac zz zs zad zah zae (bk1 zao zap zaq zai zaj zak zal zam zar zas zat zau zav zan zaw zax zay po))) rfl ?_
      cases h
      exact OEnds.iret hm_16 rfl rfl
theorem ok_L_same_15_0_1 {zaf zx zy zr zt zu zv zw zag zaa zab zac : List Int32} {zz zs zad zah zae : Int32} {zao zap zaq zai zaj zak zal zam zar zas zat zau : List Int32} {zav zan zaw zax zay : Int32} {c0 : ACell} {po : List ACell} {k74 : Int32 → Option (Int32)} (hk74 : ∀ {v2 : Int32} {d3 : Slot} {res : Int32}, k74 v2 = some res → OEnds own_P 16 74 [qr 1, qr 14, qi v2, d3] [] (c0 :: bk0 zaf zx zy zr zt zu zv zw zag zaa zab zac zz zs zad zah zae (bk1 zao zap zaq zai zaj zak zal zam zar zas zat zau zav zan zaw zax zay po)) (some (.int res), (c0 :: bk0 zaf zx zy zr zt zu zv zw zag zaa zab zac zz zs zad zah zae (bk1 zao zap zaq zai zaj zak zal zam zar zas zat zau zav zan zaw zax zay po)), 0, 0)) : ∀ (n : Nat), ∀ {v2 : Int32} {d3 : Slot} {res : Int32}, f_L_same_15 k74 zr zt zu zv zw zs zai zaj zak zal zam zan n v2 = some res → OEnds own_P 16 15 [qr 1, qr 14, qi v2, d3] [] (c0 :: bk0 zaf zx zy zr zt zu zv zw zag zaa zab zac zz zs zad zah zae (bk1 zao zap zaq zai zaj zak zal zam zar zas zat zau zav zan zaw zax zay po)) (some (.int res), (c0 :: bk0 zaf zx zy zr zt zu zv zw zag zaa zab zac zz zs zad zah zae (bk1 zao zap zaq zai zaj zak zal zam zar zas zat zau zav zan zaw zax zay po)), 0, 0) := by
  intro n
  induction n with
  | zero => intro v2 d3 res h; cases h
  | succ n ih =>
    intro v2 d3 res h
    unfold f_L_same_15 at h
    refine OEnds.adv hm_16 2 (pc' := 18) (L' := [qr 1, qr 14, qi v2, qu]) (S' := [.int 32, .int v2]) (H' := (c0 :: bk0 zaf zx zy zr zt zu zv zw zag zaa zab zac zz zs zad zah zae (bk1 zao zap zaq zai zaj zak zal zam zar zas zat zau zav zan zaw zax zay po))) rfl ?_
    by_cases hc312 : v2 < (32 : Int32)
    · simp only [if_pos hc312] at h
      refine OEnds.icmpF hm_16 rfl ((tlt hc312).2.1) ?_
      refine OEnds.adv hm_16 2 (pc' := 23) (L' := [qr 1, qr 14, qi v2, qu]) (S' := [.int v2, .ref 1]) (H' := (c0 :: bk0 zaf zx zy zr zt zu zv zw zag zaa zab zac zz zs zad zah zae (bk1 zao zap zaq zai zaj zak zal zam zar zas zat zau zav zan zaw zax zay po))) rfl ?_
      obtain ⟨r196, hq313, h⟩ := bnd h
      refine OEnds.call0 hm_16 rfl rfl (by decide) rfl (as := [.ref 1, .int v2]) (rest := []) rfl rfl (ok_stayType_0 hq313) ?_
      refine OEnds.adv hm_16 2 (pc' := 28) (L' := [qr 1, qr 14, qi v2, qu]) (S' := [.int v2, .ref 14, .int r196]) (H' := (c0 :: bk0 zaf zx zy zr zt zu zv zw zag zaa zab zac zz zs zad zah zae (bk1 zao zap zaq zai zaj zak zal zam zar zas zat zau zav zan zaw zax zay po))) rfl ?_
      obtain ⟨r197, hq314, h⟩ := bnd h
      refine OEnds.call0 hm_16 rfl rfl (by decide) rfl (as := [.ref 14, .int v2]) (rest := [.int r196]) rfl rfl (ok_stayType_1 hq314) ?_
      show OEnds own_P 16 31 [qr 1, qr 14, qi v2, qu] [.int r197, .int r196] (c0 :: bk0 zaf zx zy zr zt zu zv zw zag zaa zab zac zz zs zad zah zae (bk1 zao zap zaq zai zaj zak zal zam zar zas zat zau zav zan zaw zax zay po)) _
      by_cases hc315 : r196 = r197
      · simp only [if_pos hc315] at h
        refine OEnds.icmpT hm_16 rfl (q := 36) rfl ((teq hc315).1) ?_
        refine OEnds.adv hm_16 2 (pc' := 38) (L' := [qr 1, qr 14, qi v2, qu]) (S' := [.int v2, .ref 1]) (H' := (c0 :: bk0 zaf zx zy zr zt zu zv zw zag zaa zab zac zz zs zad zah zae (bk1 zao zap zaq zai zaj zak zal zam zar zas zat zau zav zan zaw zax zay po))) rfl ?_
        obtain ⟨r198, hq316, h⟩ := bnd h
        refine OEnds.call0 hm_16 rfl rfl (by decide) rfl (as := [.ref 1, .int v2]) (rest := []) rfl rfl (ok_stayArrive_0 hq316) ?_
        refine OEnds.adv hm_16 2 (pc' := 43) (L' := [qr 1, qr 14, qi v2, qu]) (S' := [.int v2, .ref 14, .int r198]) (H' := (c0 :: bk0 zaf zx zy zr zt zu zv zw zag zaa zab zac zz zs zad zah zae (bk1 zao zap zaq zai zaj zak zal zam zar zas zat zau zav zan zaw zax zay po))) rfl ?_
        obtain ⟨r199, hq317, h⟩ := bnd h
        refine OEnds.call0 hm_16 rfl rfl (by decide) rfl (as := [.ref 14, .int v2]) (rest := [.int r198]) rfl rfl (ok_stayArrive_1 hq317) ?_
        show OEnds own_P 16 46 [qr 1, qr 14, qi v2, qu] [.int r199, .int r198] (c0 :: bk0 zaf zx zy zr zt zu zv zw zag zaa zab zac zz zs zad zah zae (bk1 zao zap zaq zai zaj zak zal zam zar zas zat zau zav zan zaw zax zay po)) _
        by_cases hc318 : r198 = r199
        · simp only [if_pos hc318] at h
          refine OEnds.icmpT hm_16 rfl (q := 51) rfl ((teq hc318).1) ?_
          refine OEnds.adv hm_16 2 (pc' := 53) (L' := [qr 1, qr 14, qi v2, qu]) (S' := [.int v2, .ref 1]) (H' := (c0 :: bk0 zaf zx zy zr zt zu zv zw zag zaa zab zac zz zs zad zah zae (bk1 zao zap zaq zai zaj zak zal zam zar zas zat zau zav zan zaw zax zay po))) rfl ?_
          obtain ⟨r200, hq319, h⟩ := bnd h
          refine OEnds.call0 hm_16 rfl rfl (by decide) rfl (as := [.ref 1, .int v2]) (rest := []) rfl rfl (ok_stayNights_0 hq319) ?_
          refine OEnds.adv hm_16 2 (pc' := 58) (L' := [qr 1, qr 14, qi v2, qu]) (S' := [.int v2, .ref 14, .int r200]) (H' := (c0 :: bk0 zaf zx zy zr zt zu zv zw zag zaa zab zac zz zs zad zah zae (bk1 zao zap zaq zai zaj zak zal zam zar zas zat zau zav zan zaw zax zay po))) rfl ?_
          obtain ⟨r201, hq320, h⟩ := bnd h
          refine OEnds.call0 hm_16 rfl rfl (by decide) rfl (as := [.ref 14, .int v2]) (rest := [.int r200]) rfl rfl (ok_stayNights_1 hq320) ?_
          show OEnds own_P 16 61 [qr 1, qr 14, qi v2, qu] [.int r201, .int r200] (c0 :: bk0 zaf zx zy zr zt zu zv zw zag zaa zab zac zz zs zad zah zae (bk1 zao zap zaq zai zaj zak zal zam zar zas zat zau zav zan zaw zax zay po)) _
          by_cases hc321 : r200 = r201
          · simp only [if_pos hc321] at h
            refine OEnds.icmpT hm_16 rfl (q := 66) rfl ((teq hc321).1) ?_
            refine OEnds.adv hm_16 2 (pc' := 15) (L' := [qr 1, qr 14, qi (v2 + (1 : Int32)), qu]) (S' := []) (H' := (c0 :: bk0 zaf zx zy zr zt zu zv zw zag zaa zab zac zz zs zad zah zae (bk1 zao zap zaq zai zaj zak zal zam zar zas zat zau zav zan zaw zax zay po))) rfl ?_
            exact ih h
          · simp only [if_neg hc321] at h
            refine OEnds.icmpF hm_16 rfl ((feq hc321).1) ?_
            refine OEnds.adv hm_16 1 (pc' := 65) (L' := [qr 1, qr 14, qi v2, qu]) (S' := [.int 0]) (H' := (c0 :: bk0 zaf zx zy zr zt zu zv zw zag zaa zab zac zz zs zad zah zae (bk1 zao zap zaq zai zaj zak zal zam zar zas zat zau zav zan zaw zax zay po))) rfl ?_
            cases h
            exact OEnds.iret hm_16 rfl rfl
        · simp only [if_neg hc318] at h
          refine OEnds.icmpF hm_16 rfl ((feq hc318).1) ?_
          refine OEnds.adv hm_16 1 (pc' := 50) (L' := [qr 1, qr 14, qi v2, qu]) (S' := [.int 0]) (H' := (c0 :: bk0 zaf zx zy zr zt zu zv zw zag zaa zab zac zz zs zad zah zae (bk1 zao zap zaq zai zaj zak zal zam zar zas zat zau zav zan zaw zax zay po))) rfl ?_
          cases h
          exact OEnds.iret hm_16 rfl rfl
      · simp only [if_neg hc315] at h
        refine OEnds.icmpF hm_16 rfl ((feq hc315).1) ?_
        refine OEnds.adv hm_16 1 (pc' := 35) (L' := [qr 1, qr 14, qi v2, qu]) (S' := [.int 0]) (H' := (c0 :: bk0 zaf zx zy zr zt zu zv zw zag zaa zab zac zz zs zad zah zae (bk1 zao zap zaq zai zaj zak zal zam zar zas zat zau zav zan zaw zax zay po))) rfl ?_
        cases h
        exact OEnds.iret hm_16 rfl rfl
    · simp only [if_neg hc312] at h
      refine OEnds.icmpT hm_16 rfl (q := 72) rfl ((flt hc312).2.1) ?_
      refine OEnds.adv hm_16 2 (pc' := 74) (L' := [qr 1, qr 14, qi 0, qu]) (S' := []) (H' := (c0 :: bk0 zaf zx zy zr zt zu zv zw zag zaa zab zac zz zs zad zah zae (bk1 zao zap zaq zai zaj zak zal zam zar zas zat zau zav zan zaw zax zay po))) rfl ?_
      exact hk74 h
theorem ok_L_same_0_1 {zaf zx zy zr zt zu zv zw zag zaa zab zac : List Int32} {zz zs zad zah zae : Int32} {zao zap zaq zai zaj zak zal zam zar zas zat zau : List Int32} {zav zan zaw zax zay : Int32} {c0 : ACell} {po : List ACell} {res : Int32} (h : f_L_same zr zt zu zv zw zs zai zaj zak zal zam zan = some res) : OEnds own_P 16 0 [qr 1, qr 14, qu, qu] [] (c0 :: bk0 zaf zx zy zr zt zu zv zw zag zaa zab zac zz zs zad zah zae (bk1 zao zap zaq zai zaj zak zal zam zar zas zat zau zav zan zaw zax zay po)) (some (.int res), (c0 :: bk0 zaf zx zy zr zt zu zv zw zag zaa zab zac zz zs zad zah zae (bk1 zao zap zaq zai zaj zak zal zam zar zas zat zau zav zan zaw zax zay po)), 0, 0) := by
  unfold f_L_same at h
  refine OEnds.adv hm_16 1 (pc' := 1) (L' := [qr 1, qr 14, qu, qu]) (S' := [.ref 1]) (H' := (c0 :: bk0 zaf zx zy zr zt zu zv zw zag zaa zab zac zz zs zad zah zae (bk1 zao zap zaq zai zaj zak zal zam zar zas zat zau zav zan zaw zax zay po))) rfl ?_
  obtain ⟨r194, hq322, h⟩ := bnd h
  refine OEnds.call0 hm_16 rfl rfl (by decide) rfl (as := [.ref 1]) (rest := []) rfl rfl (ok_activeCount_0 hq322) ?_
  refine OEnds.adv hm_16 1 (pc' := 5) (L' := [qr 1, qr 14, qu, qu]) (S' := [.ref 14, .int r194]) (H' := (c0 :: bk0 zaf zx zy zr zt zu zv zw zag zaa zab zac zz zs zad zah zae (bk1 zao zap zaq zai zaj zak zal zam zar zas zat zau zav zan zaw zax zay po))) rfl ?_
  obtain ⟨r195, hq323, h⟩ := bnd h
  refine OEnds.call0 hm_16 rfl rfl (by decide) rfl (as := [.ref 14]) (rest := [.int r194]) rfl rfl (ok_activeCount_1 hq323) ?_
  show OEnds own_P 16 8 [qr 1, qr 14, qu, qu] [.int r195, .int r194] (c0 :: bk0 zaf zx zy zr zt zu zv zw zag zaa zab zac zz zs zad zah zae (bk1 zao zap zaq zai zaj zak zal zam zar zas zat zau zav zan zaw zax zay po)) _
  by_cases hc324 : r194 = r195
  · simp only [if_pos hc324] at h
    refine OEnds.icmpT hm_16 rfl (q := 13) rfl ((teq hc324).1) ?_
    refine OEnds.adv hm_16 2 (pc' := 15) (L' := [qr 1, qr 14, qi 0, qu]) (S' := []) (H' := (c0 :: bk0 zaf zx zy zr zt zu zv zw zag zaa zab zac zz zs zad zah zae (bk1 zao zap zaq zai zaj zak zal zam zar zas zat zau zav zan zaw zax zay po))) rfl ?_
    exact ok_L_same_15_0_1 (k74 := f_L_same_74 zr zt zu zv zw zs zai zaj zak zal zam zan 100000) (ok_L_same_74_0_1 100000) 100000 h
  · simp only [if_neg hc324] at h
    refine OEnds.icmpF hm_16 rfl ((feq hc324).1) ?_
    refine OEnds.adv hm_16 1 (pc' := 12) (L' := [qr 1, qr 14, qu, qu]) (S' := [.int 0]) (H' := (c0 :: bk0 zaf zx zy zr zt zu zv zw zag zaa zab zac zz zs zad zah zae (bk1 zao zap zaq zai zaj zak zal zam zar zas zat zau zav zan zaw zax zay po))) rfl ?_
    cases h
    exact OEnds.iret hm_16 rfl rfl
theorem ok_L_law_150 {scr : List Int32} {kb : List Int32 → List Int32 → List Int32 → List Int32 → List Int32 → List Int32 → List Int32 → List Int32 → List Int32 → List Int32 → List Int32 → Int32 → Int32 → Int32 → Int32 → Int32 → List Int32 → List Int32 → List Int32 → List Int32 → List Int32 → List Int32 → List Int32 → List Int32 → List Int32 → List Int32 → List Int32 → Int32 → Int32 → Int32 → Int32 → Int32 → Int32 → Int32 → Option (Int32)} (hkb : ∀ {zaz zba zbn zbo zbp zbq zbr zca zcb zcc zcd : List Int32} {zbb zbs zce zcf zcg : Int32} {zbc zbd zbh zbi zbj zbk zbl zbt zbu zbv zbw : List Int32} {zbe zbm zbx zby zbz v3 v4 : Int32} {zbf zbg : List Int32} {d5 d6 d7 d8 d9 d10 d11 : Slot} {res : Int32}, kb zaz zba zbn zbo zbp zbq zbr zca zcb zcc zcd zbb zbs zce zcf zcg zbc zbd zbh zbi zbj zbk zbl zbt zbu zbv zbw zbe zbm zbx zby zbz v3 v4 = some res → OEndsQ own_P 0 30 [qr 0, qr 1, qr 14, qi v3, qi v4, d5, d6, d7, d8, d9, d10, d11] [] (qa scr :: bk0 zbf zaz zba zbn zbo zbp zbq zbr zca zcb zcc zcd zbb zbs zce zcf zcg (bk1 zbg zbc zbd zbh zbi zbj zbk zbl zbt zbu zbv zbw zbe zbm zbx zby zbz [])) (LawQ res 0 0)) : ∀ {zaz zba zbn zbo zbp zbq zbr zca zcb zcc zcd : List Int32} {zbb zbs zce zcf zcg : Int32} {zbc zbd zbh zbi zbj zbk zbl zbt zbu zbv zbw : List Int32} {zbe zbm zbx zby zbz v3 v4 : Int32} {zbf zbg : List Int32} {d5 d6 d7 d8 d9 d10 d11 : Slot} {res : Int32}, f_L_law_150 kb scr zaz zba zbn zbo zbp zbq zbr zca zcb zcc zcd zbb zbs zce zcf zcg zbc zbd zbh zbi zbj zbk zbl zbt zbu zbv zbw zbe zbm zbx zby zbz v3 v4 = some res → OEndsQ own_P 0 150 [qr 0, qr 1, qr 14, qi v3, qi v4, d5, d6, d7, d8, d9, d10, d11] [] (qa scr :: bk0 zbf zaz zba zbn zbo zbp zbq zbr zca zcb zcc zcd zbb zbs zce zcf zcg (bk1 zbg zbc zbd zbh zbi zbj zbk zbl zbt zbu zbv zbw zbe zbm zbx zby zbz [])) (LawQ res 0 0) := by
  intro zaz zba zbn zbo zbp zbq zbr zca zcb zcc zcd zbb zbs zce zcf zcg zbc zbd zbh zbi zbj zbk zbl zbt zbu zbv zbw zbe zbm zbx zby zbz v3 v4 zbf zbg d5 d6 d7 d8 d9 d10 d11 res h
  unfold f_L_law_150 at h
  refine OEndsQ.adv hm_0 2 (pc' := 152) (L' := [qr 0, qr 1, qr 14, qi v3, qi v4, qu, qu, qu, qu, qu, qu, qu]) (S' := [.ref 14, .ref 1]) (H' := (qa scr :: bk0 zbf zaz zba zbn zbo zbp zbq zbr zca zcb zcc zcd zbb zbs zce zcf zcg (bk1 zbg zbc zbd zbh zbi zbj zbk zbl zbt zbu zbv zbw zbe zbm zbx zby zbz []))) rfl ?_
  obtain ⟨r288, hq325, h⟩ := bnd h
  refine OEndsQ.call0 hm_0 rfl rfl (by decide) rfl (as := [.ref 1, .ref 14]) (rest := []) rfl rfl (ok_L_same_0_1 hq325) ?_
  show OEndsQ own_P 0 155 [qr 0, qr 1, qr 14, qi v3, qi v4, qu, qu, qu, qu, qu, qu, qu] [.int r288] (qa scr :: bk0 zbf zaz zba zbn zbo zbp zbq zbr zca zcb zcc zcd zbb zbs zce zcf zcg (bk1 zbg zbc zbd zbh zbi zbj zbk zbl zbt zbu zbv zbw zbe zbm zbx zby zbz [])) _
  by_cases hc326 : r288 = (0 : Int32)
  · simp only [if_pos hc326] at h
    refine OEndsQ.ifF hm_0 rfl ((teq hc326).2) ?_
    refine OEndsQ.adv hm_0 1 (pc' := 159) (L' := [qr 0, qr 1, qr 14, qi v3, qi v4, qu, qu, qu, qu, qu, qu, qu]) (S' := [.int 0]) (H' := (qa scr :: bk0 zbf zaz zba zbn zbo zbp zbq zbr zca zcb zcc zcd zbb zbs zce zcf zcg (bk1 zbg zbc zbd zbh zbi zbj zbk zbl zbt zbu zbv zbw zbe zbm zbx zby zbz []))) rfl ?_
    cases h
    exact OEndsQ.iret hm_0 rfl rfl
  · simp only [if_neg hc326] at h
    refine OEndsQ.ifT hm_0 rfl (q := 160) rfl ((feq hc326).2) ?_
    refine OEndsQ.adv hm_0 2 (pc' := 30) (L' := [qr 0, qr 1, qr 14, qi v3, qi (v4 + (1 : Int32)), qu, qu, qu, qu, qu, qu, qu]) (S' := []) (H' := (qa scr :: bk0 zbf zaz zba zbn zbo zbp zbq zbr zca zcb zcc zcd zbb zbs zce zcf zcg (bk1 zbg zbc zbd zbh zbi zbj zbk zbl zbt zbu zbv zbw zbe zbm zbx zby zbz []))) rfl ?_
    exact hkb h
theorem ok_L_law_30 {scr : List Int32} : ∀ (n : Nat), ∀ {zaz zba zbn zbo zbp zbq zbr zca zcb zcc zcd : List Int32} {zbb zbs zce zcf zcg : Int32} {zbc zbd zbh zbi zbj zbk zbl zbt zbu zbv zbw : List Int32} {zbe zbm zbx zby zbz v3 v4 : Int32} {zbf zbg : List Int32} {d5 d6 d7 d8 d9 d10 d11 : Slot} {res : Int32}, f_L_law_30 scr n zaz zba zbn zbo zbp zbq zbr zca zcb zcc zcd zbb zbs zce zcf zcg zbc zbd zbh zbi zbj zbk zbl zbt zbu zbv zbw zbe zbm zbx zby zbz v3 v4 = some res → OEndsQ own_P 0 30 [qr 0, qr 1, qr 14, qi v3, qi v4, d5, d6, d7, d8, d9, d10, d11] [] (qa scr :: bk0 zbf zaz zba zbn zbo zbp zbq zbr zca zcb zcc zcd zbb zbs zce zcf zcg (bk1 zbg zbc zbd zbh zbi zbj zbk zbl zbt zbu zbv zbw zbe zbm zbx zby zbz [])) (LawQ res 0 0) := by
  intro n
  induction n with
  | zero => intro zaz zba zbn zbo zbp zbq zbr zca zcb zcc zcd zbb zbs zce zcf zcg zbc zbd zbh zbi zbj zbk zbl zbt zbu zbv zbw zbe zbm zbx zby zbz v3 v4 zbf zbg d5 d6 d7 d8 d9 d10 d11 res h; cases h
  | succ n ih =>
    intro zaz zba zbn zbo zbp zbq zbr zca zcb zcc zcd zbb zbs zce zcf zcg zbc zbd zbh zbi zbj zbk zbl zbt zbu zbv zbw zbe zbm zbx zby zbz v3 v4 zbf zbg d5 d6 d7 d8 d9 d10 d11 res h
    unfold f_L_law_30 at h
    refine OEndsQ.adv hm_0 2 (pc' := 33) (L' := [qr 0, qr 1, qr 14, qi v3, qi v4, qu, qu, qu, qu, qu, qu, qu]) (S' := [.int v3, .int v4]) (H' := (qa scr :: bk0 zbf zaz zba zbn zbo zbp zbq zbr zca zcb zcc zcd zbb zbs zce zcf zcg (bk1 zbg zbc zbd zbh zbi zbj zbk zbl zbt zbu zbv zbw zbe zbm zbx zby zbz []))) rfl ?_
    by_cases hc327 : v4 < v3
    · simp only [if_pos hc327] at h
      refine OEndsQ.icmpF hm_0 rfl ((tlt hc327).2.1) ?_
      refine OEndsQ.adv hm_0 6 (pc' := 45) (L' := [qr 0, qr 1, qr 14, qi v3, qi v4, qi (v4 * (5 : Int32)), qu, qu, qu, qu, qu, qu]) (S' := [.int (v4 * (5 : Int32)), .ref 0]) (H' := (qa scr :: bk0 zbf zaz zba zbn zbo zbp zbq zbr zca zcb zcc zcd zbb zbs zce zcf zcg (bk1 zbg zbc zbd zbh zbi zbj zbk zbl zbt zbu zbv zbw zbe zbm zbx zby zbz []))) rfl ?_
      obtain ⟨x238, hx238, h⟩ := bnd h
      refine OEndsQ.plain hm_0 rfl rfl (x_iaload rfl hx238) ?_
      refine OEndsQ.adv hm_0 7 (pc' := 55) (L' := [qr 0, qr 1, qr 14, qi v3, qi v4, qi (v4 * (5 : Int32)), qi (x238 &&& (3 : Int32)), qu, qu, qu, qu, qu]) (S' := [.int ((v4 * (5 : Int32)) + (1 : Int32)), .ref 0]) (H' := (qa scr :: bk0 zbf zaz zba zbn zbo zbp zbq zbr zca zcb zcc zcd zbb zbs zce zcf zcg (bk1 zbg zbc zbd zbh zbi zbj zbk zbl zbt zbu zbv zbw zbe zbm zbx zby zbz []))) rfl ?_
      obtain ⟨x239, hx239, h⟩ := bnd h
      refine OEndsQ.plain hm_0 rfl rfl (x_iaload rfl hx239) ?_
      refine OEndsQ.adv hm_0 5 (pc' := 63) (L' := [qr 0, qr 1, qr 14, qi v3, qi v4, qi (v4 * (5 : Int32)), qi (x238 &&& (3 : Int32)), qi x239, qu, qu, qu, qu]) (S' := [.int ((v4 * (5 : Int32)) + (2 : Int32)), .ref 0]) (H' := (qa scr :: bk0 zbf zaz zba zbn zbo zbp zbq zbr zca zcb zcc zcd zbb zbs zce zcf zcg (bk1 zbg zbc zbd zbh zbi zbj zbk zbl zbt zbu zbv zbw zbe zbm zbx zby zbz []))) rfl ?_
      obtain ⟨x240, hx240, h⟩ := bnd h
      refine OEndsQ.plain hm_0 rfl rfl (x_iaload rfl hx240) ?_
      refine OEndsQ.adv hm_0 5 (pc' := 71) (L' := [qr 0, qr 1, qr 14, qi v3, qi v4, qi (v4 * (5 : Int32)), qi (x238 &&& (3 : Int32)), qi x239, qi x240, qu, qu, qu]) (S' := [.int ((v4 * (5 : Int32)) + (3 : Int32)), .ref 0]) (H' := (qa scr :: bk0 zbf zaz zba zbn zbo zbp zbq zbr zca zcb zcc zcd zbb zbs zce zcf zcg (bk1 zbg zbc zbd zbh zbi zbj zbk zbl zbt zbu zbv zbw zbe zbm zbx zby zbz []))) rfl ?_
      obtain ⟨x241, hx241, h⟩ := bnd h
      refine OEndsQ.plain hm_0 rfl rfl (x_iaload rfl hx241) ?_
      refine OEndsQ.adv hm_0 5 (pc' := 79) (L' := [qr 0, qr 1, qr 14, qi v3, qi v4, qi (v4 * (5 : Int32)), qi (x238 &&& (3 : Int32)), qi x239, qi x240, qi x241, qu, qu]) (S' := [.int ((v4 * (5 : Int32)) + (4 : Int32)), .ref 0]) (H' := (qa scr :: bk0 zbf zaz zba zbn zbo zbp zbq zbr zca zcb zcc zcd zbb zbs zce zcf zcg (bk1 zbg zbc zbd zbh zbi zbj zbk zbl zbt zbu zbv zbw zbe zbm zbx zby zbz []))) rfl ?_
      obtain ⟨x242, hx242, h⟩ := bnd h
      refine OEndsQ.plain hm_0 rfl rfl (x_iaload rfl hx242) ?_
      refine OEndsQ.adv hm_0 7 (pc' := 93) (L' := [qr 0, qr 1, qr 14, qi v3, qi v4, qi (v4 * (5 : Int32)), qi (x238 &&& (3 : Int32)), qi x239, qi x240, qi x241, qi x242, qu]) (S' := [.int x242, .int x241, .int x240, .int x239, .int (x238 &&& (3 : Int32)), .ref 1]) (H' := (qa scr :: bk0 zbf zaz zba zbn zbo zbp zbq zbr zca zcb zcc zcd zbb zbs zce zcf zcg (bk1 zbg zbc zbd zbh zbi zbj zbk zbl zbt zbu zbv zbw zbe zbm zbx zby zbz []))) rfl ?_
      obtain ⟨⟨s243, s244, s245, s246, s247, s248, s249, s250, s251, s252, s253, s254, s255⟩, hq328, h⟩ := bnd h
      refine OEndsQ.call0 hm_0 rfl rfl (by decide) rfl (as := [.ref 1, .int (x238 &&& (3 : Int32)), .int x239, .int x240, .int x241, .int x242]) (rest := []) rfl rfl (ok_L_step_0 hq328) ?_
      refine OEndsQ.adv hm_0 6 (pc' := 107) (L' := [qr 0, qr 1, qr 14, qi v3, qi v4, qi (v4 * (5 : Int32)), qi (x238 &&& (3 : Int32)), qi x239, qi x240, qi x241, qi x242, qu]) (S' := [.int x242, .int x241, .int x240, .int x239, .int (x238 &&& (3 : Int32)), .ref 14]) (H' := (qa scr :: bk0 zbf zaz zba s243 s244 s245 s246 s247 s248 s249 s250 s251 zbb s252 s253 s254 s255 (bk1 zbg zbc zbd zbh zbi zbj zbk zbl zbt zbu zbv zbw zbe zbm zbx zby zbz []))) rfl ?_
      obtain ⟨⟨s256, s257, s258, s259, s260, s261, s262, s263, s264, s265, s266, s267, s268⟩, hq329, h⟩ := bnd h
      refine OEndsQ.call0 hm_0 rfl rfl (by decide) rfl (as := [.ref 14, .int (x238 &&& (3 : Int32)), .int x239, .int x240, .int x241, .int x242]) (rest := []) rfl rfl (ok_L_step_1 hq329) ?_
      refine OEndsQ.adv hm_0 4 (pc' := 117) (L' := [qr 0, qr 1, qr 14, qi v3, qi v4, qi (v4 * (5 : Int32)), qi (x238 &&& (3 : Int32)), qi x239, qi x240, qi x241, qi x242, qu]) (S' := [.int x241, .int x240, .int x239, .ref 1]) (H' := (qa scr :: bk0 zbf zaz zba s243 s244 s245 s246 s247 s248 s249 s250 s251 zbb s252 s253 s254 s255 (bk1 zbg zbc zbd s256 s257 s258 s259 s260 s261 s262 s263 s264 zbe s265 s266 s267 s268 []))) rfl ?_
      obtain ⟨⟨r269, s270, s271, s272, s273, s274, s275, s276, s277⟩, hq330, h⟩ := bnd h
      refine OEndsQ.call0 hm_0 rfl rfl (by decide) rfl (as := [.ref 1, .int x239, .int x240, .int x241]) (rest := []) rfl rfl (ok_book_0 hq330) ?_
      refine OEndsQ.adv hm_0 2 (pc' := 124) (L' := [qr 0, qr 1, qr 14, qi v3, qi v4, qi (v4 * (5 : Int32)), qi (x238 &&& (3 : Int32)), qi x239, qi x240, qi x241, qi x242, qi r269]) (S' := [.int r269]) (H' := (qa scr :: bk0 zbf zaz zba s270 s271 s272 s273 s274 s275 s249 s250 s251 zbb s276 s253 s277 s255 (bk1 zbg zbc zbd s256 s257 s258 s259 s260 s261 s262 s263 s264 zbe s265 s266 s267 s268 []))) rfl ?_
      by_cases hc331 : r269 < (0 : Int32)
      · simp only [if_pos hc331] at h
        refine OEndsQ.ifT hm_0 rfl (q := 150) rfl ((tlt hc331).1) ?_
        show OEndsQ own_P 0 150 [qr 0, qr 1, qr 14, qi v3, qi v4, qi (v4 * (5 : Int32)), qi (x238 &&& (3 : Int32)), qi x239, qi x240, qi x241, qi x242, qi r269] [] (qa scr :: bk0 zbf zaz zba s270 s271 s272 s273 s274 s275 s249 s250 s251 zbb s276 s253 s277 s255 (bk1 zbg zbc zbd s256 s257 s258 s259 s260 s261 s262 s263 s264 zbe s265 s266 s267 s268 [])) _
        exact ok_L_law_150 ih h
      · simp only [if_neg hc331] at h
        refine OEndsQ.ifF hm_0 rfl ((flt hc331).1) ?_
        refine OEndsQ.adv hm_0 2 (pc' := 130) (L' := [qr 0, qr 1, qr 14, qi v3, qi v4, qi (v4 * (5 : Int32)), qi (x238 &&& (3 : Int32)), qi x239, qi x240, qi x241, qi x242, qi r269]) (S' := [.int r269, .ref 14]) (H' := (qa scr :: bk0 zbf zaz zba s270 s271 s272 s273 s274 s275 s249 s250 s251 zbb s276 s253 s277 s255 (bk1 zbg zbc zbd s256 s257 s258 s259 s260 s261 s262 s263 s264 zbe s265 s266 s267 s268 []))) rfl ?_
        obtain ⟨r278, hq332, h⟩ := bnd h
        refine OEndsQ.call0 hm_0 rfl rfl (by decide) rfl (as := [.ref 14, .int r269]) (rest := []) rfl rfl (ok_stayType_1 hq332) ?_
        refine OEndsQ.adv hm_0 1 (pc' := 134) (L' := [qr 0, qr 1, qr 14, qi v3, qi v4, qi (v4 * (5 : Int32)), qi (x238 &&& (3 : Int32)), qi x239, qi x240, qi x241, qi x242, qi r269]) (S' := [.int (-1), .int r278]) (H' := (qa scr :: bk0 zbf zaz zba s270 s271 s272 s273 s274 s275 s249 s250 s251 zbb s276 s253 s277 s255 (bk1 zbg zbc zbd s256 s257 s258 s259 s260 s261 s262 s263 s264 zbe s265 s266 s267 s268 []))) rfl ?_
        by_cases hc333 : r278 = (-1 : Int32)
        · simp only [if_pos hc333] at h
          refine OEndsQ.icmpT hm_0 rfl (q := 139) rfl ((teq hc333).1) ?_
          refine OEndsQ.adv hm_0 2 (pc' := 142) (L' := [qr 0, qr 1, qr 14, qi v3, qi v4, qi (v4 * (5 : Int32)), qi (x238 &&& (3 : Int32)), qi x239, qi x240, qi x241, qi x242, qi r269]) (S' := [.int r269, .ref 1]) (H' := (qa scr :: bk0 zbf zaz zba s270 s271 s272 s273 s274 s275 s249 s250 s251 zbb s276 s253 s277 s255 (bk1 zbg zbc zbd s256 s257 s258 s259 s260 s261 s262 s263 s264 zbe s265 s266 s267 s268 []))) rfl ?_
          obtain ⟨⟨r279, s280, s281, s282, s283, s284, s285, s286, s287⟩, hq334, h⟩ := bnd h
          refine OEndsQ.call0 hm_0 rfl rfl (by decide) rfl (as := [.ref 1, .int r269]) (rest := []) rfl rfl (ok_cancel_0 hq334) ?_
          show OEndsQ own_P 0 145 [qr 0, qr 1, qr 14, qi v3, qi v4, qi (v4 * (5 : Int32)), qi (x238 &&& (3 : Int32)), qi x239, qi x240, qi x241, qi x242, qi r269] [.int r279] (qa scr :: bk0 zbf zaz zba s280 s281 s282 s283 s284 s285 s249 s250 s251 zbb s286 s253 s287 s255 (bk1 zbg zbc zbd s256 s257 s258 s259 s260 s261 s262 s263 s264 zbe s265 s266 s267 s268 [])) _
          by_cases hc335 : r279 = (0 : Int32)
          · simp only [if_pos hc335] at h
            refine OEndsQ.ifT hm_0 rfl (q := 150) rfl ((teq hc335).1) ?_
            show OEndsQ own_P 0 150 [qr 0, qr 1, qr 14, qi v3, qi v4, qi (v4 * (5 : Int32)), qi (x238 &&& (3 : Int32)), qi x239, qi x240, qi x241, qi x242, qi r269] [] (qa scr :: bk0 zbf zaz zba s280 s281 s282 s283 s284 s285 s249 s250 s251 zbb s286 s253 s287 s255 (bk1 zbg zbc zbd s256 s257 s258 s259 s260 s261 s262 s263 s264 zbe s265 s266 s267 s268 [])) _
            exact ok_L_law_150 ih h
          · simp only [if_neg hc335] at h
            refine OEndsQ.ifF hm_0 rfl ((feq hc335).1) ?_
            refine OEndsQ.adv hm_0 1 (pc' := 149) (L' := [qr 0, qr 1, qr 14, qi v3, qi v4, qi (v4 * (5 : Int32)), qi (x238 &&& (3 : Int32)), qi x239, qi x240, qi x241, qi x242, qi r269]) (S' := [.int 0]) (H' := (qa scr :: bk0 zbf zaz zba s280 s281 s282 s283 s284 s285 s249 s250 s251 zbb s286 s253 s287 s255 (bk1 zbg zbc zbd s256 s257 s258 s259 s260 s261 s262 s263 s264 zbe s265 s266 s267 s268 []))) rfl ?_
            cases h
            exact OEndsQ.iret hm_0 rfl rfl
        · simp only [if_neg hc333] at h
          refine OEndsQ.icmpF hm_0 rfl ((feq hc333).1) ?_
          refine OEndsQ.adv hm_0 1 (pc' := 138) (L' := [qr 0, qr 1, qr 14, qi v3, qi v4, qi (v4 * (5 : Int32)), qi (x238 &&& (3 : Int32)), qi x239, qi x240, qi x241, qi x242, qi r269]) (S' := [.int 0]) (H' := (qa scr :: bk0 zbf zaz zba s270 s271 s272 s273 s274 s275 s249 s250 s251 zbb s276 s253 s277 s255 (bk1 zbg zbc zbd s256 s257 s258 s259 s260 s261 s262 s263 s264 zbe s265 s266 s267 s268 []))) rfl ?_
          cases h
          exact OEndsQ.iret hm_0 rfl rfl
    · simp only [if_neg hc327] at h
      refine OEndsQ.icmpT hm_0 rfl (q := 166) rfl ((flt hc327).2.1) ?_
      refine OEndsQ.adv hm_0 1 (pc' := 167) (L' := [qr 0, qr 1, qr 14, qi v3, qi v4, qu, qu, qu, qu, qu, qu, qu]) (S' := [.int 1]) (H' := (qa scr :: bk0 zbf zaz zba zbn zbo zbp zbq zbr zca zcb zcc zcd zbb zbs zce zcf zcg (bk1 zbg zbc zbd zbh zbi zbj zbk zbl zbt zbu zbv zbw zbe zbm zbx zby zbz []))) rfl ?_
      cases h
      exact OEndsQ.iret hm_0 rfl rfl
theorem ok_L_law {scr : List Int32} {res : Int32} (h : f_L_law scr = some res) : OEndsQ own_P 0 0 [qr 0, qu, qu, qu, qu, qu, qu, qu, qu, qu, qu, qu] [] (qa scr :: []) (LawQ res 26 2356) := by
  unfold f_L_law at h
  refine OEndsQ.made hm_0 rfl rfl (ks := 17) (c0 := 25) (s0 := 2339) rfl (Nat.le_of_ble_eq_true rfl) (Nat.le_of_ble_eq_true rfl) ?_
  refine OEndsQ.adv hm_0 4 (pc' := 7) (L' := [qr 0, qu, qu, qu, qu, qu, qu, qu, qu, qu, qu, qu]) (S' := [.int 1, .int 2, .int 2, .ref 1, .ref 1]) (H' := (qa scr :: (.inl (0, [.null, .null, .null, .null, .null, .null, .null, .null, .null, .null, .null, .null, .int 0, .int 0, .int 0, .int 0, .int 0]) : ACell) :: [])) rfl ?_
  obtain ⟨⟨s204, s205, s206, s207, s208, s209, s210, s211, s212, s213, s214, s215, s216, s217, s218, s219, s220⟩, hq336, h⟩ := bnd h
  refine OEndsQ.callN hm_0 rfl rfl (by decide) rfl (as := [.ref 1, .int 2, .int 2, .int 1]) (rest := [.ref 1]) rfl rfl (c0 := 13) (s0 := 1178) (ok_init_0 hq336) (Nat.le_of_ble_eq_true rfl) (Nat.le_of_ble_eq_true rfl) ?_
  refine OEndsQ.adv hm_0 1 (pc' := 11) (L' := [qr 0, qr 1, qu, qu, qu, qu, qu, qu, qu, qu, qu, qu]) (S' := []) (H' := (qa scr :: bk0 s204 s205 s206 s207 s208 s209 s210 s211 s212 s213 s214 s215 s216 s217 s218 s219 s220 [])) rfl ?_
  refine OEndsQ.made hm_0 rfl rfl (ks := 17) (c0 := 12) (s0 := 1161) rfl (Nat.le_of_ble_eq_true rfl) (Nat.le_of_ble_eq_true rfl) ?_
  refine OEndsQ.adv hm_0 4 (pc' := 18) (L' := [qr 0, qr 1, qu, qu, qu, qu, qu, qu, qu, qu, qu, qu]) (S' := [.int 1, .int 2, .int 2, .ref 14, .ref 14]) (H' := (qa scr :: bk0 s204 s205 s206 s207 s208 s209 s210 s211 s212 s213 s214 s215 s216 s217 s218 s219 s220 ((.inl (0, [.null, .null, .null, .null, .null, .null, .null, .null, .null, .null, .null, .null, .int 0, .int 0, .int 0, .int 0, .int 0]) : ACell) :: []))) rfl ?_
  obtain ⟨⟨s221, s222, s223, s224, s225, s226, s227, s228, s229, s230, s231, s232, s233, s234, s235, s236, s237⟩, hq337, h⟩ := bnd h
  refine OEndsQ.callN hm_0 rfl rfl (by decide) rfl (as := [.ref 14, .int 2, .int 2, .int 1]) (rest := [.ref 14]) rfl rfl (c0 := 0) (s0 := 0) (ok_init_1 hq337) (Nat.le_of_ble_eq_true rfl) (Nat.le_of_ble_eq_true rfl) ?_
  refine OEndsQ.adv hm_0 8 (pc' := 30) (L' := [qr 0, qr 1, qr 14, qi (scr.length.toInt32 / (5 : Int32)), qi 0, qu, qu, qu, qu, qu, qu, qu]) (S' := []) (H' := (qa scr :: bk0 s204 s205 s206 s207 s208 s209 s210 s211 s212 s213 s214 s215 s216 s217 s218 s219 s220 (bk1 s221 s222 s223 s224 s225 s226 s227 s228 s229 s230 s231 s232 s233 s234 s235 s236 s237 []))) rfl ?_
  exact ok_L_law_30 100000 h
theorem own_w0 {α : Type} (a x : α) (t : List α) : wrA (a :: t) 0 x = some (x :: t) := by
  have h : ¬ (0 : Int32) < 0 := by decide
  have e : (0 : Int32).toNatClampNeg = 0 := rfl
  simp [wrA, h, e]
theorem own_w1 {α : Type} (a b x : α) (t : List α) : wrA (a :: b :: t) 1 x = some (a :: x :: t) := by
  have h : ¬ (1 : Int32) < 0 := by decide
  have e : (1 : Int32).toNatClampNeg = 1 := rfl
  simp [wrA, h, e]
theorem own_w2 {α : Type} (a b c x : α) (t : List α) : wrA (a :: b :: c :: t) 2 x = some (a :: b :: x :: t) := by
  have h : ¬ (2 : Int32) < 0 := by decide
  have e : (2 : Int32).toNatClampNeg = 2 := rfl
  simp [wrA, h, e]
theorem own_r0 {α : Type} (a : α) (t : List α) : rdA (a :: t) 0 = some a := by
  have h : ¬ (0 : Int32) < 0 := by decide
  have e : (0 : Int32).toNatClampNeg = 0 := rfl
  simp [rdA, h, e]
theorem own_r1 {α : Type} (a b : α) (t : List α) : rdA (a :: b :: t) 1 = some b := by
  have h : ¬ (1 : Int32) < 0 := by decide
  have e : (1 : Int32).toNatClampNeg = 1 := rfl
  simp [rdA, h, e]
theorem own_r2 {α : Type} (a b c : α) (t : List α) : rdA (a :: b :: c :: t) 2 = some c := by
  have h : ¬ (2 : Int32) < 0 := by decide
  have e : (2 : Int32).toNatClampNeg = 2 := rfl
  simp [rdA, h, e]
theorem own_fill {α : Type} (a b : α) (i m : Nat) {j : Int32} (hj : j.toInt = i) : wrA (List.replicate i a ++ List.replicate (m + 1) b) j a = some (List.replicate (i + 1) a ++ List.replicate m b) := by
  rw [wrA_in (by omega) (by rw [List.length_append, List.length_replicate, List.length_replicate]; omega)]
  have e : j.toInt.toNat = i := by omega
  rw [e, List.set_append_right _ _ (by simp), List.length_replicate, Nat.sub_self, List.replicate_succ, List.set_cons_zero, List.replicate_succ' (n := i), List.append_assoc]
  (first | done | rfl | simp)
theorem own_rs2 : ∀ (m n i : Nat) (s j : Int32), m < n → j.toInt = i → i + m = 32 →
    f_resetStays_2 n (List.replicate i 0 ++ List.replicate m 0) (List.replicate i 0 ++ List.replicate m 0) (List.replicate i 0 ++ List.replicate m 0) (List.replicate i 0 ++ List.replicate m 0) s j = some (List.replicate 32 0, List.replicate 32 0, List.replicate 32 0, List.replicate 32 0, 0) := by
  intro m
  induction m with
  | zero =>
    intro n i s j h1 h2 h3
    obtain ⟨n, rfl⟩ : ∃ n', n = n' + 1 := ⟨n - 1, by omega⟩
    unfold f_resetStays_2
    have e : i = 32 := by omega
    rw [if_neg (by ((try simp only [ilt, ile, ieq, iadd_e, isub_e, imul_e, Int32.reduceToInt] at *) <;> omega)), e]
    (first | done | rfl | simp)
  | succ m ih =>
    intro n i s j h1 h2 h3
    obtain ⟨n, rfl⟩ : ∃ n', n = n' + 1 := ⟨n - 1, by omega⟩
    unfold f_resetStays_2
    rw [if_pos (by clear ih; ((try simp only [ilt, ile, ieq, iadd_e, isub_e, imul_e, Int32.reduceToInt] at *) <;> omega)), own_fill 0 0 i m h2]
    simp only [Option.bind_some]
    exact ih n (i + 1) s (j + 1) (by omega) (by clear ih; ((try simp only [ilt, ile, ieq, iadd_e, isub_e, imul_e, Int32.reduceToInt] at *) <;> omega)) (by omega)
theorem own_rs : f_resetStays (List.replicate 32 0) (List.replicate 32 0) (List.replicate 32 0) (List.replicate 32 0) 0 = some (List.replicate 32 0, List.replicate 32 0, List.replicate 32 0, List.replicate 32 0, 0) := by
  unfold f_resetStays
  exact own_rs2 32 100000 0 0 0 (by decide) rfl rfl
theorem own_rc2 : ∀ (m n i : Nat) (j : Int32), m < n → j.toInt = i → i + m = 96 →
    f_resetCounts_2 n (List.replicate i 0 ++ List.replicate m 0) (List.replicate i 0 ++ List.replicate m 0) j = some (List.replicate 96 0, List.replicate 96 0) := by
  intro m
  induction m with
  | zero =>
    intro n i j h1 h2 h3
    obtain ⟨n, rfl⟩ : ∃ n', n = n' + 1 := ⟨n - 1, by omega⟩
    unfold f_resetCounts_2
    have e : i = 96 := by omega
    rw [if_neg (by ((try simp only [ilt, ile, ieq, iadd_e, isub_e, imul_e, Int32.reduceToInt] at *) <;> omega)), e]
    (first | done | rfl | simp)
  | succ m ih =>
    intro n i j h1 h2 h3
    obtain ⟨n, rfl⟩ : ∃ n', n = n' + 1 := ⟨n - 1, by omega⟩
    unfold f_resetCounts_2
    rw [if_pos (by clear ih; ((try simp only [ilt, ile, ieq, iadd_e, isub_e, imul_e, Int32.reduceToInt] at *) <;> omega)), own_fill 0 0 i m h2]
    simp only [Option.bind_some]
    exact ih n (i + 1) (j + 1) (by omega) (by clear ih; ((try simp only [ilt, ile, ieq, iadd_e, isub_e, imul_e, Int32.reduceToInt] at *) <;> omega)) (by omega)
theorem own_rc : f_resetCounts (List.replicate 96 0) (List.replicate 96 0) = some (List.replicate 96 0, List.replicate 96 0) := by
  unfold f_resetCounts
  exact own_rc2 96 100000 0 0 (by decide) rfl rfl
theorem own_cp30 (R O : List Int32) (l : Int32) : ∀ (m n i : Nat) (j : Int32), m < n → j.toInt = i → i + m = 768 →
    f_clearPlan_30 n R (List.replicate i (-1) ++ List.replicate m 0) O l j = some (R, List.replicate 768 (-1), O, 0) := by
  intro m
  induction m with
  | zero =>
    intro n i j h1 h2 h3
    obtain ⟨n, rfl⟩ : ∃ n', n = n' + 1 := ⟨n - 1, by omega⟩
    unfold f_clearPlan_30
    have e : i = 768 := by omega
    rw [if_neg (by ((try simp only [ilt, ile, ieq, iadd_e, isub_e, imul_e, Int32.reduceToInt] at *) <;> omega)), e, List.replicate_zero, List.append_nil]
  | succ m ih =>
    intro n i j h1 h2 h3
    obtain ⟨n, rfl⟩ : ∃ n', n = n' + 1 := ⟨n - 1, by omega⟩
    unfold f_clearPlan_30
    rw [if_pos (by clear ih; ((try simp only [ilt, ile, ieq, iadd_e, isub_e, imul_e, Int32.reduceToInt] at *) <;> omega)), own_fill (-1) 0 i m h2, Option.bind_some]
    exact ih n (i + 1) (j + 1) (by omega) (by clear ih; ((try simp only [ilt, ile, ieq, iadd_e, isub_e, imul_e, Int32.reduceToInt] at *) <;> omega)) (by omega)
theorem own_cp2 (G : List Int32) (l : Int32) (k30 : List Int32 → List Int32 → List Int32 → Int32 → Int32 → Option (List Int32 × List Int32 × List Int32 × Int32)) : ∀ (m n i : Nat) (j : Int32), m < n → j.toInt = i → i + m = 32 →
    f_clearPlan_2 k30 n (List.replicate i (-1) ++ List.replicate m 0) G (List.replicate i 0 ++ List.replicate m 0) l j = k30 (List.replicate 32 (-1)) G (List.replicate 32 0) l 0 := by
  intro m
  induction m with
  | zero =>
    intro n i j h1 h2 h3
    obtain ⟨n, rfl⟩ : ∃ n', n = n' + 1 := ⟨n - 1, by omega⟩
    unfold f_clearPlan_2
    have e : i = 32 := by omega
    rw [if_neg (by ((try simp only [ilt, ile, ieq, iadd_e, isub_e, imul_e, Int32.reduceToInt] at *) <;> omega)), e, List.replicate_zero, List.append_nil, List.append_nil]
  | succ m ih =>
    intro n i j h1 h2 h3
    obtain ⟨n, rfl⟩ : ∃ n', n = n' + 1 := ⟨n - 1, by omega⟩
    unfold f_clearPlan_2
    rw [if_pos (by clear ih; ((try simp only [ilt, ile, ieq, iadd_e, isub_e, imul_e, Int32.reduceToInt] at *) <;> omega)), own_fill (-1) 0 i m h2, Option.bind_some, own_fill 0 0 i m h2, Option.bind_some]
    exact ih n (i + 1) (j + 1) (by omega) (by clear ih; ((try simp only [ilt, ile, ieq, iadd_e, isub_e, imul_e, Int32.reduceToInt] at *) <;> omega)) (by omega)
theorem own_cp : f_clearPlan (List.replicate 32 0) (List.replicate 768 0) (List.replicate 32 0) 0 = some (List.replicate 32 (-1), List.replicate 768 (-1), List.replicate 32 0, 0) := by
  unfold f_clearPlan
  have a := own_cp2 (List.replicate 768 0) 0 (f_clearPlan_30 100000) 32 100000 0 0 (by decide) rfl rfl
  have b := own_cp30 (List.replicate 32 (-1)) (List.replicate 32 0) 0 768 100000 0 0 (by decide) rfl rfl
  rw [List.replicate_zero, List.nil_append, List.replicate_zero, List.nil_append] at a
  rw [List.replicate_zero, List.nil_append] at b
  rw [a, b]
def own_cl (v : Int32) : Int32 := if v < (0 : Int32) then (0 : Int32) else (if (8 : Int32) < v then (8 : Int32) else v)
theorem own_init (v1 v2 v3 : Int32) : f_init v1 v2 v3 = some ([own_cl v1, own_cl v2, own_cl v3], [own_cl v1 + own_cl v2 + own_cl v3, own_cl v2 + own_cl v3, own_cl v3], [0, own_cl v1, own_cl v1 + own_cl v2], List.replicate 32 0, List.replicate 32 0, List.replicate 32 0, List.replicate 32 0, List.replicate 96 0, List.replicate 96 0, List.replicate 32 (-1), List.replicate 768 (-1), List.replicate 32 0, own_cl v1 + own_cl v2 + own_cl v3, 0, 0, 0, 0) := by
  have e3 : (List.replicate 3 0 : List Int32) = [0, 0, 0] := rfl
  have a1 : ∀ v, f_clampRooms v = some (own_cl v) := fun v => rfl
  simp only [f_init, a1, Option.bind_some, e3, own_w0, own_w1, own_w2, f_computeRoomTables, own_r0, own_r1, own_r2, own_rs, own_rc, own_cp]
def own_wn (w m : Int32) : Prop := 0 ≤ w.toInt ∧ w.toInt < 3 ∧ 0 ≤ m.toInt ∧ m.toInt < 32
theorem own_wx {w m : Int32} (h : own_wn w m) : (w * 32 + m).toInt = w.toInt * 32 + m.toInt := by
  obtain ⟨a, b, c, d⟩ := h
  ((try simp only [ilt, ile, ieq, iadd_e, isub_e, imul_e, Int32.reduceToInt] at *) <;> omega)
theorem own_ix_ne {w m u n : Int32} (h : own_wn w m) (g : own_wn u n) : (u * 32 + n = w * 32 + m) ↔ (w.toInt = u.toInt ∧ m.toInt = n.toInt) := by
  rw [ieq, own_wx h, own_wx g]
  obtain ⟨a, b, c, d⟩ := h
  obtain ⟨a', b', c', d'⟩ := g
  omega
theorem own_set2 {A : List Int32} (hA : A.length = 96) {u n w m x : Int32} (g : own_wn u n) (h : own_wn w m) : gI (A.set (u * 32 + n).toInt.toNat x) (w * 32 + m) = if w.toInt = u.toInt ∧ m.toInt = n.toInt then x else gI A (w * 32 + m) := by
  have e1 := own_wx h
  have e2 := own_wx g
  have q := own_ix_ne h g
  obtain ⟨a, b, c, d⟩ := h
  obtain ⟨a', b', c', d'⟩ := g
  rw [gset (by omega) (by omega) (by omega)]
  by_cases k : w.toInt = u.toInt ∧ m.toInt = n.toInt
  · rw [if_pos k, if_pos (q.mpr k)]
  · rw [if_neg k, if_neg (fun z => k (q.mp z))]
theorem own_adj84 {Q : List Int32 × List Int32 → Prop} (k53 : List Int32 → List Int32 → Int32 → Int32 → Int32 → Int32 → Option (List Int32 × List Int32)) (ST SA SN EX AL0 : List Int32) (δ ty e n : Int32) (ht0 : 0 ≤ ty.toInt) (ht2 : ty.toInt ≤ 2) (hn0 : 0 ≤ n.toInt) (hn : n.toInt < 32)
    (hk : ∀ AL' : List Int32, AL'.length = 96 → (∀ w m : Int32, own_wn w m → gI AL' (w * 32 + m) = gI AL0 (w * 32 + m) + (if m.toInt = n.toInt ∧ w.toInt ≤ ty.toInt then δ else 0)) → Tot (k53 EX AL' δ ty e (n + 1)) Q) :
    ∀ (fuel : Nat) (AL : List Int32) (u : Int32), AL.length = 96 → 0 ≤ u.toInt → u.toInt ≤ ty.toInt + 1 → 3 - u.toInt < fuel → (∀ w m : Int32, own_wn w m → gI AL (w * 32 + m) = gI AL0 (w * 32 + m) + (if m.toInt = n.toInt ∧ w.toInt < u.toInt then δ else 0)) → Tot (f_adjustCoverage_84 k53 ST SA SN fuel EX AL δ ty e n u) Q := by
  intro fuel
  induction fuel with
  | zero => intro AL u h1 h2 h3 h4; exfalso; omega
  | succ fuel ih =>
    intro AL u h1 h2 h3 h4 h5
    unfold f_adjustCoverage_84
    refine Tot.ite (fun g => ?_) (fun g => ?_)
    · have g' := ilt.mp g
      refine hk AL h1 (fun w m hw => ?_)
      rw [h5 w m hw]
      have hi := hw
      obtain ⟨a, b, c, d⟩ := hi
      by_cases k : m.toInt = n.toInt ∧ w.toInt ≤ ty.toInt
      · rw [if_pos k, if_pos ⟨k.1, by omega⟩]
      · rw [if_neg k, if_neg (fun z => k ⟨z.1, by omega⟩)]
    · have g' : ¬ ty.toInt < u.toInt := fun z => g (ilt.mpr z)
      have gu : own_wn u n := ⟨h2, by omega, hn0, hn⟩
      have ei := own_wx gu
      have eu : (u + 1).toInt = u.toInt + 1 := by clear ih h5 hk ei; ((try simp only [ilt, ile, ieq, iadd_e, isub_e, imul_e, Int32.reduceToInt] at *) <;> omega)
      unfold f_countIndex
      rw [Option.bind_some]
      refine Tot.rdI (by omega) (by omega) (Tot.wr (by omega) (by omega) (fun A' q1 q2 => ?_))
      refine ih A' (u + 1) (by omega) (by omega) (by omega) (by omega) (fun w m hw => ?_)
      rw [q1, own_set2 h1 gu hw]
      have p := h5 w m hw
      have p0 := h5 u n gu
      rw [if_neg (by omega), Int32.add_zero] at p0
      have hi := hw
      obtain ⟨a, b, c, d⟩ := hi
      by_cases k : w.toInt = u.toInt ∧ m.toInt = n.toInt
      · rw [if_pos k, p0, if_pos ⟨k.2, by omega⟩]
        have ew : w = u := ieq.mpr k.1
        have em : m = n := ieq.mpr k.2
        rw [ew, em]
      · rw [if_neg k, p]
        by_cases k2 : m.toInt = n.toInt ∧ w.toInt < u.toInt
        · rw [if_pos k2, if_pos ⟨k2.1, by omega⟩]
        · rw [if_neg k2, if_neg (fun z => by
            apply k2
            refine ⟨z.1, ?_⟩
            have z2 := z.2
            have nz : ¬ w.toInt = u.toInt := fun y => k ⟨y, z.1⟩
            omega)]
def own_cov (EX0 AL0 : List Int32) (δ ty a e : Int32) (EX AL : List Int32) : Prop :=
  EX.length = 96 ∧ AL.length = 96 ∧ ∀ w m : Int32, own_wn w m →
    gI EX (w * 32 + m) = gI EX0 (w * 32 + m) + (if w.toInt = ty.toInt ∧ a.toInt ≤ m.toInt ∧ m.toInt < e.toInt then δ else 0) ∧
    gI AL (w * 32 + m) = gI AL0 (w * 32 + m) + (if w.toInt ≤ ty.toInt ∧ a.toInt ≤ m.toInt ∧ m.toInt < e.toInt then δ else 0)
theorem own_adj53 (ST SA SN EX0 AL0 : List Int32) (δ ty a e : Int32) (ht0 : 0 ≤ ty.toInt) (ht2 : ty.toInt ≤ 2) (ha : 0 ≤ a.toInt) (he : e.toInt ≤ 32) :
    ∀ (fuel : Nat) (EX AL : List Int32) (j : Int32), a.toInt ≤ j.toInt → j.toInt ≤ e.toInt → 32 - j.toInt < fuel → own_cov EX0 AL0 δ ty a j EX AL → Tot (f_adjustCoverage_53 ST SA SN fuel EX AL δ ty e j) (fun r => own_cov EX0 AL0 δ ty a e r.1 r.2) := by
  intro fuel
  induction fuel with
  | zero => intro EX AL j h1 h2 h3; exfalso; omega
  | succ fuel ih =>
    intro EX AL j h1 h2 h3 h4
    have e0 : (0 : Int32).toInt = 0 := rfl
    unfold f_adjustCoverage_53
    refine Tot.ite (fun g => ?_) (fun g0 => Tot.ite (fun g => ?_) (fun g => ?_))
    · exfalso
      rw [ilt] at g
      omega
    · have g' := ilt.mp g
      obtain ⟨l1, l2, h5⟩ := h4
      have gu : own_wn ty j := ⟨ht0, by omega, by omega, by omega⟩
      have ei := own_wx gu
      have ej : (j + 1).toInt = j.toInt + 1 := by clear ih h5 ei; ((try simp only [ilt, ile, ieq, iadd_e, isub_e, imul_e, Int32.reduceToInt] at *) <;> omega)
      unfold f_countIndex
      rw [Option.bind_some]
      refine Tot.rdI (by omega) (by omega) (Tot.wr (by omega) (by omega) (fun EX' q1 q2 => ?_))
      refine own_adj84 _ ST SA SN EX' AL δ ty e j ht0 ht2 (by omega) (by omega) (fun AL' l3 h6 => ?_) 100000 AL 0 l2 (by decide) (by omega) (by decide) (fun w m hw => ?_)
      · refine ih EX' AL' (j + 1) (by omega) (by omega) (by omega) ⟨by omega, l3, fun w m hw => ⟨?_, ?_⟩⟩
        · rw [q1, own_set2 l1 gu hw]
          have p := (h5 w m hw).1
          have p0 := (h5 ty j gu).1
          rw [if_neg (by omega), Int32.add_zero] at p0
          by_cases k : w.toInt = ty.toInt ∧ m.toInt = j.toInt
          · rw [if_pos k, p0, if_pos ⟨k.1, by omega, by omega⟩]
            have ew : w = ty := ieq.mpr k.1
            have em : m = j := ieq.mpr k.2
            rw [ew, em]
          · rw [if_neg k, p]
            by_cases k2 : w.toInt = ty.toInt ∧ a.toInt ≤ m.toInt ∧ m.toInt < j.toInt
            · rw [if_pos k2, if_pos ⟨k2.1, k2.2.1, by omega⟩]
            · rw [if_neg k2, if_neg (fun z => by
                apply k2
                refine ⟨z.1, z.2.1, ?_⟩
                have z2 := z.2.2
                have nz : ¬ m.toInt = j.toInt := fun y => k ⟨z.1, y⟩
                omega)]
        · rw [h6 w m hw, (h5 w m hw).2]
          by_cases k : m.toInt = j.toInt ∧ w.toInt ≤ ty.toInt
          · rw [if_pos k, if_neg (by omega), if_pos ⟨k.2, by omega, by omega⟩, Int32.add_zero]
          · rw [if_neg k, Int32.add_zero]
            by_cases k2 : w.toInt ≤ ty.toInt ∧ a.toInt ≤ m.toInt ∧ m.toInt < j.toInt
            · rw [if_pos k2, if_pos ⟨k2.1, k2.2.1, by omega⟩]
            · rw [if_neg k2, if_neg (fun z => by
                apply k2
                refine ⟨z.1, z.2.1, ?_⟩
                have z2 := z.2.2
                have nz : ¬ m.toInt = j.toInt := fun y => k ⟨y, z.1⟩
                omega)]
      · rw [if_neg (by obtain ⟨q1', -, -, -⟩ := hw; omega), Int32.add_zero]
    · have g' : ¬ j.toInt < e.toInt := fun z => g (ilt.mpr z)
      have ee : j = e := ieq.mpr (by omega)
      rw [ee] at h4
      exact Tot.mk h4
theorem own_cov0 {EX AL : List Int32} (h1 : EX.length = 96) (h2 : AL.length = 96) (δ ty a : Int32) : own_cov EX AL δ ty a a EX AL := by
  refine ⟨h1, h2, fun w m hw => ⟨?_, ?_⟩⟩
  · rw [if_neg (by omega), Int32.add_zero]
  · rw [if_neg (by omega), Int32.add_zero]
theorem own_adjust {ST SA SN EX AL : List Int32} (hT : ST.length = 32) (hA : SA.length = 32) (hN : SN.length = 32) (hE : EX.length = 96) (hL : AL.length = 96) {id : Int32} (hi0 : 0 ≤ id.toInt) (hi1 : id.toInt < 32) (δ : Int32)
    (ht0 : 0 ≤ (gI ST id).toInt) (ht2 : (gI ST id).toInt ≤ 2) (ha0 : 0 ≤ (gI SA id).toInt) (hk0 : 0 ≤ (gI SN id).toInt) (hk : (gI SA id).toInt + (gI SN id).toInt ≤ 32) :
    Tot (f_adjustCoverage ST SA SN EX AL id δ) (fun r => own_cov EX AL δ (gI ST id) (gI SA id) (gI SA id + gI SN id) r.1 r.2) := by
  have e0 : (0 : Int32).toInt = 0 := rfl
  have e32 : (32 : Int32).toInt = 32 := rfl
  have e3 : (3 : Int32).toInt = 3 := rfl
  unfold f_adjustCoverage
  rw [if_neg (by rw [ilt]; omega), if_pos (by rw [ilt]; omega)]
  refine Tot.rdI hi0 (by omega) ?_
  have vt : f_isValidType (gI ST id) = some 1 := by
    unfold f_isValidType
    rw [if_neg (by rw [ilt]; omega), if_pos (by rw [ilt]; omega)]
  rw [vt, Option.bind_some, if_neg (by decide)]
  refine Tot.rdI hi0 (by omega) (Tot.rdI hi0 (by omega) ?_)
  generalize gI ST id = ty at *
  generalize gI SA id = a at *
  generalize gI SN id = k at *
  have es : (a + k).toInt = a.toInt + k.toInt := by clear vt; ((try simp only [ilt, ile, ieq, iadd_e, isub_e, imul_e, Int32.reduceToInt] at *) <;> omega)
  unfold f_endOf
  rw [if_neg (by rw [ilt]; omega), Option.bind_some]
  exact own_adj53 ST SA SN EX AL δ ty a (a + k) ht0 ht2 ha0 (by omega) 100000 EX AL a (by omega) (by omega) (by omega) (own_cov0 hE hL δ ty a)
abbrev own_PS (AC ST SA SN EX AL : List Int32) : Prop := (AC.length = 32) ∧ (ST.length = 32) ∧ (SA.length = 32) ∧ (SN.length = 32) ∧ (EX.length = 96) ∧ (AL.length = 96) ∧ (∀ id : Int32, 0 ≤ id.toInt → id.toInt < 32 → (gI AC id = 0 ∧ gI ST id = 0 ∧ gI SA id = 0 ∧ gI SN id = 0) ∨ (gI AC id = 1 ∧ 0 ≤ (gI ST id).toInt ∧ (gI ST id).toInt ≤ 2 ∧ 0 ≤ (gI SA id).toInt ∧ 1 ≤ (gI SN id).toInt ∧ (gI SA id).toInt + (gI SN id).toInt ≤ 32))
theorem own_PS.lC {AC ST SA SN EX AL : List Int32} (self : own_PS AC ST SA SN EX AL) : AC.length = 32 := self.1
theorem own_PS.lT {AC ST SA SN EX AL : List Int32} (self : own_PS AC ST SA SN EX AL) : ST.length = 32 := self.2.1
theorem own_PS.lA {AC ST SA SN EX AL : List Int32} (self : own_PS AC ST SA SN EX AL) : SA.length = 32 := self.2.2.1
theorem own_PS.lN {AC ST SA SN EX AL : List Int32} (self : own_PS AC ST SA SN EX AL) : SN.length = 32 := self.2.2.2.1
theorem own_PS.lE {AC ST SA SN EX AL : List Int32} (self : own_PS AC ST SA SN EX AL) : EX.length = 96 := self.2.2.2.2.1
theorem own_PS.lL {AC ST SA SN EX AL : List Int32} (self : own_PS AC ST SA SN EX AL) : AL.length = 96 := self.2.2.2.2.2.1
theorem own_PS.ok {AC ST SA SN EX AL : List Int32} (self : own_PS AC ST SA SN EX AL) : ∀ id : Int32, 0 ≤ id.toInt → id.toInt < 32 → (gI AC id = 0 ∧ gI ST id = 0 ∧ gI SA id = 0 ∧ gI SN id = 0) ∨ (gI AC id = 1 ∧ 0 ≤ (gI ST id).toInt ∧ (gI ST id).toInt ≤ 2 ∧ 0 ≤ (gI SA id).toInt ∧ 1 ≤ (gI SN id).toInt ∧ (gI SA id).toInt + (gI SN id).toInt ≤ 32) := self.2.2.2.2.2.2
theorem own_act {AC : List Int32} (hl : AC.length = 32) (v : Int32) : (f_isActiveStay AC v = some 0 ∧ (v.toInt < 0 ∨ 32 ≤ v.toInt)) ∨ (f_isActiveStay AC v = some (gI AC v &&& 1) ∧ 0 ≤ v.toInt ∧ v.toInt < 32) := by
  have e0 : (0 : Int32).toInt = 0 := rfl
  unfold f_isActiveStay
  by_cases a : v < 0
  · rw [if_pos a]
    exact Or.inl ⟨rfl, Or.inl (by rw [ilt] at a; omega)⟩
  · have a' := a
    rw [ilt] at a'
    by_cases b : v < 32
    · have b' : v.toInt < 32 := ilt.mp b
      rw [if_neg a, if_pos b, rdg (by omega) (by omega), Option.bind_some]
      exact Or.inr ⟨rfl, by omega, b'⟩
    · have b' : ¬ v.toInt < 32 := fun z => b (ilt.mpr z)
      rw [if_neg a, if_neg b]
      exact Or.inl ⟨rfl, Or.inr (by omega)⟩
theorem own_act01 {AC ST SA SN EX AL : List Int32} (h : own_PS AC ST SA SN EX AL) (v : Int32) : (f_isActiveStay AC v = some 0 ∧ (0 ≤ v.toInt → v.toInt < 32 → gI AC v = 0)) ∨ (f_isActiveStay AC v = some 1 ∧ 0 ≤ v.toInt ∧ v.toInt < 32 ∧ gI AC v = 1 ∧ 0 ≤ (gI ST v).toInt ∧ (gI ST v).toInt ≤ 2 ∧ 0 ≤ (gI SA v).toInt ∧ 1 ≤ (gI SN v).toInt ∧ (gI SA v).toInt + (gI SN v).toInt ≤ 32) := by
  rcases own_act h.lC v with ⟨e, r⟩ | ⟨e, r0, r1⟩
  · exact Or.inl ⟨e, fun a b => by omega⟩
  · rcases h.ok v r0 r1 with ⟨k, -⟩ | ⟨k, k1, k2, k3, k4, k5⟩
    · left
      rw [e, k]
      exact ⟨by decide, fun _ _ => rfl⟩
    · right
      rw [e, k]
      exact ⟨by decide, r0, r1, rfl, k1, k2, k3, k4, k5⟩
theorem own_vt3 (t : Int32) : f_isValidType t = some 0 ∨ (f_isValidType t = some 1 ∧ 0 ≤ t.toInt ∧ t.toInt ≤ 2) := by
  have e0 : (0 : Int32).toInt = 0 := rfl
  have e3 : (3 : Int32).toInt = 3 := rfl
  unfold f_isValidType
  by_cases a : t < 0
  · rw [if_pos a]; exact Or.inl rfl
  · by_cases b : t < 3
    · rw [if_neg a, if_pos b]
      rw [ilt] at a b
      exact Or.inr ⟨rfl, by omega, by omega⟩
    · rw [if_neg a, if_neg b]; exact Or.inl rfl
theorem own_vn3 (t : Int32) : f_isValidNight t = some 0 ∨ (f_isValidNight t = some 1 ∧ 0 ≤ t.toInt ∧ t.toInt ≤ 31) := by
  have e0 : (0 : Int32).toInt = 0 := rfl
  have e3 : (32 : Int32).toInt = 32 := rfl
  unfold f_isValidNight
  by_cases a : t < 0
  · rw [if_pos a]; exact Or.inl rfl
  · by_cases b : t < 32
    · rw [if_neg a, if_pos b]
      rw [ilt] at a b
      exact Or.inr ⟨rfl, by omega, by omega⟩
    · rw [if_neg a, if_neg b]; exact Or.inl rfl
theorem own_rq (t a k : Int32) : (∃ e, f_requestError t a k = some e ∧ e.toInt < 0) ∨ (f_requestError t a k = some 0 ∧ 0 ≤ t.toInt ∧ t.toInt ≤ 2 ∧ 0 ≤ a.toInt ∧ a.toInt ≤ 31 ∧ 1 ≤ k.toInt ∧ a.toInt + k.toInt ≤ 32) := by
  have e1 : (1 : Int32).toInt = 1 := rfl
  have e32 : (32 : Int32).toInt = 32 := rfl
  unfold f_requestError
  rcases own_vt3 t with e | ⟨e, t0, t2⟩
  · rw [e, Option.bind_some, if_pos rfl]
    exact Or.inl ⟨_, rfl, by decide⟩
  · rw [e, Option.bind_some, if_neg (by decide)]
    rcases own_vn3 a with e | ⟨e, a0, a1⟩
    · rw [e, Option.bind_some, if_pos rfl]
      exact Or.inl ⟨_, rfl, by decide⟩
    · unfold f_isValidLength
      rw [e, Option.bind_some, if_neg (by decide), Option.bind_some]
      by_cases g : k < 1
      · rw [if_pos g, if_pos rfl]
        exact Or.inl ⟨_, rfl, by decide⟩
      · by_cases g2 : 32 - a < k
        · rw [if_neg g, if_pos g2, if_pos rfl]
          exact Or.inl ⟨_, rfl, by decide⟩
        · have es : (32 - a).toInt = 32 - a.toInt := by rw [isub_i (by omega) (by omega), e32]
          rw [if_neg g, if_neg g2, if_neg (by decide)]
          rw [ilt] at g g2
          exact Or.inr ⟨rfl, t0, t2, a0, a1, by omega, by omega⟩
theorem own_ala {AL : List Int32} (hL : AL.length = 96) {u n : Int32} (h : own_wn u n) : f_atLeastAt AL u n = some (gI AL (u * 32 + n)) := by
  have ei := own_wx h
  obtain ⟨a, b, c, d⟩ := h
  have e0 : (0 : Int32).toInt = 0 := rfl
  have e3 : (3 : Int32).toInt = 3 := rfl
  have e32 : (32 : Int32).toInt = 32 := rfl
  unfold f_atLeastAt f_countIndex f_isValidType f_isValidNight
  rw [if_neg (by rw [ilt]; omega), if_pos (by rw [ilt]; omega), Option.bind_some, if_neg (by decide), if_neg (by rw [ilt]; omega), if_pos (by rw [ilt]; omega), Option.bind_some, if_neg (by decide), Option.bind_some, rdg (by omega) (by omega), Option.bind_some]
theorem own_exc {AC ST SA SN EX AL : List Int32} (h : own_PS AC ST SA SN EX AL) (id u n : Int32) : ∃ r, f_exclusion AC ST SA SN id u n = some r := by
  have hT := h.lT
  have hA := h.lA
  have hN := h.lN
  unfold f_exclusion f_coversNight
  rcases own_act01 h id with ⟨e, -⟩ | ⟨e, r0, r1, -⟩
  · rw [e, Option.bind_some, if_pos rfl]; exact ⟨_, rfl⟩
  · rw [e, Option.bind_some, if_neg (by decide), rdg r0 (by omega), Option.bind_some]
    split
    · exact ⟨_, rfl⟩
    · rw [Option.bind_some, if_neg (by decide), rdg r0 (by omega), Option.bind_some]
      split
      · exact ⟨_, rfl⟩
      · rw [rdg r0 (by omega), Option.bind_some, Option.bind_some]; exact ⟨_, rfl⟩
theorem own_nf3 {R AC ST SA SN EX AL : List Int32} (h : own_PS AC ST SA SN EX AL) (hR : R.length = 3) {id t n : Int32} (hn0 : 0 ≤ n.toInt) (hn1 : n.toInt < 32) : ∀ (f : Nat) (u : Int32), 0 ≤ u.toInt → u.toInt ≤ 3 → 3 - u.toInt < f → ∃ r, f_nightFits_3 R AC ST SA SN AL f id t n u = some r := by
  intro f
  induction f with
  | zero => intro u h0 h1 h2; exfalso; omega
  | succ f ih =>
    intro u h0 h1 h2
    unfold f_nightFits_3
    split
    · exact ⟨_, rfl⟩
    · by_cases g : u < 3
      · have g' : u.toInt < 3 := ilt.mp g
        have eu : (u + 1).toInt = u.toInt + 1 := by clear ih h; ((try simp only [ilt, ile, ieq, iadd_e, isub_e, imul_e, Int32.reduceToInt] at *) <;> omega)
        obtain ⟨r, er⟩ := own_exc h id u n
        rw [if_pos g, own_ala h.lL ⟨h0, g', hn0, hn1⟩, Option.bind_some, er, Option.bind_some, rdg h0 (by omega), Option.bind_some]
        split
        · exact ⟨_, rfl⟩
        · exact ih (u + 1) (by omega) (by omega) (by omega)
      · rw [if_neg g]; exact ⟨_, rfl⟩
theorem own_fw {R AC ST SA SN EX AL : List Int32} (h : own_PS AC ST SA SN EX AL) (hR : R.length = 3) {id t a k : Int32} (ha0 : 0 ≤ a.toInt) (hk : 0 ≤ k.toInt) (hak : a.toInt + k.toInt ≤ 32) : ∃ r, f_fitsWith R AC ST SA SN AL id t a k = some r := by
  have es : (a + k).toInt = a.toInt + k.toInt := by clear h; ((try simp only [ilt, ile, ieq, iadd_e, isub_e, imul_e, Int32.reduceToInt] at *) <;> omega)
  have e32 : (32 : Int32).toInt = 32 := rfl
  have e0 : (0 : Int32).toInt = 0 := rfl
  have key : ∀ (f : Nat) (j : Int32), 0 ≤ j.toInt → j.toInt ≤ 32 → 32 - j.toInt < f → ∃ r, f_fitsWith_12 R AC ST SA SN AL f id t (a + k) j = some r := by
    intro f
    induction f with
    | zero => intro j h0 h1 h2; exfalso; omega
    | succ f ih =>
      intro j h0 h1 h2
      unfold f_fitsWith_12
      rw [if_neg (by rw [ilt]; omega)]
      by_cases g : j < a + k
      · have g' := ilt.mp g
        have ej : (j + 1).toInt = j.toInt + 1 := by clear ih h; ((try simp only [ilt, ile, ieq, iadd_e, isub_e, imul_e, Int32.reduceToInt] at *) <;> omega)
        obtain ⟨r, er⟩ := own_nf3 h hR (id := id) (t := t) h0 (by omega) 100000 0 (by decide) (by decide) (by decide)
        unfold f_nightFits
        rw [if_pos g, er, Option.bind_some]
        split
        · exact ⟨_, rfl⟩
        · exact ih (j + 1) (by omega) (by omega) (by omega)
      · rw [if_neg g]; exact ⟨_, rfl⟩
  unfold f_fitsWith f_endOf
  rw [if_neg (by rw [ilt]; omega), Option.bind_some]
  exact key 100000 a ha0 (by omega) (by omega)
theorem own_low {AC : List Int32} (hl : AC.length = 32) : ∀ (f : Nat) (j : Int32), 0 ≤ j.toInt → j.toInt ≤ 32 → 32 - j.toInt < f → f_lowestInactiveSlot_2 AC f j = some (-1) ∨ ∃ r : Int32, f_lowestInactiveSlot_2 AC f j = some r ∧ 0 ≤ r.toInt ∧ r.toInt < 32 ∧ gI AC r = 0 := by
  intro f
  induction f with
  | zero => intro j h0 h1 h2; exfalso; omega
  | succ f ih =>
    intro j h0 h1 h2
    unfold f_lowestInactiveSlot_2
    by_cases g : j < 32
    · have g' : j.toInt < 32 := ilt.mp g
      have ej : (j + 1).toInt = j.toInt + 1 := by clear ih; ((try simp only [ilt, ile, ieq, iadd_e, isub_e, imul_e, Int32.reduceToInt] at *) <;> omega)
      rw [if_pos g, rdg h0 (by omega), Option.bind_some]
      by_cases k : gI AC j = 0
      · rw [if_pos k]
        exact Or.inr ⟨j, rfl, h0, g', k⟩
      · rw [if_neg k]
        exact ih (j + 1) (by omega) (by omega) (by omega)
    · rw [if_neg g]; exact Or.inl rfl
theorem own_ixs {i : Int32} (h0 : 0 ≤ i.toInt) (h1 : i.toInt < 96) : ∃ w m : Int32, own_wn w m ∧ i = w * 32 + m := by
  have e1 : (Int32.ofNat (i.toInt.toNat / 32)).toInt = (i.toInt.toNat / 32 : Nat) := Int32.toInt_ofNat_of_lt (by omega)
  have e2 : (Int32.ofNat (i.toInt.toNat % 32)).toInt = (i.toInt.toNat % 32 : Nat) := Int32.toInt_ofNat_of_lt (by omega)
  have hw : own_wn (Int32.ofNat (i.toInt.toNat / 32)) (Int32.ofNat (i.toInt.toNat % 32)) := ⟨by omega, by omega, by omega, by omega⟩
  refine ⟨_, _, hw, ?_⟩
  rw [ieq, own_wx hw, e1, e2]
  omega
theorem own_pm (x : Int32) (c : Prop) [Decidable c] : x + (if c then (1 : Int32) else 0) + (if c then (-1 : Int32) else 0) = x := by
  by_cases h : c
  · rw [if_pos h, if_pos h, Int32.add_assoc, show (1 + -1 : Int32) = 0 from by decide, Int32.add_zero]
  · rw [if_neg h, if_neg h, Int32.add_zero, Int32.add_zero]
theorem own_cov_back {EX AL EX1 AL1 EX2 AL2 : List Int32} {ty a e : Int32} (lE : EX.length = 96) (lL : AL.length = 96) (h1 : own_cov EX AL 1 ty a e EX1 AL1) (h2 : own_cov EX1 AL1 (-1) ty a e EX2 AL2) : EX2 = EX ∧ AL2 = AL := by
  obtain ⟨a1, a2, a3⟩ := h1
  obtain ⟨b1, b2, b3⟩ := h2
  constructor
  · refine gext (by omega) (by omega) (fun i p q => ?_)
    obtain ⟨w, m, hw, rfl⟩ := own_ixs p (by omega)
    rw [(b3 w m hw).1, (a3 w m hw).1, own_pm]
  · refine gext (by omega) (by omega) (fun i p q => ?_)
    obtain ⟨w, m, hw, rfl⟩ := own_ixs p (by omega)
    rw [(b3 w m hw).2, (a3 w m hw).2, own_pm]
theorem own_set_back {L : List Int32} (hl : L.length = 32) {id x y : Int32} (h0 : 0 ≤ id.toInt) (h1 : id.toInt < 32) (hx : gI L id = x) : (L.set id.toInt.toNat y).set id.toInt.toNat x = L := by
  refine gext (by simp; omega) (by simp) (fun i p q => ?_)
  rw [gset h0 (by simp; omega) p]
  by_cases e : id = i
  · rw [if_pos e, ← e, hx]
  · rw [if_neg e, gset h0 (by omega) p, if_neg e]
theorem own_gs {L : List Int32} (hl : L.length = 32) {id i x : Int32} (h0 : 0 ≤ id.toInt) (h1 : id.toInt < 32) (p : 0 ≤ i.toInt) : gI (L.set id.toInt.toNat x) i = if id = i then x else gI L i := gset h0 (by omega) p
theorem own_len {L : List Int32} {n : Nat} (hl : L.length = n) (k : Nat) (x : Int32) : (L.set k x).length = n := by rw [List.length_set]; exact hl
theorem own_put {AC ST SA SN EX AL EX' AL' : List Int32} (h : own_PS AC ST SA SN EX AL) {id t a k : Int32} (h0 : 0 ≤ id.toInt) (h1 : id.toInt < 32) (t0 : 0 ≤ t.toInt) (t2 : t.toInt ≤ 2) (a0 : 0 ≤ a.toInt) (k1 : 1 ≤ k.toInt) (ak : a.toInt + k.toInt ≤ 32) (l1 : EX'.length = 96) (l2 : AL'.length = 96) :
    own_PS (AC.set id.toInt.toNat 1) (ST.set id.toInt.toNat t) (SA.set id.toInt.toNat a) (SN.set id.toInt.toNat k) EX' AL' := by
  refine ⟨own_len h.lC _ _, own_len h.lT _ _, own_len h.lA _ _, own_len h.lN _ _, l1, l2, fun i p q => ?_⟩
  rw [own_gs h.lC h0 h1 p, own_gs h.lT h0 h1 p, own_gs h.lA h0 h1 p, own_gs h.lN h0 h1 p]
  by_cases e : id = i
  · rw [if_pos e, if_pos e, if_pos e, if_pos e]
    exact Or.inr ⟨rfl, t0, t2, a0, k1, ak⟩
  · rw [if_neg e, if_neg e, if_neg e, if_neg e]
    exact h.ok i p q
theorem own_drop {AC ST SA SN EX AL EX' AL' : List Int32} (h : own_PS AC ST SA SN EX AL) {id : Int32} (h0 : 0 ≤ id.toInt) (h1 : id.toInt < 32) (l1 : EX'.length = 96) (l2 : AL'.length = 96) :
    own_PS (AC.set id.toInt.toNat 0) (ST.set id.toInt.toNat 0) (SA.set id.toInt.toNat 0) (SN.set id.toInt.toNat 0) EX' AL' := by
  refine ⟨own_len h.lC _ _, own_len h.lT _ _, own_len h.lA _ _, own_len h.lN _ _, l1, l2, fun i p q => ?_⟩
  rw [own_gs h.lC h0 h1 p, own_gs h.lT h0 h1 p, own_gs h.lA h0 h1 p, own_gs h.lN h0 h1 p]
  by_cases e : id = i
  · rw [if_pos e, if_pos e, if_pos e, if_pos e]
    exact Or.inl ⟨rfl, rfl, rfl, rfl⟩
  · rw [if_neg e, if_neg e, if_neg e, if_neg e]
    exact h.ok i p q
theorem own_adj {AC ST SA SN EX AL : List Int32} (lT : ST.length = 32) (lA : SA.length = 32) (lN : SN.length = 32) (lE : EX.length = 96) (lL : AL.length = 96) {id t a k δ : Int32} (h0 : 0 ≤ id.toInt) (h1 : id.toInt < 32) (eT : gI ST id = t) (eA : gI SA id = a) (eN : gI SN id = k) (t0 : 0 ≤ t.toInt) (t2 : t.toInt ≤ 2) (a0 : 0 ≤ a.toInt) (k0 : 0 ≤ k.toInt) (ak : a.toInt + k.toInt ≤ 32) :
    ∃ EX' AL', f_adjustCoverage ST SA SN EX AL id δ = some (EX', AL') ∧ own_cov EX AL δ t a (a + k) EX' AL' := by
  obtain ⟨⟨x, y⟩, e, h⟩ := own_adjust lT lA lN lE lL h0 h1 δ (by rw [eT]; exact t0) (by rw [eT]; exact t2) (by rw [eA]; exact a0) (by rw [eN]; exact k0) (by rw [eA, eN]; exact ak)
  rw [eT, eA, eN] at h
  exact ⟨x, y, e, h⟩
theorem own_book {R AC ST SA SN EX AL : List Int32} (h : own_PS AC ST SA SN EX AL) (hR : R.length = 3) (n t a k : Int32) :
    (∃ e : Int32, e.toInt < 0 ∧ ∀ pc, f_book R AC ST SA SN EX AL n pc t a k = some (e, AC, ST, SA, SN, EX, AL, n, pc)) ∨
    (∃ (id : Int32) (EX' AL' : List Int32), 0 ≤ id.toInt ∧ id.toInt < 32 ∧ gI AC id = 0 ∧ own_cov EX AL 1 t a (a + k) EX' AL' ∧ (0 ≤ t.toInt ∧ t.toInt ≤ 2 ∧ 0 ≤ a.toInt ∧ 1 ≤ k.toInt ∧ a.toInt + k.toInt ≤ 32) ∧ ∀ pc, f_book R AC ST SA SN EX AL n pc t a k = some (id, AC.set id.toInt.toNat 1, ST.set id.toInt.toNat t, SA.set id.toInt.toNat a, SN.set id.toInt.toNat k, EX', AL', n + 1, 0)) := by
  have lC := h.lC
  have lT := h.lT
  have lA := h.lA
  have lN := h.lN
  rcases own_rq t a k with ⟨e, er, en⟩ | ⟨er, t0, t2, a0, a1, k1, ak⟩
  · left
    refine ⟨e, en, fun pc => ?_⟩
    unfold f_book
    rw [er, Option.bind_some, if_neg (by rw [ieq]; have e0 : (0 : Int32).toInt = 0 := rfl; omega)]
  · by_cases g : n < 32
    · obtain ⟨r, ef⟩ := own_fw h hR (id := -1) (t := t) a0 (by omega) ak
      by_cases gr : r = 0
      · left
        refine ⟨-4, by decide, fun pc => ?_⟩
        unfold f_book
        rw [er, Option.bind_some, if_pos rfl, if_pos g, ef, Option.bind_some, if_pos gr]
      · have lo : f_lowestInactiveSlot AC = f_lowestInactiveSlot_2 AC 100000 0 := rfl
        rcases own_low lC 100000 0 (by decide) (by decide) (by decide) with el | ⟨id, el, i0, i1, iz⟩
        · left
          refine ⟨-3, by decide, fun pc => ?_⟩
          unfold f_book
          rw [er, Option.bind_some, if_pos rfl, if_pos g, ef, Option.bind_some, if_neg gr, lo, el, Option.bind_some, if_pos (by decide)]
        · right
          have z : ∀ L : List Int32, L.length = 32 → ∀ x, gI (L.set id.toInt.toNat x) id = x := fun L hl x => by rw [own_gs hl i0 i1 i0, if_pos rfl]
          obtain ⟨EX', AL', ea, hc⟩ := own_adj (AC := AC) (own_len lT _ t) (own_len lA _ a) (own_len lN _ k) h.lE h.lL (δ := 1) i0 i1 (z ST lT t) (z SA lA a) (z SN lN k) t0 t2 a0 (by omega) ak
          refine ⟨id, EX', AL', i0, i1, iz, hc, ⟨t0, t2, a0, k1, ak⟩, fun pc => ?_⟩
          have e0 : (0 : Int32).toInt = 0 := rfl
          have ei : f_activateStay AC ST SA SN EX AL n id t a k = some (AC.set id.toInt.toNat 1, ST.set id.toInt.toNat t, SA.set id.toInt.toNat a, SN.set id.toInt.toNat k, EX', AL', n + 1) := by
            unfold f_activateStay f_storeStay
            rw [wrA_in i0 (by omega), Option.bind_some, wrA_in i0 (by omega), Option.bind_some, wrA_in i0 (by omega), Option.bind_some, Option.bind_some]
            show Option.bind (wrA AC id 1) _ = _
            rw [wrA_in i0 (by omega), Option.bind_some, ea, Option.bind_some]
          unfold f_book f_discardPlan
          rw [er, Option.bind_some, if_pos rfl, if_pos g, ef, Option.bind_some, if_neg gr, lo, el, Option.bind_some, if_neg (by rw [ilt]; omega), ei, Option.bind_some]
          rfl
    · left
      refine ⟨-3, by decide, fun pc => ?_⟩
      unfold f_book
      rw [er, Option.bind_some, if_pos rfl, if_neg g]
theorem own_cancel {AC ST SA SN EX AL : List Int32} (h : own_PS AC ST SA SN EX AL) (n id : Int32) :
    (∀ pc, f_cancel AC ST SA SN EX AL n pc id = some (-5, AC, ST, SA, SN, EX, AL, n, pc)) ∨
    (∃ EX' AL' : List Int32, 0 ≤ id.toInt ∧ id.toInt < 32 ∧ gI AC id = 1 ∧ own_cov EX AL (-1) (gI ST id) (gI SA id) (gI SA id + gI SN id) EX' AL' ∧ ∀ pc, f_cancel AC ST SA SN EX AL n pc id = some (0, AC.set id.toInt.toNat 0, ST.set id.toInt.toNat 0, SA.set id.toInt.toNat 0, SN.set id.toInt.toNat 0, EX', AL', n - 1, 0)) := by
  have lC := h.lC
  have lT := h.lT
  have lA := h.lA
  have lN := h.lN
  rcases own_act01 h id with ⟨e, -⟩ | ⟨e, i0, i1, ia, t0, t2, a0, k1, ak⟩
  · left
    intro pc
    unfold f_cancel
    rw [e, Option.bind_some, if_pos rfl]
  · right
    obtain ⟨EX', AL', ea, hc⟩ := own_adj (AC := AC) lT lA lN h.lE h.lL (δ := -1) i0 i1 rfl rfl rfl t0 t2 a0 (by omega) ak
    refine ⟨EX', AL', i0, i1, ia, hc, fun pc => ?_⟩
    have ed : f_deactivateStay AC ST SA SN EX AL n id = some (AC.set id.toInt.toNat 0, ST.set id.toInt.toNat 0, SA.set id.toInt.toNat 0, SN.set id.toInt.toNat 0, EX', AL', n - 1) := by
      unfold f_deactivateStay f_storeStay
      rw [ea, Option.bind_some]
      show Option.bind (wrA AC id 0) _ = _
      rw [wrA_in i0 (by omega), Option.bind_some, wrA_in i0 (by omega), Option.bind_some, wrA_in i0 (by omega), Option.bind_some, wrA_in i0 (by omega), Option.bind_some, Option.bind_some]
    unfold f_cancel f_discardPlan
    rw [e, Option.bind_some, if_neg (by decide), ed, Option.bind_some]
    rfl
theorem own_amend {R AC ST SA SN EX AL : List Int32} (h : own_PS AC ST SA SN EX AL) (hR : R.length = 3) (id t a k : Int32) :
    ∃ (r : Int32) (ST' SA' SN' EX' AL' : List Int32), own_PS AC ST' SA' SN' EX' AL' ∧ ∀ pc, ∃ pc', f_amend R AC ST SA SN EX AL pc id t a k = some (r, ST', SA', SN', EX', AL', pc') := by
  have lC := h.lC
  have lT := h.lT
  have lA := h.lA
  have lN := h.lN
  rcases own_act01 h id with ⟨e, -⟩ | ⟨e, i0, i1, ia, t0', t2', a0', k1', ak'⟩
  · refine ⟨-5, ST, SA, SN, EX, AL, h, fun pc => ⟨pc, ?_⟩⟩
    unfold f_amend
    rw [e, Option.bind_some, if_pos rfl]
  · rcases own_rq t a k with ⟨x, er, en⟩ | ⟨er, t0, t2, a0, a1, k1, ak⟩
    · refine ⟨x, ST, SA, SN, EX, AL, h, fun pc => ⟨pc, ?_⟩⟩
      unfold f_amend
      rw [e, Option.bind_some, if_neg (by decide), er, Option.bind_some, if_neg (by rw [ieq]; have e0 : (0 : Int32).toInt = 0 := rfl; omega)]
    · obtain ⟨r, ef⟩ := own_fw h hR (id := id) (t := t) a0 (by omega) ak
      by_cases gr : r = 0
      · refine ⟨-4, ST, SA, SN, EX, AL, h, fun pc => ⟨pc, ?_⟩⟩
        unfold f_amend
        rw [e, Option.bind_some, if_neg (by decide), er, Option.bind_some, if_pos rfl, ef, Option.bind_some, if_pos gr]
      · have z : ∀ L : List Int32, L.length = 32 → ∀ x, gI (L.set id.toInt.toNat x) id = x := fun L hl x => by rw [own_gs hl i0 i1 i0, if_pos rfl]
        obtain ⟨EX1, AL1, e1, c1⟩ := own_adj (AC := AC) lT lA lN h.lE h.lL (δ := -1) i0 i1 rfl rfl rfl t0' t2' a0' (by omega) ak'
        obtain ⟨EX2, AL2, e2, c2⟩ := own_adj (AC := AC) (own_len lT _ t) (own_len lA _ a) (own_len lN _ k) c1.1 c1.2.1 (δ := 1) i0 i1 (z ST lT t) (z SA lA a) (z SN lN k) t0 t2 a0 (by omega) ak
        have hP := own_put h (EX' := EX2) (AL' := AL2) i0 i1 t0 t2 a0 k1 ak c2.1 c2.2.1
        have eC : AC.set id.toInt.toNat 1 = AC := by
          refine gext (by simp; omega) (by simp) (fun i p q => ?_)
          rw [own_gs lC i0 i1 p]
          by_cases ee : id = i
          · rw [if_pos ee, ← ee, ia]
          · rw [if_neg ee]
        rw [eC] at hP
        refine ⟨0, _, _, _, EX2, AL2, hP, fun pc => ⟨0, ?_⟩⟩
        unfold f_amend f_storeStay f_discardPlan
        rw [e, Option.bind_some, if_neg (by decide), er, Option.bind_some, if_pos rfl, ef, Option.bind_some, if_neg gr, e1, Option.bind_some, wrA_in i0 (by omega), Option.bind_some, wrA_in i0 (by omega), Option.bind_some, wrA_in i0 (by omega), Option.bind_some]
        show Option.bind (some (ST.set id.toInt.toNat t, SA.set id.toInt.toNat a, SN.set id.toInt.toNat k)) _ = _
        rw [Option.bind_some]
        show Option.bind (f_adjustCoverage (ST.set id.toInt.toNat t) (SA.set id.toInt.toNat a) (SN.set id.toInt.toNat k) EX1 AL1 id 1) _ = _
        rw [e2, Option.bind_some]
        rfl
theorem own_c30 (PR PO : List Int32) (l : Int32) : ∀ (n : Nat) (PG : List Int32) (j : Int32), PG.length = 768 → 0 ≤ j.toInt → j.toInt ≤ 768 → 768 - j.toInt < n → Tot (f_clearPlan_30 n PR PG PO l j) (fun r => r.1 = PR ∧ r.2.1.length = 768 ∧ r.2.2.1 = PO ∧ r.2.2.2 = 0) := by
  intro n
  induction n with
  | zero => intro PG j h0 h1 h2 h3; exfalso; omega
  | succ n ih =>
    intro PG j h0 h1 h2 h3
    unfold f_clearPlan_30
    refine Tot.ite (fun g => ?_) (fun g => Tot.mk ⟨rfl, h0, rfl, rfl⟩)
    have g' : j.toInt < 768 := ilt.mp g
    have ej : (j + 1).toInt = j.toInt + 1 := by clear ih; ((try simp only [ilt, ile, ieq, iadd_e, isub_e, imul_e, Int32.reduceToInt] at *) <;> omega)
    exact Tot.wr h1 (by omega) (fun A q1 q2 => ih A (j + 1) (by omega) (by omega) (by omega) (by omega))
theorem own_c2 (PG : List Int32) (hG : PG.length = 768) (l : Int32) : ∀ (n : Nat) (PR PO : List Int32) (j : Int32), PR.length = 32 → PO.length = 32 → 0 ≤ j.toInt → j.toInt ≤ 32 → 32 - j.toInt < n → Tot (f_clearPlan_2 (f_clearPlan_30 100000) n PR PG PO l j) (fun r => r.1.length = 32 ∧ r.2.1.length = 768 ∧ r.2.2.1.length = 32 ∧ r.2.2.2 = 0) := by
  intro n
  induction n with
  | zero => intro PR PO j h0 h0' h1 h2 h3; exfalso; omega
  | succ n ih =>
    intro PR PO j h0 h0' h1 h2 h3
    unfold f_clearPlan_2
    refine Tot.ite (fun g => ?_) (fun g => ?_)
    · have g' : j.toInt < 32 := ilt.mp g
      have ej : (j + 1).toInt = j.toInt + 1 := by clear ih; ((try simp only [ilt, ile, ieq, iadd_e, isub_e, imul_e, Int32.reduceToInt] at *) <;> omega)
      exact Tot.wr h1 (by omega) (fun A q1 q2 => Tot.wr h1 (by omega) (fun B q3 q4 => ih A B (j + 1) (by omega) (by omega) (by omega) (by omega) (by omega)))
    · refine (own_c30 PR PO l 100000 PG 0 hG (by decide) (by decide) (by decide)).mono ?_
      rintro r ⟨a, b, c, d⟩
      exact ⟨by rw [a]; exact h0, b, by rw [c]; exact h0', d⟩
def own_J (PO : List Int32) (n : Int32) : Prop := PO.length = 32 ∧ 0 ≤ n.toInt ∧ n.toInt ≤ 32 ∧ ∀ i : Int32, 0 ≤ i.toInt → i.toInt < n.toInt → 0 ≤ (gI PO i).toInt ∧ (gI PO i).toInt < 32
theorem own_app {PO : List Int32} {n v : Int32} (h : own_J PO n) (v0 : 0 ≤ v.toInt) (v1 : v.toInt < 32) : ∃ PO' n', f_appendToOrder PO n v = some (PO', n') ∧ own_J PO' n' := by
  obtain ⟨a, b, c, d⟩ := h
  have e0 : (0 : Int32).toInt = 0 := rfl
  unfold f_appendToOrder
  rw [if_neg (by rw [ilt]; omega)]
  by_cases g : n < 32
  · have g' : n.toInt < 32 := ilt.mp g
    have en : (n + 1).toInt = n.toInt + 1 := by clear d; ((try simp only [ilt, ile, ieq, iadd_e, isub_e, imul_e, Int32.reduceToInt] at *) <;> omega)
    rw [if_pos g, wrA_in b (by omega), Option.bind_some]
    refine ⟨_, _, rfl, own_len a _ _, by omega, by omega, fun i p q => ?_⟩
    rw [gset b (by omega) p]
    by_cases e : n = i
    · rw [if_pos e]; exact ⟨v0, v1⟩
    · rw [if_neg e]
      rw [ieq] at e
      exact d i p (by omega)
  · rw [if_neg g]
    exact ⟨_, _, rfl, a, b, c, d⟩
theorem own_bo15 {Q : List Int32 × Int32 → Prop} {AC SA : List Int32} (lC : AC.length = 32) (lA : SA.length = 32) (k7 : List Int32 → Int32 → Int32 → Option (List Int32 × Int32)) (v : Int32) (hk : ∀ (PO : List Int32) (n : Int32), own_J PO n → Tot (k7 PO n (v + 1)) Q) : ∀ (f : Nat) (PO : List Int32) (n j : Int32), own_J PO n → 0 ≤ j.toInt → j.toInt ≤ 32 → 32 - j.toInt < f → Tot (f_buildOrder_15 k7 AC SA f PO n v j) Q := by
  intro f
  induction f with
  | zero => intro PO n j h h0 h1 h2; exfalso; omega
  | succ f ih =>
    intro PO n j h h0 h1 h2
    unfold f_buildOrder_15
    refine Tot.ite (fun g => ?_) (fun g => hk PO n h)
    have g' : j.toInt < 32 := ilt.mp g
    have ej : (j + 1).toInt = j.toInt + 1 := by clear ih hk h; ((try simp only [ilt, ile, ieq, iadd_e, isub_e, imul_e, Int32.reduceToInt] at *) <;> omega)
    refine Tot.rdI h0 (by omega) (Tot.ite (fun g2 => ih PO n (j + 1) h (by omega) (by omega) (by omega)) (fun g2 => Tot.rdI h0 (by omega) (Tot.ite (fun g3 => ?_) (fun g3 => ih PO n (j + 1) h (by omega) (by omega) (by omega)))))
    obtain ⟨PO', n', e, h'⟩ := own_app h h0 g'
    rw [e, Option.bind_some]
    exact ih PO' n' (j + 1) h' (by omega) (by omega) (by omega)
theorem own_bo7 {AC SA : List Int32} (lC : AC.length = 32) (lA : SA.length = 32) : ∀ (f : Nat) (PO : List Int32) (n v : Int32), own_J PO n → 0 ≤ v.toInt → v.toInt ≤ 32 → 32 - v.toInt < f → Tot (f_buildOrder_7 AC SA f PO n v) (fun r => own_J r.1 r.2) := by
  intro f
  induction f with
  | zero => intro PO n v h h0 h1 h2; exfalso; omega
  | succ f ih =>
    intro PO n v h h0 h1 h2
    unfold f_buildOrder_7
    refine Tot.ite (fun g => ?_) (fun g => Tot.mk h)
    have g' : v.toInt < 32 := ilt.mp g
    have ev : (v + 1).toInt = v.toInt + 1 := by clear ih h; ((try simp only [ilt, ile, ieq, iadd_e, isub_e, imul_e, Int32.reduceToInt] at *) <;> omega)
    exact own_bo15 lC lA _ v (fun PO' n' h' => ih PO' n' (v + 1) h' (by omega) (by omega) (by omega)) 100000 PO n 0 h (by decide) (by decide) (by decide)
theorem own_ga {PG : List Int32} (hG : PG.length = 768) (r n : Int32) : ∃ x, f_gridAt PG r n = some x := by
  have e0 : (0 : Int32).toInt = 0 := rfl
  unfold f_gridAt
  by_cases a : r < 0
  · rw [if_pos a]; exact ⟨_, rfl⟩
  · by_cases b : r < 24
    · rw [if_neg a, if_pos b]
      rcases own_vn3 n with e | ⟨e, n0, n1⟩
      · rw [e, Option.bind_some, if_pos rfl]; exact ⟨_, rfl⟩
      · have b' : r.toInt < 24 := ilt.mp b
        rw [ilt] at a
        have ei : (r * 32 + n).toInt = r.toInt * 32 + n.toInt := by clear e; ((try simp only [ilt, ile, ieq, iadd_e, isub_e, imul_e, Int32.reduceToInt] at *) <;> omega)
        unfold f_gridIndex
        rw [e, Option.bind_some, if_neg (by decide), Option.bind_some, rdg (by omega) (by omega), Option.bind_some]
        exact ⟨_, rfl⟩
    · rw [if_neg a, if_neg b]; exact ⟨_, rfl⟩
theorem own_rf {PG : List Int32} (hG : PG.length = 768) {r a k : Int32} (a0 : 0 ≤ a.toInt) (k0 : 0 ≤ k.toInt) (ak : a.toInt + k.toInt ≤ 32) : ∃ x, f_roomIsFree PG r a k = some x := by
  have es : (a + k).toInt = a.toInt + k.toInt := by ((try simp only [ilt, ile, ieq, iadd_e, isub_e, imul_e, Int32.reduceToInt] at *) <;> omega)
  have e32 : (32 : Int32).toInt = 32 := rfl
  have e0 : (0 : Int32).toInt = 0 := rfl
  have key : ∀ (f : Nat) (j : Int32), 0 ≤ j.toInt → j.toInt ≤ 32 → 32 - j.toInt < f → ∃ x, f_roomIsFree_11 PG f r (a + k) j = some x := by
    intro f
    induction f with
    | zero => intro j h0 h1 h2; exfalso; omega
    | succ f ih =>
      intro j h0 h1 h2
      unfold f_roomIsFree_11
      rw [if_neg (by rw [ilt]; omega)]
      by_cases g : j < a + k
      · have g' := ilt.mp g
        have ej : (j + 1).toInt = j.toInt + 1 := by clear ih; ((try simp only [ilt, ile, ieq, iadd_e, isub_e, imul_e, Int32.reduceToInt] at *) <;> omega)
        obtain ⟨x, ex⟩ := own_ga hG r j
        rw [if_pos g, ex, Option.bind_some]
        split
        · exact ih (j + 1) (by omega) (by omega) (by omega)
        · exact ⟨_, rfl⟩
      · rw [if_neg g]; exact ⟨_, rfl⟩
  unfold f_roomIsFree f_endOf
  rw [if_neg (by rw [ilt]; omega), Option.bind_some]
  exact key 100000 a a0 (by omega) (by omega)
theorem own_mr {PG : List Int32} (hG : PG.length = 768) {r id a k : Int32} (a0 : 0 ≤ a.toInt) (k0 : 0 ≤ k.toInt) (ak : a.toInt + k.toInt ≤ 32) : Tot (f_markRoom PG r id a k) (fun x => x.length = 768) := by
  have es : (a + k).toInt = a.toInt + k.toInt := by ((try simp only [ilt, ile, ieq, iadd_e, isub_e, imul_e, Int32.reduceToInt] at *) <;> omega)
  have e32 : (32 : Int32).toInt = 32 := rfl
  have e0 : (0 : Int32).toInt = 0 := rfl
  unfold f_markRoom
  refine Tot.ite (fun _ => Tot.mk hG) (fun g0 => Tot.ite (fun g1 => ?_) (fun _ => Tot.mk hG))
  have g1' : r.toInt < 24 := ilt.mp g1
  rw [ilt] at g0
  have key : ∀ (f : Nat) (PG : List Int32) (j : Int32), PG.length = 768 → 0 ≤ j.toInt → j.toInt ≤ 32 → 32 - j.toInt < f → Tot (f_markRoom_23 f PG r id (a + k) j) (fun x => x.length = 768) := by
    intro f
    induction f with
    | zero => intro PG j h h0 h1 h2; exfalso; omega
    | succ f ih =>
      intro PG j h h0 h1 h2
      unfold f_markRoom_23
      refine Tot.ite (fun _ => Tot.mk h) (fun _ => Tot.ite (fun g => ?_) (fun _ => Tot.mk h))
      have g' := ilt.mp g
      have ej : (j + 1).toInt = j.toInt + 1 := by clear ih; ((try simp only [ilt, ile, ieq, iadd_e, isub_e, imul_e, Int32.reduceToInt] at *) <;> omega)
      have ei : (r * 32 + j).toInt = r.toInt * 32 + j.toInt := by
        rw [es] at g'
        clear ih g g1; ((try simp only [ilt, ile, ieq, iadd_e, isub_e, imul_e, Int32.reduceToInt] at *) <;> omega)
      unfold f_gridIndex
      rw [Option.bind_some]
      exact Tot.wr (by omega) (by omega) (fun A q1 q2 => ih A (j + 1) (by omega) (by omega) (by omega) (by omega))
  unfold f_endOf
  rw [if_neg (by rw [ilt]; omega), Option.bind_some]
  exact key 100000 PG a hG a0 (by omega) (by omega)
theorem own_ps50 {F AC ST SA SN : List Int32} {tot id a k : Int32} (i0 : 0 ≤ id.toInt) (i1 : id.toInt < 32) (a0 : 0 ≤ a.toInt) (k0 : 0 ≤ k.toInt) (ak : a.toInt + k.toInt ≤ 32) : ∀ (f : Nat) (PR PG : List Int32) (v : Int32), PR.length = 32 → PG.length = 768 → 0 ≤ v.toInt → v.toInt ≤ 24 → 24 - v.toInt < f → Tot (f_placeStay_50 (f_placeStay_78 F AC ST SA SN tot) F AC ST SA SN tot f PR PG id a k v) (fun r => r.2.1.length = 32 ∧ r.2.2.length = 768) := by
  intro f
  induction f with
  | zero => intro PR PG v h h' h0 h1 h2; exfalso; omega
  | succ f ih =>
    intro PR PG v h h' h0 h1 h2
    unfold f_placeStay_50
    refine Tot.ite (fun g => Tot.ite (fun g2 => ?_) (fun _ => Tot.mk ⟨h, h'⟩)) (fun _ => Tot.mk ⟨h, h'⟩)
    have g' : v.toInt < 24 := ilt.mp g2
    have ev : (v + 1).toInt = v.toInt + 1 := by clear ih; ((try simp only [ilt, ile, ieq, iadd_e, isub_e, imul_e, Int32.reduceToInt] at *) <;> omega)
    obtain ⟨x, ex⟩ := own_rf h' (r := v) a0 k0 ak
    rw [ex, Option.bind_some]
    refine Tot.ite (fun _ => ih PR PG (v + 1) h h' (by omega) (by omega) (by omega)) (fun _ => ?_)
    unfold f_placeStay_78
    exact Tot.bind (own_mr h' a0 k0 ak) (fun G hG => Tot.wr i0 (by omega) (fun A q1 q2 => Tot.mk ⟨by show A.length = 32; omega, hG⟩))
def own_F (F : List Int32) : Prop := F.length = 3 ∧ ∀ i : Int32, 0 ≤ i.toInt → i.toInt < 3 → 0 ≤ (gI F i).toInt ∧ (gI F i).toInt ≤ 24
theorem own_place {F AC ST SA SN EX AL PR PG : List Int32} (h : own_PS AC ST SA SN EX AL) (hF : own_F F) (tot : Int32) {id : Int32} (lR : PR.length = 32) (lG : PG.length = 768) : Tot (f_placeStay F AC ST SA SN tot PR PG id) (fun r => r.2.1.length = 32 ∧ r.2.2.length = 768) := by
  have lT := h.lT
  have lA := h.lA
  have lN := h.lN
  unfold f_placeStay
  rcases own_act01 h id with ⟨e, -⟩ | ⟨e, i0, i1, ia, t0, t2, a0, k1, ak⟩
  · rw [e, Option.bind_some, if_pos rfl]
    exact Tot.mk ⟨lR, lG⟩
  · rw [e, Option.bind_some, if_neg (by decide)]
    refine Tot.rdI i0 (by omega) ?_
    rcases own_vt3 (gI ST id) with ev | ⟨ev, -, -⟩
    · rw [ev, Option.bind_some, if_pos rfl]
      exact Tot.mk ⟨lR, lG⟩
    · rw [ev, Option.bind_some, if_neg (by decide)]
      have hf := hF.2 (gI ST id) t0 (by omega)
      refine Tot.rdI i0 (by omega) (Tot.rdI i0 (by omega) (Tot.rdI t0 (by rw [hF.1]; omega) ?_))
      exact own_ps50 i0 i1 a0 (by omega) ak 100000 PR PG _ lR lG hf.1 hf.2 (by omega)
theorem own_as16 {F AC ST SA SN EX AL PO : List Int32} (h : own_PS AC ST SA SN EX AL) (hF : own_F F) (tot n pc pu : Int32) (hJ : own_J PO n) : ∀ (f : Nat) (PR PG : List Int32) (u v : Int32), PR.length = 32 → PG.length = 768 → 0 ≤ v.toInt → v.toInt ≤ 32 → 32 - v.toInt < f → Tot (f_assign_16 (f_assign_58 F AC ST SA SN tot) F AC ST SA SN tot f PR PG PO n pc pu u v) (fun r => r.2.1.length = 32 ∧ r.2.2.1.length = 768 ∧ r.2.2.2.1.length = 32 ∧ r.2.2.2.2.2.1 = 1) := by
  intro f
  induction f with
  | zero => intro PR PG u v h h' h0 h1 h2; exfalso; omega
  | succ f ih =>
    intro PR PG u v l1 l2 h0 h1 h2
    unfold f_assign_16
    refine Tot.ite (fun g => Tot.ite (fun g2 => ?_) (fun _ => ?_)) (fun _ => ?_)
    · have g' : v.toInt < 32 := ilt.mp g2
      have ev : (v + 1).toInt = v.toInt + 1 := by clear ih h hF hJ; ((try simp only [ilt, ile, ieq, iadd_e, isub_e, imul_e, Int32.reduceToInt] at *) <;> omega)
      refine Tot.rdI h0 (by rw [hJ.1]; omega) (Tot.bind (own_place h hF tot l1 l2) ?_)
      rintro ⟨r, A, B⟩ ⟨q1, q2⟩
      exact ih A B _ (v + 1) q1 q2 (by omega) (by omega) (by omega)
    · unfold f_assign_58
      exact Tot.mk ⟨l1, l2, hJ.1, rfl⟩
    · unfold f_assign_58
      exact Tot.mk ⟨l1, l2, hJ.1, rfl⟩
theorem own_assign {F AC ST SA SN EX AL PR PG PO : List Int32} (h : own_PS AC ST SA SN EX AL) (hF : own_F F) (tot n pc pu : Int32) (lR : PR.length = 32) (lG : PG.length = 768) (lO : PO.length = 32) : Tot (f_assign F AC ST SA SN tot PR PG PO n pc pu) (fun r => r.2.1.length = 32 ∧ r.2.2.1.length = 768 ∧ r.2.2.2.1.length = 32 ∧ r.2.2.2.2.2.1 = 1) := by
  unfold f_assign f_discardPlan f_clearPlan f_buildOrder
  rw [Option.bind_some]
  refine Tot.bind (own_c2 PG lG n 100000 PR PO 0 lR lO (by decide) (by decide) (by decide)) ?_
  rintro ⟨A, B, C, d⟩ ⟨q1, q2, q3, q4⟩
  have e0 : (0 : Int32).toInt = 0 := rfl
  refine Tot.bind (own_bo7 h.lC h.lA 100000 C 0 0 ⟨q3, by decide, by decide, fun i p q => by exfalso; omega⟩ (by decide) (by decide) (by decide)) ?_
  rintro ⟨O, m⟩ hJ
  exact own_as16 h hF tot m 0 pu hJ 100000 A B 0 0 q1 q2 (by decide) (by decide) (by decide)
theorem own_assign_pc (F AC ST SA SN : List Int32) (tot : Int32) (PR PG PO : List Int32) (n pc pu : Int32) : f_assign F AC ST SA SN tot PR PG PO n pc pu = f_assign F AC ST SA SN tot PR PG PO n 0 pu := by
  unfold f_assign f_discardPlan
  rw [Option.bind_some]
theorem own_st {R F AC ST SA SN EX AL PR PG PO : List Int32} (h : own_PS AC ST SA SN EX AL) (hR : R.length = 3) (hF : own_F F) (tot n pl pu : Int32) (lR : PR.length = 32) (lG : PG.length = 768) (lO : PO.length = 32) (op x y z w : Int32) :
    ∃ (AC' ST' SA' SN' EX' AL' PR' PG' PO' : List Int32) (n' pl' pu' : Int32), own_PS AC' ST' SA' SN' EX' AL' ∧ PR'.length = 32 ∧ PG'.length = 768 ∧ PO'.length = 32 ∧ ∀ pc, ∃ pc', f_L_step R F tot AC ST SA SN EX AL PR PG PO n pl pc pu op x y z w = some (AC', ST', SA', SN', EX', AL', PR', PG', PO', n', pl', pc', pu') := by
  unfold f_L_step
  by_cases o0 : op = 0
  · rcases own_book h hR n x y z with ⟨e, -, hb⟩ | ⟨id, EX', AL', i0, i1, iz, hc, ⟨t0, t2, a0, k1, ak⟩, hb⟩
    · refine ⟨AC, ST, SA, SN, EX, AL, PR, PG, PO, n, pl, pu, h, lR, lG, lO, fun pc => ⟨pc, ?_⟩⟩
      rw [if_pos o0, hb, Option.bind_some]
    · refine ⟨_, _, _, _, EX', AL', PR, PG, PO, n + 1, pl, pu, own_put h i0 i1 t0 t2 a0 k1 ak hc.1 hc.2.1, lR, lG, lO, fun pc => ⟨0, ?_⟩⟩
      rw [if_pos o0, hb, Option.bind_some]
  by_cases o1 : op = 1
  · obtain ⟨r, ST', SA', SN', EX', AL', h', hb⟩ := own_amend h hR x y z w
    refine ⟨AC, ST', SA', SN', EX', AL', PR, PG, PO, n, pl, pu, h', lR, lG, lO, fun pc => ?_⟩
    obtain ⟨pc', e⟩ := hb pc
    refine ⟨pc', ?_⟩
    rw [if_neg o0, if_pos o1, e, Option.bind_some]
  by_cases o2 : op = 2
  · rcases own_cancel h n x with hb | ⟨EX', AL', i0, i1, ia, hc, hb⟩
    · refine ⟨AC, ST, SA, SN, EX, AL, PR, PG, PO, n, pl, pu, h, lR, lG, lO, fun pc => ⟨pc, ?_⟩⟩
      rw [if_neg o0, if_neg o1, if_pos o2, hb, Option.bind_some]
    · refine ⟨_, _, _, _, EX', AL', PR, PG, PO, n - 1, pl, pu, own_drop h i0 i1 hc.1 hc.2.1, lR, lG, lO, fun pc => ⟨0, ?_⟩⟩
      rw [if_neg o0, if_neg o1, if_pos o2, hb, Option.bind_some]
  · obtain ⟨⟨r, A, B, C, m, c, u⟩, e, q1, q2, q3, -⟩ := own_assign h hF tot pl 0 pu lR lG lO
    refine ⟨AC, ST, SA, SN, EX, AL, A, B, C, n, m, u, h, q1, q2, q3, fun pc => ⟨c, ?_⟩⟩
    rw [if_neg o0, if_neg o1, if_neg o2, own_assign_pc, e, Option.bind_some]
theorem own_sty {AC ST SA SN EX AL : List Int32} (h : own_PS AC ST SA SN EX AL) (v : Int32) : (∃ r, f_stayType AC ST v = some r) ∧ (∃ r, f_stayArrive AC SA v = some r) ∧ (∃ r, f_stayNights AC SN v = some r) := by
  have lT := h.lT
  have lA := h.lA
  have lN := h.lN
  unfold f_stayType f_stayArrive f_stayNights
  rcases own_act01 h v with ⟨e, -⟩ | ⟨e, i0, i1, -⟩
  · rw [e, Option.bind_some, if_pos rfl, Option.bind_some, if_pos rfl, Option.bind_some, if_pos rfl]
    exact ⟨⟨_, rfl⟩, ⟨_, rfl⟩, ⟨_, rfl⟩⟩
  · rw [e, Option.bind_some, if_neg (by decide), Option.bind_some, if_neg (by decide), Option.bind_some, if_neg (by decide), rdg i0 (by omega), rdg i0 (by omega), rdg i0 (by omega), Option.bind_some, Option.bind_some, Option.bind_some]
    exact ⟨⟨_, rfl⟩, ⟨_, rfl⟩, ⟨_, rfl⟩⟩
theorem own_occ {EX : List Int32} (lE : EX.length = 96) (t n : Int32) : ∃ r, f_occupancy EX t n = some r := by
  unfold f_occupancy
  rcases own_vt3 t with e | ⟨e, t0, t2⟩
  · rw [e, Option.bind_some, if_pos rfl]; exact ⟨_, rfl⟩
  · rw [e, Option.bind_some, if_neg (by decide)]
    rcases own_vn3 n with e' | ⟨e', n0, n1⟩
    · rw [e', Option.bind_some, if_pos rfl]; exact ⟨_, rfl⟩
    · have hw : own_wn t n := ⟨t0, by omega, n0, by omega⟩
      have ei := own_wx hw
      unfold f_exactAt f_countIndex
      rw [e', Option.bind_some, if_neg (by decide), e, Option.bind_some, if_neg (by decide), Option.bind_some, if_neg (by decide), Option.bind_some, rdg (by omega) (by omega), Option.bind_some, Option.bind_some]
      exact ⟨_, rfl⟩
theorem own_same {AC ST SA SN EX AL : List Int32} (h : own_PS AC ST SA SN EX AL) (n : Int32) : f_L_same AC ST SA SN EX n AC ST SA SN EX n = some 1 := by
  have k81 : ∀ (k74 : Int32 → Option Int32) (v : Int32), k74 (v + 1) = some 1 → ∀ (f : Nat) (j : Int32), 0 ≤ j.toInt → j.toInt ≤ 32 → 32 - j.toInt < f → f_L_same_81 k74 AC ST SA SN EX n AC ST SA SN EX n f v j = some 1 := by
    intro k74 v hk f
    induction f with
    | zero => intro j h0 h1 h2; exfalso; omega
    | succ f ih =>
      intro j h0 h1 h2
      unfold f_L_same_81
      by_cases g : j < 32
      · have g' : j.toInt < 32 := ilt.mp g
        have ej : (j + 1).toInt = j.toInt + 1 := by clear ih h hk; ((try simp only [ilt, ile, ieq, iadd_e, isub_e, imul_e, Int32.reduceToInt] at *) <;> omega)
        obtain ⟨r, e⟩ := own_occ h.lE v j
        rw [if_pos g, e, Option.bind_some, Option.bind_some, if_pos rfl]
        exact ih (j + 1) (by omega) (by omega) (by omega)
      · rw [if_neg g]; exact hk
  have k74 : ∀ (f : Nat) (j : Int32), 0 ≤ j.toInt → j.toInt ≤ 3 → 3 - j.toInt < f → f_L_same_74 AC ST SA SN EX n AC ST SA SN EX n f j = some 1 := by
    intro f
    induction f with
    | zero => intro j h0 h1 h2; exfalso; omega
    | succ f ih =>
      intro j h0 h1 h2
      unfold f_L_same_74
      by_cases g : j < 3
      · have g' : j.toInt < 3 := ilt.mp g
        have ej : (j + 1).toInt = j.toInt + 1 := by clear ih h k81; ((try simp only [ilt, ile, ieq, iadd_e, isub_e, imul_e, Int32.reduceToInt] at *) <;> omega)
        rw [if_pos g]
        exact k81 _ j (ih (j + 1) (by omega) (by omega) (by omega)) 100000 0 (by decide) (by decide) (by decide)
      · rw [if_neg g]
  have k15 : ∀ (f : Nat) (j : Int32), 0 ≤ j.toInt → j.toInt ≤ 32 → 32 - j.toInt < f → f_L_same_15 (f_L_same_74 AC ST SA SN EX n AC ST SA SN EX n 100000) AC ST SA SN EX n AC ST SA SN EX n f j = some 1 := by
    intro f
    induction f with
    | zero => intro j h0 h1 h2; exfalso; omega
    | succ f ih =>
      intro j h0 h1 h2
      unfold f_L_same_15
      by_cases g : j < 32
      · have g' : j.toInt < 32 := ilt.mp g
        have ej : (j + 1).toInt = j.toInt + 1 := by clear ih h k81 k74; ((try simp only [ilt, ile, ieq, iadd_e, isub_e, imul_e, Int32.reduceToInt] at *) <;> omega)
        obtain ⟨⟨r1, e1⟩, ⟨r2, e2⟩, ⟨r3, e3⟩⟩ := own_sty h j
        rw [if_pos g, e1, Option.bind_some, Option.bind_some, if_pos rfl, e2, Option.bind_some, Option.bind_some, if_pos rfl, e3, Option.bind_some, Option.bind_some, if_pos rfl]
        exact ih (j + 1) (by omega) (by omega) (by omega)
      · rw [if_neg g]
        exact k74 100000 0 (by decide) (by decide) (by decide)
  unfold f_L_same f_activeCount
  rw [Option.bind_some, Option.bind_some, if_pos rfl]
  exact k15 100000 0 (by decide) (by decide) (by decide)
theorem own_div5 : ∀ k : Fin 261, (Int32.ofNat k.val / 5).toInt = (k.val / 5 : Nat) := by decide +kernel
theorem own_loop (scr : List Int32) (hs : scr.length ≤ 260) {R F : List Int32} (hR : R.length = 3) (hF : own_F F) (tot : Int32) : ∀ (f : Nat) (AC ST SA SN EX AL PR PG PO : List Int32) (n pl c0 c1 pu v : Int32), own_PS AC ST SA SN EX AL → PR.length = 32 → PG.length = 768 → PO.length = 32 → 0 ≤ v.toInt → v.toInt ≤ 53 → 53 - v.toInt < f →
    f_L_law_30 scr f R F AC ST SA SN EX AL PR PG PO tot n pl c0 pu R F AC ST SA SN EX AL PR PG PO tot n pl c1 pu (scr.length.toInt32 / 5) v = some 1 := by
  intro f
  induction f with
  | zero => intro AC ST SA SN EX AL PR PG PO n pl c0 c1 pu v h l1 l2 l3 h0 h1 h2; exfalso; omega
  | succ f ih =>
    intro AC ST SA SN EX AL PR PG PO n pl c0 c1 pu v h l1 l2 l3 h0 h1 h2
    have ed : (scr.length.toInt32 / 5).toInt = (scr.length / 5 : Nat) := own_div5 ⟨scr.length, by omega⟩
    unfold f_L_law_30
    by_cases g : v < scr.length.toInt32 / 5
    rotate_left
    · rw [if_neg g]
    have g' := ilt.mp g
    rw [ed] at g'
    have e5 : (v * 5).toInt = v.toInt * 5 := by clear ih h g ed g'; ((try simp only [ilt, ile, ieq, iadd_e, isub_e, imul_e, Int32.reduceToInt] at *) <;> omega)
    have e51 : (v * 5 + 1).toInt = v.toInt * 5 + 1 := by clear ih h g ed g' e5; ((try simp only [ilt, ile, ieq, iadd_e, isub_e, imul_e, Int32.reduceToInt] at *) <;> omega)
    have e52 : (v * 5 + 2).toInt = v.toInt * 5 + 2 := by clear ih h g ed g' e5 e51; ((try simp only [ilt, ile, ieq, iadd_e, isub_e, imul_e, Int32.reduceToInt] at *) <;> omega)
    have e53 : (v * 5 + 3).toInt = v.toInt * 5 + 3 := by clear ih h g ed g' e5 e51 e52; ((try simp only [ilt, ile, ieq, iadd_e, isub_e, imul_e, Int32.reduceToInt] at *) <;> omega)
    have e54 : (v * 5 + 4).toInt = v.toInt * 5 + 4 := by clear ih h g ed g' e5 e51 e52 e53; ((try simp only [ilt, ile, ieq, iadd_e, isub_e, imul_e, Int32.reduceToInt] at *) <;> omega)
    have ev : (v + 1).toInt = v.toInt + 1 := by clear ih h g ed g' e5 e51 e52 e53 e54; ((try simp only [ilt, ile, ieq, iadd_e, isub_e, imul_e, Int32.reduceToInt] at *) <;> omega)
    rw [if_pos g, rdg (by omega) (by omega), Option.bind_some, rdg (by omega) (by omega), Option.bind_some, rdg (by omega) (by omega), Option.bind_some, rdg (by omega) (by omega), Option.bind_some, rdg (by omega) (by omega), Option.bind_some]
    generalize gI scr (v * 5) &&& 3 = op
    generalize gI scr (v * 5 + 1) = x
    generalize gI scr (v * 5 + 2) = y
    generalize gI scr (v * 5 + 3) = z
    generalize gI scr (v * 5 + 4) = w
    obtain ⟨AC', ST', SA', SN', EX', AL', PR', PG', PO', n', pl', pu', h', m1, m2, m3, hb⟩ := own_st h hR hF tot n pl pu l1 l2 l3 op x y z w
    obtain ⟨d0, p0⟩ := hb c0
    obtain ⟨d1, p1⟩ := hb c1
    have next : ∀ c : Int32, f_L_law_150 (f_L_law_30 scr f) scr R F AC' ST' SA' SN' EX' AL' PR' PG' PO' tot n' pl' c pu' R F AC' ST' SA' SN' EX' AL' PR' PG' PO' tot n' pl' d1 pu' (scr.length.toInt32 / 5) v = some 1 := by
      intro c
      unfold f_L_law_150
      rw [own_same h' n', Option.bind_some, if_neg (by decide)]
      exact ih AC' ST' SA' SN' EX' AL' PR' PG' PO' n' pl' c d1 pu' (v + 1) h' m1 m2 m3 (by omega) (by omega) (by omega)
    rw [p0, Option.bind_some]
    show Option.bind (f_L_step R F tot AC ST SA SN EX AL PR PG PO n pl c1 pu op x y z w) _ = _
    rw [p1, Option.bind_some]
    show Option.bind (f_book R AC' ST' SA' SN' EX' AL' n' d0 x y z) _ = _
    rcases own_book h' hR n' x y z with ⟨e, en, q⟩ | ⟨id, EX1, AL1, i0, i1, iz, hc, ⟨t0, t2, a0, k1, ak⟩, q⟩
    · rw [q, Option.bind_some]
      show (if e < 0 then _ else _) = _
      rw [if_pos (by rw [ilt]; have e0 : (0 : Int32).toInt = 0 := rfl; omega)]
      exact next d0
    · rw [q, Option.bind_some]
      have e0 : (0 : Int32).toInt = 0 := rfl
      have lC := h'.lC
      have hP := own_put h' (EX' := EX1) (AL' := AL1) i0 i1 t0 t2 a0 k1 ak hc.1 hc.2.1
      have zC : gI (AC'.set id.toInt.toNat 1) id = 1 := by rw [own_gs h'.lC i0 i1 i0, if_pos rfl]
      have zT : gI (ST'.set id.toInt.toNat x) id = x := by rw [own_gs h'.lT i0 i1 i0, if_pos rfl]
      have zA : gI (SA'.set id.toInt.toNat y) id = y := by rw [own_gs h'.lA i0 i1 i0, if_pos rfl]
      have zN : gI (SN'.set id.toInt.toNat z) id = z := by rw [own_gs h'.lN i0 i1 i0, if_pos rfl]
      have sz : gI ST' id = 0 ∧ gI SA' id = 0 ∧ gI SN' id = 0 := by
        rcases h'.ok id i0 i1 with ⟨-, a, b, c⟩ | ⟨a, -⟩
        · exact ⟨a, b, c⟩
        · rw [iz] at a; exact absurd a (by decide)
      have sty : f_stayType AC' ST' id = some (-1) := by
        unfold f_stayType
        rcases own_act01 h' id with ⟨e, -⟩ | ⟨e, -, -, ia, -⟩
        · rw [e, Option.bind_some, if_pos rfl]
        · rw [iz] at ia; exact absurd ia (by decide)
      show (if id < 0 then _ else Option.bind (f_stayType AC' ST' id) _) = _
      rw [if_neg (by rw [ilt]; omega), sty, Option.bind_some, if_pos rfl]
      rcases own_cancel hP (n' + 1) id with q2 | ⟨EX2, AL2, -, -, -, hc2, q2⟩
      · exfalso
        rcases own_act01 hP id with ⟨e, k⟩ | ⟨e, -⟩
        · have := k i0 i1
          rw [zC] at this
          exact absurd this (by decide)
        · have := q2 0
          unfold f_cancel at this
          rw [e, Option.bind_some, if_neg (by decide)] at this
          obtain ⟨EX3, AL3, e3, c3⟩ := own_adj (AC := AC') hP.lT hP.lA hP.lN hP.lE hP.lL (δ := -1) i0 i1 zT zA zN t0 t2 a0 (by omega) ak
          unfold f_deactivateStay f_storeStay f_discardPlan at this
          have wl : ∀ L : List Int32, L.length = 32 → ∀ u, wrA L id u = some (L.set id.toInt.toNat u) := fun L hl u => wrA_in i0 (by omega)
          rw [e3, Option.bind_some] at this
          simp only [wl _ hP.lC, wl _ hP.lT, wl _ hP.lA, wl _ hP.lN, Option.bind_some] at this
          have t2 : (0 : Int32) = -5 := congrArg Prod.fst (Option.some.inj this)
          exact absurd t2 (by decide)
      · rw [zT, zA, zN] at hc2
        obtain ⟨b1, b2⟩ := own_cov_back h'.lE h'.lL hc hc2
        have rn := irng n'
        have nn : n' + 1 - 1 = n' := by clear ih h hb next q q2 h' hP; ((try simp only [ilt, ile, ieq, iadd_e, isub_e, imul_e, Int32.reduceToInt] at *) <;> omega)
        rw [q2, Option.bind_some]
        show (if (0 : Int32) = 0 then _ else _) = _
        rw [if_pos rfl, own_set_back h'.lC i0 i1 iz, own_set_back h'.lT i0 i1 sz.1, own_set_back h'.lA i0 i1 sz.2.1, own_set_back h'.lN i0 i1 sz.2.2, b1, b2, nn]
        exact next 0
theorem own_true (scr : List Int32) (h : scr.length ≤ 260) : f_L_law scr = some 1 := by
  have e : f_init 2 2 1 = some ([2, 2, 1], [5, 3, 1], [0, 2, 4], List.replicate 32 0, List.replicate 32 0, List.replicate 32 0, List.replicate 32 0, List.replicate 96 0, List.replicate 96 0, List.replicate 32 (-1), List.replicate 768 (-1), List.replicate 32 0, 5, 0, 0, 0, 0) := own_init 2 2 1
  have l32 : (List.replicate 32 (0 : Int32)).length = 32 := by simp
  have m32 : (List.replicate 32 (-1 : Int32)).length = 32 := by simp
  have l96 : (List.replicate 96 (0 : Int32)).length = 96 := by simp
  have l768 : (List.replicate 768 (-1 : Int32)).length = 768 := by simp
  have z : ∀ i : Int32, 0 ≤ i.toInt → i.toInt < 32 → gI (List.replicate 32 (0 : Int32)) i = 0 := fun i a b => gI_rep a b
  have hP : own_PS (List.replicate 32 0) (List.replicate 32 0) (List.replicate 32 0) (List.replicate 32 0) (List.replicate 96 0) (List.replicate 96 0) := ⟨l32, l32, l32, l32, l96, l96, fun i a b => Or.inl ⟨z i a b, z i a b, z i a b, z i a b⟩⟩
  have hF : own_F [0, 2, 4] := by
    refine ⟨rfl, fun i a b => ?_⟩
    have k : i = 0 ∨ i = 1 ∨ i = 2 := by
      simp only [ieq, Int32.reduceToInt]
      omega
    rcases k with rfl | rfl | rfl <;> decide
  unfold f_L_law
  rw [e, Option.bind_some]
  exact own_loop scr h rfl hF 5 100000 _ _ _ _ _ _ _ _ _ 0 0 0 0 0 0 hP m32 l768 l32 (by decide) (by decide) (by decide)
set_option maxRecDepth 65536 in
theorem comes_1 {Post : Tables → Env → Array Value → State → Outcome → State → Prop} (hpost : ∀ tb e args s v u, (limb_1_1.after args s (.returned v) u = true ∧ limb_1_2.after args s (.returned v) u = true ∧ True) → FrameEnd s (.returned v) u (Jvm.fieldLocs frame_1_writes args s ++ Jvm.arrayLocs frame_1_arrays args s ++ Jvm.staticLocs frame_1_statics s) 64 4800 → Post tb e args s (.returned v) u) :
    ArmFor flags0 classFile x code maxLocals ret World_1 tables_1 room_1 Calls_1 rest_1 Pre_1 Post := by
  intro l hfl _ _ p e ha hc hk s m args below hf hA hF happ hP
  obtain ⟨hcalls, hrest, hpre⟩ := hP
  obtain ⟨-, -, -, hnamed, -, -, -, hat⟩ := (Spec.applies_iff hf).mp happ
  obtain ⟨hg, hn⟩ := and_e (Cond.before_iff.mp (show (Jvm.Cond.and given_1 narrow_1).before args s = true from hpre))
  obtain ⟨h1, h2⟩ := and_e hg
  have hw := fun d (hd : d ∈ tables_1) => atoms_spec (ws := Jvm.Cond.code x code maxLocals ret :: tables_1) hat d (List.mem_cons_of_mem _ hd)
  obtain ⟨w0, rfl⟩ : ∃ w0 : Value, args = #[w0] := by
    have hs : args.size = 1 := by simpa [Cond.value, given_1] using h1
    obtain ⟨L⟩ := args
    match L, hs with
    | [w0], _ => exact ⟨w0, rfl⟩
  have hfit : Fit s := fun {y c} hc i hi => by
    obtain ⟨ha, rfl⟩ := Array.getElem?_eq_some_iff.mp hc
    have q := List.all_eq_true.mp ((Array.all_eq_true_iff_forall_mem.mp hF) _ (Array.getElem_mem ha)) i (List.mem_range.mpr hi)
    simpa [Array.getElem?_eq_getElem hi] using q
  obtain ⟨hn1, hn2⟩ := and_e hn
  obtain ⟨ad, e0⟩ := arr_v hn1
  obtain ⟨cl, A⟩ := Arr.start e0 hn1
  obtain rfl : w0 = .ref ad := Option.some.inj e0
  obtain ⟨scr, hs1, hs2, hs3⟩ := script_of hfit A e0 hn2
  have E : OEndsQ own_P 0 0 (entL [.ref 0] d_0.maxL) [] [.inr (.inl (false, scr))] (LawQ 1 26 2356) := ok_L_law (own_true scr hs2)
  have hS : SR [ad] [.ref 0] [.ref ad] := ⟨_, _, rfl, ⟨ad, rfl, rfl⟩, rfl⟩
  have hH : HR own_P s s.heap.size s.heap [ad] [.inr (.inl (false, scr))] := hr_script rfl A hs1 hs2 hs3
  have M := law_met (l := l) own_chk (fun w hw' => hw w (own_in w hw')) hm_0 E hS (Nat.le_of_ble_eq_true rfl) hH tables_1 room_1 (Nat.le_of_ble_eq_true rfl) (Nat.le_of_ble_eq_true rfl) (Nat.le_of_ble_eq_true rfl) (Nat.le_of_ble_eq_true rfl)
  obtain ⟨n, o, h1, h2, h3, L, rfl, N, hq⟩ := M p e ha hc hk s m _ below hf ((Spec.applies_iff_loose hf).mp happ).1 ⟨rfl, State.Warmed39.refl s, rfl⟩ trivial
  refine ⟨n, _, h1, h2, h3, hpost _ _ _ _ _ _ ⟨Cond.after_iff.mpr rfl, Cond.after_iff.mpr (eq_i res_at (Term.int_eval (1)) rfl), trivial⟩ ⟨hq.1, hq.2.1, (hq.2.2.sift fun y hy => Or.inr (N y hy)).mono (by decide) (by decide)⟩⟩
theorem main_1_1 : Claimed_1_1 := comes_1 fun _ _ _ _ _ _ h hF => ⟨h.1, hF⟩
theorem main_1_2 : Claimed_1_2 := comes_1 fun _ _ _ _ _ _ h hF => ⟨h.2.1, hF⟩
end Jvm.Pilot.@@N@@
namespace Jvm.Pilot.@@N@@
open Jvm Jvm.ClassFile Sem Op Lib Jvm.Free Jvm.Stand Jvm.Pilot.@@N@@.Jvm.D
/-! MADE BY PROGRAM (witnessworld.py) out of the Statement's table words and the real class files: 11 classes; the members and pool entries that the words name. The judged class is class 1, her method 1. -/
namespace start1
open Jvm.ClassFile
def u (s : String) : CpInfo := .utf8 (stringToUtf16 s)
/-- a pool by its gaps: so many unusable entries, then the entry; so many at the end -/
def gap : Nat → List CpInfo → List CpInfo
  | 0, r => r
  | n + 1, r => .unusable :: gap n r
def poolList (es : List (Nat × CpInfo)) (last : Nat) : List CpInfo := es.foldr (fun e r => gap e.1 (e.2 :: r)) (gap last [])
def pool (es : List (Nat × CpInfo)) (last : Nat) : Array CpInfo := ⟨poolList es last⟩
def fileOf (pool : Array CpInfo) (this : Nat) (attrs : Array Attribute := #[]) (ms : Array MethodInfo := #[]) (fl : Nat := 33) (sup : Nat := 0) (ifs : Array Nat := #[]) (fds : Array FieldInfo := #[]) : ClassFile where
  minorVersion := 0
  majorVersion := 65
  constantPool := pool
  accessFlags := fl
  thisClass := this
  superClass := sup
  interfaces := ifs
  fields := fds
  methods := ms
  attributes := attrs
def plain (name : String) (sup : Option ClassId) : Class where
  name := name
  kind := .ordinary
  loader := none
  accessFlags := 33
  super := sup
  interfaces := #[]
  cf := none
  fields := #[]
  methods := #[]
  instanceTypes := #[]
  staticTypes := #[]
  resolved := #[]
  callSites := []
  init := .initialized
  statics := none
  mirror := none

def pool0 : Array CpInfo := pool [(5, u "<init>"), (0, u "()V"), (1, .class_ 10), (1, u "java/lang/Object")] 113

def k0c0 : Code := { maxStack := 0, maxLocals := 1, code := object_method_1_code, exceptionTable := #[], attributes := #[] }
def k0m0 : Method := { name := "<init>", desc := "()V", sig := { parameters := [], returnType := none }, accessFlags := 1, code := some k0c0 }
/-- java/lang/Object -/
def k0 : Class := { plain "java/lang/Object" none with
  accessFlags := 33
  interfaces := #[]
  cf := some (fileOf pool0 8 #[] #[{ accessFlags := 1, nameIndex := 5, descriptorIndex := 6, attributes := #[] }] 33 0 #[] #[])
  fields := #[]
  methods := #[k0m0]
  instanceTypes := #[]
  staticTypes := #[]
  resolved := Array.replicate 124 none
  statics := none }

def pool1 : Array CpInfo := pool [(2, .class_ 4), (1, u "java/lang/Object"), (0, u "<init>"), (0, u "()V"), (0, .class_ 8), (0, u "RoomPlanner"), (0, .methodref 7 10), (0, .nameAndType 5 11), (0, u "(III)V"), (0, .methodref 13 14), (0, .class_ 15), (0, .nameAndType 16 17), (0, u "RoomPlannerL5"), (0, u "step"), (0, u "(LRoomPlanner;IIIII)V"), (0, .methodref 7 19), (0, .nameAndType 20 21), (0, u "book"), (0, u "(III)I"), (0, .methodref 7 23), (0, .nameAndType 24 25), (0, u "stayType"), (0, u "(I)I"), (0, .methodref 7 27), (0, .nameAndType 28 25), (0, u "cancel"), (0, .methodref 13 30), (0, .nameAndType 31 32), (0, u "same"), (0, u "(LRoomPlanner;LRoomPlanner;)Z"), (0, .methodref 7 34), (0, .nameAndType 35 36), (0, u "amend"), (0, u "(IIII)I"), (0, .methodref 7 38), (0, .nameAndType 39 40), (0, u "assign"), (0, u "()I"), (0, .methodref 7 42), (0, .nameAndType 43 40), (0, u "activeCount"), (0, .methodref 7 45), (0, .nameAndType 46 25), (0, u "stayArrive"), (0, .methodref 7 48), (0, .nameAndType 49 25), (0, u "stayNights"), (0, .methodref 7 51), (0, .nameAndType 52 53), (0, u "occupancy"), (0, u "(II)I"), (2, u "law"), (0, u "([I)Z")] 5

def k1m0 : Method := { name := "<init>", desc := "()V", sig := { parameters := [], returnType := none }, accessFlags := 1, code := none }
def k1c1 : Code := { maxStack := 6, maxLocals := 12, code := code, exceptionTable := #[], attributes := #[] }
def k1m1 : Method := { name := "law", desc := "([I)Z", sig := { parameters := [(.array .int)], returnType := some .boolean }, accessFlags := 9, code := some k1c1 }
def k1c2 : Code := { maxStack := 5, maxLocals := 6, code := method_3_code, exceptionTable := #[], attributes := #[] }
def k1m2 : Method := { name := "step", desc := "(LRoomPlanner;IIIII)V", sig := { parameters := [(.object "RoomPlanner"), .int, .int, .int, .int, .int], returnType := none }, accessFlags := 10, code := some k1c2 }
def k1c3 : Code := { maxStack := 4, maxLocals := 4, code := method_4_code, exceptionTable := #[], attributes := #[] }
def k1m3 : Method := { name := "same", desc := "(LRoomPlanner;LRoomPlanner;)Z", sig := { parameters := [(.object "RoomPlanner"), (.object "RoomPlanner")], returnType := some .boolean }, accessFlags := 10, code := some k1c3 }
/-- RoomPlannerL5 -/
def k1 : Class := { plain "RoomPlannerL5" (some 0) with
  accessFlags := 49
  interfaces := #[]
  cf := some (fileOf pool1 13 #[] #[{ accessFlags := 1, nameIndex := 5, descriptorIndex := 6, attributes := #[] }, { accessFlags := 9, nameIndex := 56, descriptorIndex := 57, attributes := #[] }, { accessFlags := 10, nameIndex := 16, descriptorIndex := 17, attributes := #[] }, { accessFlags := 10, nameIndex := 31, descriptorIndex := 32, attributes := #[] }] 49 2 #[] #[])
  fields := #[]
  methods := #[k1m0, k1m1, k1m2, k1m3]
  instanceTypes := #[]
  staticTypes := #[]
  resolved := Array.replicate 63 none
  statics := none }

def pool2 : Array CpInfo := pool [(1, .methodref 2 3), (0, .class_ 4), (0, .nameAndType 5 6), (0, u "java/lang/Object"), (0, u "<init>"), (0, u "()V"), (0, .fieldref 8 9), (0, .class_ 10), (0, .nameAndType 11 12), (0, u "RoomPlanner"), (0, u "roomsOfType"), (0, u "[I"), (0, .fieldref 8 14), (0, .nameAndType 15 12), (0, u "roomsAtLeast"), (0, .fieldref 8 17), (0, .nameAndType 18 12), (0, u "firstRoomOfType"), (0, .fieldref 8 20), (0, .nameAndType 21 22), (0, u "slotActive"), (0, u "[Z"), (0, .fieldref 8 24), (0, .nameAndType 25 12), (0, u "slotType"), (0, .fieldref 8 27), (0, .nameAndType 28 12), (0, u "slotArrive"), (0, .fieldref 8 30), (0, .nameAndType 31 12), (0, u "slotNights"), (0, .fieldref 8 33), (0, .nameAndType 34 12), (0, u "exactCount"), (0, .fieldref 8 36), (0, .nameAndType 37 12), (0, u "atLeastCount"), (0, .fieldref 8 39), (0, .nameAndType 40 12), (0, u "planRoom"), (0, .fieldref 8 42), (0, .nameAndType 43 12), (0, u "planGrid"), (0, .fieldref 8 45), (0, .nameAndType 46 12), (0, u "planOrder"), (0, .methodref 8 48), (0, .nameAndType 49 50), (0, u "clampRooms"), (0, u "(I)I"), (0, .methodref 8 52), (0, .nameAndType 53 6), (0, u "computeRoomTables"), (0, .methodref 8 55), (0, .nameAndType 56 6), (0, u "resetStays"), (0, .methodref 8 58), (0, .nameAndType 59 6), (0, u "resetCounts"), (0, .methodref 8 61), (0, .nameAndType 62 6), (0, u "clearPlan"), (0, .fieldref 8 64), (0, .nameAndType 65 66), (0, u "planCurrent"), (0, u "Z"), (0, .fieldref 8 68), (0, .nameAndType 69 70), (0, u "planUnplaced"), (0, u "I"), (0, .methodref 8 72), (0, .nameAndType 73 74), (0, u "requestError"), (0, u "(III)I"), (0, .fieldref 8 76), (0, .nameAndType 77 70), (0, u "activeStays"), (0, .methodref 8 79), (0, .nameAndType 80 81), (0, u "fitsWith"), (0, u "(IIII)Z"), (0, .methodref 8 83), (0, .nameAndType 84 85), (0, u "lowestInactiveSlot"), (0, u "()I"), (0, .methodref 8 87), (0, .nameAndType 88 89), (0, u "activateStay"), (0, u "(IIII)V"), (0, .methodref 8 91), (0, .nameAndType 92 6), (0, u "discardPlan"), (0, .methodref 8 94), (0, .nameAndType 95 96), (0, u "isActiveStay"), (0, u "(I)Z"), (0, .methodref 8 98), (0, .nameAndType 99 100), (0, u "adjustCoverage"), (0, u "(II)V"), (0, .methodref 8 102), (0, .nameAndType 103 89), (0, u "storeStay"), (0, .methodref 8 105), (0, .nameAndType 106 107), (0, u "deactivateStay"), (0, u "(I)V"), (0, .methodref 8 109), (0, .nameAndType 110 96), (0, u "isValidType"), (0, .methodref 8 112), (0, .nameAndType 113 96), (0, u "isValidNight"), (3, u "(II)I"), (3, .methodref 8 122), (0, .nameAndType 123 117), (0, u "exactAt"), (0, .methodref 8 125), (0, .nameAndType 126 6), (0, u "buildOrder"), (0, .fieldref 8 128), (0, .nameAndType 129 70), (0, u "planOrderLength"), (0, .methodref 8 131), (0, .nameAndType 132 96), (0, u "placeStay"), (3, .methodref 8 137), (0, .nameAndType 138 117), (0, u "gridAt"), (3, .fieldref 8 143), (0, .nameAndType 144 70), (0, u "totalRooms"), (0, .methodref 8 146), (0, .nameAndType 147 148), (0, u "isValidLength"), (0, u "(II)Z"), (0, .methodref 8 150), (0, .nameAndType 151 117), (0, u "countIndex"), (0, .methodref 8 153), (0, .nameAndType 154 117), (0, u "endOf"), (3, .methodref 8 159), (0, .nameAndType 160 117), (0, u "atLeastAt"), (3, .methodref 8 165), (0, .nameAndType 166 148), (0, u "coversNight"), (0, .methodref 8 168), (0, .nameAndType 169 74), (0, u "exclusion"), (0, .methodref 8 171), (0, .nameAndType 172 173), (0, u "nightFits"), (0, u "(III)Z"), (0, .methodref 8 175), (0, .nameAndType 176 117), (0, u "gridIndex"), (0, .methodref 8 178), (0, .nameAndType 179 107), (0, u "appendToOrder"), (0, .methodref 8 181), (0, .nameAndType 182 173), (0, u "roomIsFree"), (0, .methodref 8 184), (0, .nameAndType 185 89), (0, u "markRoom"), (0, u "NUM_TYPES"), (2, u "HORIZON"), (1, u "MAX_STAYS"), (0, u "MAX_ROOMS_PER_TYPE"), (1, u "OK"), (1, u "NONE"), (1, u "ERR_TYPE"), (0, u "ERR_RANGE"), (1, u "ERR_FULL"), (1, u "ERR_NO_ROOM"), (1, u "ERR_NO_STAY"), (1, u "MAX_ROOMS"), (1, u "(III)V"), (2, u "book"), (1, u "amend"), (0, u "(IIII)I"), (0, u "cancel"), (3, u "occupancy"), (0, u "stayType"), (0, u "stayArrive"), (0, u "stayNights"), (0, u "activeCount"), (0, u "assign")] 7

def k2c0 : Code := { maxStack := 4, maxLocals := 4, code := prog_1_method_1_code, exceptionTable := #[], attributes := #[] }
def k2m0 : Method := { name := "<init>", desc := "(III)V", sig := { parameters := [.int, .int, .int], returnType := none }, accessFlags := 1, code := some k2c0 }
def k2c1 : Code := { maxStack := 5, maxLocals := 6, code := prog_1_method_2_code, exceptionTable := #[], attributes := #[] }
def k2m1 : Method := { name := "book", desc := "(III)I", sig := { parameters := [.int, .int, .int], returnType := some .int }, accessFlags := 1, code := some k2c1 }
def k2c2 : Code := { maxStack := 5, maxLocals := 6, code := prog_1_method_3_code, exceptionTable := #[], attributes := #[] }
def k2m2 : Method := { name := "amend", desc := "(IIII)I", sig := { parameters := [.int, .int, .int, .int], returnType := some .int }, accessFlags := 1, code := some k2c2 }
def k2c3 : Code := { maxStack := 2, maxLocals := 2, code := prog_1_method_4_code, exceptionTable := #[], attributes := #[] }
def k2m3 : Method := { name := "cancel", desc := "(I)I", sig := { parameters := [.int], returnType := some .int }, accessFlags := 1, code := some k2c3 }
def k2c4 : Code := { maxStack := 3, maxLocals := 3, code := prog_1_method_8_code, exceptionTable := #[], attributes := #[] }
def k2m4 : Method := { name := "occupancy", desc := "(II)I", sig := { parameters := [.int, .int], returnType := some .int }, accessFlags := 1, code := some k2c4 }
def k2c5 : Code := { maxStack := 2, maxLocals := 2, code := prog_1_method_9_code, exceptionTable := #[], attributes := #[] }
def k2m5 : Method := { name := "stayType", desc := "(I)I", sig := { parameters := [.int], returnType := some .int }, accessFlags := 1, code := some k2c5 }
def k2c6 : Code := { maxStack := 2, maxLocals := 2, code := prog_1_method_10_code, exceptionTable := #[], attributes := #[] }
def k2m6 : Method := { name := "stayArrive", desc := "(I)I", sig := { parameters := [.int], returnType := some .int }, accessFlags := 1, code := some k2c6 }
def k2c7 : Code := { maxStack := 2, maxLocals := 2, code := prog_1_method_11_code, exceptionTable := #[], attributes := #[] }
def k2m7 : Method := { name := "stayNights", desc := "(I)I", sig := { parameters := [.int], returnType := some .int }, accessFlags := 1, code := some k2c7 }
def k2c8 : Code := { maxStack := 1, maxLocals := 1, code := prog_1_method_12_code, exceptionTable := #[], attributes := #[] }
def k2m8 : Method := { name := "activeCount", desc := "()I", sig := { parameters := [], returnType := some .int }, accessFlags := 1, code := some k2c8 }
def k2c9 : Code := { maxStack := 2, maxLocals := 5, code := prog_1_method_13_code, exceptionTable := #[], attributes := #[] }
def k2m9 : Method := { name := "assign", desc := "()I", sig := { parameters := [], returnType := some .int }, accessFlags := 1, code := some k2c9 }
def k2c10 : Code := { maxStack := 2, maxLocals := 2, code := prog_1_method_18_code, exceptionTable := #[], attributes := #[] }
def k2m10 : Method := { name := "clampRooms", desc := "(I)I", sig := { parameters := [.int], returnType := some .int }, accessFlags := 2, code := some k2c10 }
def k2c11 : Code := { maxStack := 4, maxLocals := 4, code := prog_1_method_19_code, exceptionTable := #[], attributes := #[] }
def k2m11 : Method := { name := "computeRoomTables", desc := "()V", sig := { parameters := [], returnType := none }, accessFlags := 2, code := some k2c11 }
def k2c12 : Code := { maxStack := 2, maxLocals := 2, code := prog_1_method_23_code, exceptionTable := #[], attributes := #[] }
def k2m12 : Method := { name := "isValidType", desc := "(I)Z", sig := { parameters := [.int], returnType := some .boolean }, accessFlags := 2, code := some k2c12 }
def k2c13 : Code := { maxStack := 2, maxLocals := 2, code := prog_1_method_24_code, exceptionTable := #[], attributes := #[] }
def k2m13 : Method := { name := "isValidNight", desc := "(I)Z", sig := { parameters := [.int], returnType := some .boolean }, accessFlags := 2, code := some k2c13 }
def k2c14 : Code := { maxStack := 3, maxLocals := 3, code := prog_1_method_25_code, exceptionTable := #[], attributes := #[] }
def k2m14 : Method := { name := "isValidLength", desc := "(II)Z", sig := { parameters := [.int, .int], returnType := some .boolean }, accessFlags := 2, code := some k2c14 }
def k2c15 : Code := { maxStack := 2, maxLocals := 2, code := prog_1_method_26_code, exceptionTable := #[], attributes := #[] }
def k2m15 : Method := { name := "isActiveStay", desc := "(I)Z", sig := { parameters := [.int], returnType := some .boolean }, accessFlags := 2, code := some k2c15 }
def k2c16 : Code := { maxStack := 3, maxLocals := 4, code := prog_1_method_27_code, exceptionTable := #[], attributes := #[] }
def k2m16 : Method := { name := "requestError", desc := "(III)I", sig := { parameters := [.int, .int, .int], returnType := some .int }, accessFlags := 2, code := some k2c16 }
def k2c17 : Code := { maxStack := 3, maxLocals := 2, code := prog_1_method_28_code, exceptionTable := #[], attributes := #[] }
def k2m17 : Method := { name := "resetStays", desc := "()V", sig := { parameters := [], returnType := none }, accessFlags := 2, code := some k2c17 }
def k2c18 : Code := { maxStack := 2, maxLocals := 2, code := prog_1_method_29_code, exceptionTable := #[], attributes := #[] }
def k2m18 : Method := { name := "lowestInactiveSlot", desc := "()I", sig := { parameters := [], returnType := some .int }, accessFlags := 2, code := some k2c18 }
def k2c19 : Code := { maxStack := 3, maxLocals := 5, code := prog_1_method_30_code, exceptionTable := #[], attributes := #[] }
def k2m19 : Method := { name := "storeStay", desc := "(IIII)V", sig := { parameters := [.int, .int, .int, .int], returnType := none }, accessFlags := 2, code := some k2c19 }
def k2c20 : Code := { maxStack := 5, maxLocals := 5, code := prog_1_method_31_code, exceptionTable := #[], attributes := #[] }
def k2m20 : Method := { name := "activateStay", desc := "(IIII)V", sig := { parameters := [.int, .int, .int, .int], returnType := none }, accessFlags := 2, code := some k2c20 }
def k2c21 : Code := { maxStack := 5, maxLocals := 2, code := prog_1_method_32_code, exceptionTable := #[], attributes := #[] }
def k2m21 : Method := { name := "deactivateStay", desc := "(I)V", sig := { parameters := [.int], returnType := none }, accessFlags := 2, code := some k2c21 }
def k2c22 : Code := { maxStack := 3, maxLocals := 4, code := prog_1_method_33_code, exceptionTable := #[], attributes := #[] }
def k2m22 : Method := { name := "coversNight", desc := "(II)Z", sig := { parameters := [.int, .int], returnType := some .boolean }, accessFlags := 2, code := some k2c22 }
def k2c23 : Code := { maxStack := 2, maxLocals := 4, code := prog_1_method_34_code, exceptionTable := #[], attributes := #[] }
def k2m23 : Method := { name := "endOf", desc := "(II)I", sig := { parameters := [.int, .int], returnType := some .int }, accessFlags := 2, code := some k2c23 }
def k2c24 : Code := { maxStack := 3, maxLocals := 2, code := prog_1_method_35_code, exceptionTable := #[], attributes := #[] }
def k2m24 : Method := { name := "resetCounts", desc := "()V", sig := { parameters := [], returnType := none }, accessFlags := 2, code := some k2c24 }
def k2c25 : Code := { maxStack := 2, maxLocals := 3, code := prog_1_method_36_code, exceptionTable := #[], attributes := #[] }
def k2m25 : Method := { name := "countIndex", desc := "(II)I", sig := { parameters := [.int, .int], returnType := some .int }, accessFlags := 2, code := some k2c25 }
def k2c26 : Code := { maxStack := 4, maxLocals := 3, code := prog_1_method_37_code, exceptionTable := #[], attributes := #[] }
def k2m26 : Method := { name := "exactAt", desc := "(II)I", sig := { parameters := [.int, .int], returnType := some .int }, accessFlags := 2, code := some k2c26 }
def k2c27 : Code := { maxStack := 4, maxLocals := 3, code := prog_1_method_38_code, exceptionTable := #[], attributes := #[] }
def k2m27 : Method := { name := "atLeastAt", desc := "(II)I", sig := { parameters := [.int, .int], returnType := some .int }, accessFlags := 2, code := some k2c27 }
def k2c28 : Code := { maxStack := 4, maxLocals := 8, code := prog_1_method_39_code, exceptionTable := #[], attributes := #[] }
def k2m28 : Method := { name := "adjustCoverage", desc := "(II)V", sig := { parameters := [.int, .int], returnType := none }, accessFlags := 2, code := some k2c28 }
def k2c29 : Code := { maxStack := 3, maxLocals := 4, code := prog_1_method_42_code, exceptionTable := #[], attributes := #[] }
def k2m29 : Method := { name := "exclusion", desc := "(III)I", sig := { parameters := [.int, .int, .int], returnType := some .int }, accessFlags := 2, code := some k2c29 }
def k2c30 : Code := { maxStack := 4, maxLocals := 8, code := prog_1_method_43_code, exceptionTable := #[], attributes := #[] }
def k2m30 : Method := { name := "nightFits", desc := "(III)Z", sig := { parameters := [.int, .int, .int], returnType := some .boolean }, accessFlags := 2, code := some k2c30 }
def k2c31 : Code := { maxStack := 4, maxLocals := 7, code := prog_1_method_44_code, exceptionTable := #[], attributes := #[] }
def k2m31 : Method := { name := "fitsWith", desc := "(IIII)Z", sig := { parameters := [.int, .int, .int, .int], returnType := some .boolean }, accessFlags := 2, code := some k2c31 }
def k2c32 : Code := { maxStack := 2, maxLocals := 1, code := prog_1_method_46_code, exceptionTable := #[], attributes := #[] }
def k2m32 : Method := { name := "discardPlan", desc := "()V", sig := { parameters := [], returnType := none }, accessFlags := 2, code := some k2c32 }
def k2c33 : Code := { maxStack := 3, maxLocals := 2, code := prog_1_method_47_code, exceptionTable := #[], attributes := #[] }
def k2m33 : Method := { name := "clearPlan", desc := "()V", sig := { parameters := [], returnType := none }, accessFlags := 2, code := some k2c33 }
def k2c34 : Code := { maxStack := 2, maxLocals := 3, code := prog_1_method_48_code, exceptionTable := #[], attributes := #[] }
def k2m34 : Method := { name := "gridIndex", desc := "(II)I", sig := { parameters := [.int, .int], returnType := some .int }, accessFlags := 2, code := some k2c34 }
def k2c35 : Code := { maxStack := 4, maxLocals := 3, code := prog_1_method_49_code, exceptionTable := #[], attributes := #[] }
def k2m35 : Method := { name := "gridAt", desc := "(II)I", sig := { parameters := [.int, .int], returnType := some .int }, accessFlags := 2, code := some k2c35 }
def k2c36 : Code := { maxStack := 2, maxLocals := 3, code := prog_1_method_50_code, exceptionTable := #[], attributes := #[] }
def k2m36 : Method := { name := "buildOrder", desc := "()V", sig := { parameters := [], returnType := none }, accessFlags := 2, code := some k2c36 }
def k2c37 : Code := { maxStack := 3, maxLocals := 2, code := prog_1_method_51_code, exceptionTable := #[], attributes := #[] }
def k2m37 : Method := { name := "appendToOrder", desc := "(I)V", sig := { parameters := [.int], returnType := none }, accessFlags := 2, code := some k2c37 }
def k2c38 : Code := { maxStack := 5, maxLocals := 6, code := prog_1_method_52_code, exceptionTable := #[], attributes := #[] }
def k2m38 : Method := { name := "placeStay", desc := "(I)Z", sig := { parameters := [.int], returnType := some .boolean }, accessFlags := 2, code := some k2c38 }
def k2c39 : Code := { maxStack := 3, maxLocals := 6, code := prog_1_method_53_code, exceptionTable := #[], attributes := #[] }
def k2m39 : Method := { name := "roomIsFree", desc := "(III)Z", sig := { parameters := [.int, .int, .int], returnType := some .boolean }, accessFlags := 2, code := some k2c39 }
def k2c40 : Code := { maxStack := 4, maxLocals := 7, code := prog_1_method_54_code, exceptionTable := #[], attributes := #[] }
def k2m40 : Method := { name := "markRoom", desc := "(IIII)V", sig := { parameters := [.int, .int, .int, .int], returnType := none }, accessFlags := 2, code := some k2c40 }
/-- RoomPlanner -/
def k2 : Class := { plain "RoomPlanner" (some 0) with
  accessFlags := 49
  interfaces := #[]
  cf := some (fileOf pool2 8 #[] #[{ accessFlags := 1, nameIndex := 5, descriptorIndex := 209, attributes := #[] }, { accessFlags := 1, nameIndex := 212, descriptorIndex := 74, attributes := #[] }, { accessFlags := 1, nameIndex := 214, descriptorIndex := 215, attributes := #[] }, { accessFlags := 1, nameIndex := 216, descriptorIndex := 50, attributes := #[] }, { accessFlags := 1, nameIndex := 220, descriptorIndex := 117, attributes := #[] }, { accessFlags := 1, nameIndex := 221, descriptorIndex := 50, attributes := #[] }, { accessFlags := 1, nameIndex := 222, descriptorIndex := 50, attributes := #[] }, { accessFlags := 1, nameIndex := 223, descriptorIndex := 50, attributes := #[] }, { accessFlags := 1, nameIndex := 224, descriptorIndex := 85, attributes := #[] }, { accessFlags := 1, nameIndex := 225, descriptorIndex := 85, attributes := #[] }, { accessFlags := 2, nameIndex := 49, descriptorIndex := 50, attributes := #[] }, { accessFlags := 2, nameIndex := 53, descriptorIndex := 6, attributes := #[] }, { accessFlags := 2, nameIndex := 110, descriptorIndex := 96, attributes := #[] }, { accessFlags := 2, nameIndex := 113, descriptorIndex := 96, attributes := #[] }, { accessFlags := 2, nameIndex := 147, descriptorIndex := 148, attributes := #[] }, { accessFlags := 2, nameIndex := 95, descriptorIndex := 96, attributes := #[] }, { accessFlags := 2, nameIndex := 73, descriptorIndex := 74, attributes := #[] }, { accessFlags := 2, nameIndex := 56, descriptorIndex := 6, attributes := #[] }, { accessFlags := 2, nameIndex := 84, descriptorIndex := 85, attributes := #[] }, { accessFlags := 2, nameIndex := 103, descriptorIndex := 89, attributes := #[] }, { accessFlags := 2, nameIndex := 88, descriptorIndex := 89, attributes := #[] }, { accessFlags := 2, nameIndex := 106, descriptorIndex := 107, attributes := #[] }, { accessFlags := 2, nameIndex := 166, descriptorIndex := 148, attributes := #[] }, { accessFlags := 2, nameIndex := 154, descriptorIndex := 117, attributes := #[] }, { accessFlags := 2, nameIndex := 59, descriptorIndex := 6, attributes := #[] }, { accessFlags := 2, nameIndex := 151, descriptorIndex := 117, attributes := #[] }, { accessFlags := 2, nameIndex := 123, descriptorIndex := 117, attributes := #[] }, { accessFlags := 2, nameIndex := 160, descriptorIndex := 117, attributes := #[] }, { accessFlags := 2, nameIndex := 99, descriptorIndex := 100, attributes := #[] }, { accessFlags := 2, nameIndex := 169, descriptorIndex := 74, attributes := #[] }, { accessFlags := 2, nameIndex := 172, descriptorIndex := 173, attributes := #[] }, { accessFlags := 2, nameIndex := 80, descriptorIndex := 81, attributes := #[] }, { accessFlags := 2, nameIndex := 92, descriptorIndex := 6, attributes := #[] }, { accessFlags := 2, nameIndex := 62, descriptorIndex := 6, attributes := #[] }, { accessFlags := 2, nameIndex := 176, descriptorIndex := 117, attributes := #[] }, { accessFlags := 2, nameIndex := 138, descriptorIndex := 117, attributes := #[] }, { accessFlags := 2, nameIndex := 126, descriptorIndex := 6, attributes := #[] }, { accessFlags := 2, nameIndex := 179, descriptorIndex := 107, attributes := #[] }, { accessFlags := 2, nameIndex := 132, descriptorIndex := 96, attributes := #[] }, { accessFlags := 2, nameIndex := 182, descriptorIndex := 173, attributes := #[] }, { accessFlags := 2, nameIndex := 185, descriptorIndex := 89, attributes := #[] }] 49 2 #[] #[{ accessFlags := 25, nameIndex := 186, descriptorIndex := 70, attributes := #[] }, { accessFlags := 25, nameIndex := 189, descriptorIndex := 70, attributes := #[] }, { accessFlags := 25, nameIndex := 191, descriptorIndex := 70, attributes := #[] }, { accessFlags := 25, nameIndex := 192, descriptorIndex := 70, attributes := #[] }, { accessFlags := 25, nameIndex := 194, descriptorIndex := 70, attributes := #[] }, { accessFlags := 25, nameIndex := 196, descriptorIndex := 70, attributes := #[] }, { accessFlags := 25, nameIndex := 198, descriptorIndex := 70, attributes := #[] }, { accessFlags := 25, nameIndex := 199, descriptorIndex := 70, attributes := #[] }, { accessFlags := 25, nameIndex := 201, descriptorIndex := 70, attributes := #[] }, { accessFlags := 25, nameIndex := 203, descriptorIndex := 70, attributes := #[] }, { accessFlags := 25, nameIndex := 205, descriptorIndex := 70, attributes := #[] }, { accessFlags := 26, nameIndex := 207, descriptorIndex := 70, attributes := #[] }, { accessFlags := 18, nameIndex := 11, descriptorIndex := 12, attributes := #[] }, { accessFlags := 18, nameIndex := 15, descriptorIndex := 12, attributes := #[] }, { accessFlags := 18, nameIndex := 18, descriptorIndex := 12, attributes := #[] }, { accessFlags := 2, nameIndex := 144, descriptorIndex := 70, attributes := #[] }, { accessFlags := 18, nameIndex := 21, descriptorIndex := 22, attributes := #[] }, { accessFlags := 18, nameIndex := 25, descriptorIndex := 12, attributes := #[] }, { accessFlags := 18, nameIndex := 28, descriptorIndex := 12, attributes := #[] }, { accessFlags := 18, nameIndex := 31, descriptorIndex := 12, attributes := #[] }, { accessFlags := 2, nameIndex := 77, descriptorIndex := 70, attributes := #[] }, { accessFlags := 18, nameIndex := 34, descriptorIndex := 12, attributes := #[] }, { accessFlags := 18, nameIndex := 37, descriptorIndex := 12, attributes := #[] }, { accessFlags := 2, nameIndex := 65, descriptorIndex := 66, attributes := #[] }, { accessFlags := 18, nameIndex := 40, descriptorIndex := 12, attributes := #[] }, { accessFlags := 18, nameIndex := 43, descriptorIndex := 12, attributes := #[] }, { accessFlags := 18, nameIndex := 46, descriptorIndex := 12, attributes := #[] }, { accessFlags := 2, nameIndex := 129, descriptorIndex := 70, attributes := #[] }, { accessFlags := 2, nameIndex := 69, descriptorIndex := 70, attributes := #[] }])
  fields := #[{ name := "NUM_TYPES", type := .int, accessFlags := 25, slot := 0, constantValue := 0 }, { name := "HORIZON", type := .int, accessFlags := 25, slot := 1, constantValue := 0 }, { name := "MAX_STAYS", type := .int, accessFlags := 25, slot := 2, constantValue := 0 }, { name := "MAX_ROOMS_PER_TYPE", type := .int, accessFlags := 25, slot := 3, constantValue := 0 }, { name := "OK", type := .int, accessFlags := 25, slot := 4, constantValue := 0 }, { name := "NONE", type := .int, accessFlags := 25, slot := 5, constantValue := 0 }, { name := "ERR_TYPE", type := .int, accessFlags := 25, slot := 6, constantValue := 0 }, { name := "ERR_RANGE", type := .int, accessFlags := 25, slot := 7, constantValue := 0 }, { name := "ERR_FULL", type := .int, accessFlags := 25, slot := 8, constantValue := 0 }, { name := "ERR_NO_ROOM", type := .int, accessFlags := 25, slot := 9, constantValue := 0 }, { name := "ERR_NO_STAY", type := .int, accessFlags := 25, slot := 10, constantValue := 0 }, { name := "MAX_ROOMS", type := .int, accessFlags := 26, slot := 11, constantValue := 0 }, { name := "roomsOfType", type := (.array .int), accessFlags := 18, slot := 0, constantValue := 0 }, { name := "roomsAtLeast", type := (.array .int), accessFlags := 18, slot := 1, constantValue := 0 }, { name := "firstRoomOfType", type := (.array .int), accessFlags := 18, slot := 2, constantValue := 0 }, { name := "totalRooms", type := .int, accessFlags := 2, slot := 3, constantValue := 0 }, { name := "slotActive", type := (.array .boolean), accessFlags := 18, slot := 4, constantValue := 0 }, { name := "slotType", type := (.array .int), accessFlags := 18, slot := 5, constantValue := 0 }, { name := "slotArrive", type := (.array .int), accessFlags := 18, slot := 6, constantValue := 0 }, { name := "slotNights", type := (.array .int), accessFlags := 18, slot := 7, constantValue := 0 }, { name := "activeStays", type := .int, accessFlags := 2, slot := 8, constantValue := 0 }, { name := "exactCount", type := (.array .int), accessFlags := 18, slot := 9, constantValue := 0 }, { name := "atLeastCount", type := (.array .int), accessFlags := 18, slot := 10, constantValue := 0 }, { name := "planCurrent", type := .boolean, accessFlags := 2, slot := 11, constantValue := 0 }, { name := "planRoom", type := (.array .int), accessFlags := 18, slot := 12, constantValue := 0 }, { name := "planGrid", type := (.array .int), accessFlags := 18, slot := 13, constantValue := 0 }, { name := "planOrder", type := (.array .int), accessFlags := 18, slot := 14, constantValue := 0 }, { name := "planOrderLength", type := .int, accessFlags := 2, slot := 15, constantValue := 0 }, { name := "planUnplaced", type := .int, accessFlags := 2, slot := 16, constantValue := 0 }]
  methods := #[k2m0, k2m1, k2m2, k2m3, k2m4, k2m5, k2m6, k2m7, k2m8, k2m9, k2m10, k2m11, k2m12, k2m13, k2m14, k2m15, k2m16, k2m17, k2m18, k2m19, k2m20, k2m21, k2m22, k2m23, k2m24, k2m25, k2m26, k2m27, k2m28, k2m29, k2m30, k2m31, k2m32, k2m33, k2m34, k2m35, k2m36, k2m37, k2m38, k2m39, k2m40]
  instanceTypes := #[(.array .int), (.array .int), (.array .int), .int, (.array .boolean), (.array .int), (.array .int), (.array .int), .int, (.array .int), (.array .int), .boolean, (.array .int), (.array .int), (.array .int), .int, .int]
  staticTypes := #[.int, .int, .int, .int, .int, .int, .int, .int, .int, .int, .int, .int]
  resolved := Array.replicate 233 none
  statics := none }

def pool3 : Array CpInfo := pool [(1, u "java/lang/Cloneable"), (0, .class_ 1), (0, u "java/lang/Object"), (0, .class_ 3)] 3

/-- java/lang/Cloneable -/
def k3 : Class := { plain "java/lang/Cloneable" (some 0) with
  accessFlags := 1537
  interfaces := #[]
  cf := some (fileOf pool3 2 #[] #[] 1537 4 #[] #[])
  fields := #[]
  methods := #[]
  instanceTypes := #[]
  staticTypes := #[]
  resolved := Array.replicate 8 none
  statics := none }

def pool4 : Array CpInfo := pool [(1, u "java/io/Serializable"), (0, .class_ 1), (0, u "java/lang/Object"), (0, .class_ 3)] 3

/-- java/io/Serializable -/
def k4 : Class := { plain "java/io/Serializable" (some 0) with
  accessFlags := 1537
  interfaces := #[]
  cf := some (fileOf pool4 2 #[] #[] 1537 4 #[] #[])
  fields := #[]
  methods := #[]
  instanceTypes := #[]
  staticTypes := #[]
  resolved := Array.replicate 8 none
  statics := none }

/-- the primitive boolean -/
def k5 : Class := { plain "boolean" none with kind := .primitive 'Z', accessFlags := 0x411 }
/-- [Z -/
def k6 : Class := { plain "[Z" (some 0) with kind := .array 5 .boolean, interfaces := #[3, 4], accessFlags := 1041 }

/-- the primitive byte -/
def k7 : Class := { plain "byte" none with kind := .primitive 'B', accessFlags := 0x411 }
/-- [B -/
def k8 : Class := { plain "[B" (some 0) with kind := .array 7 .byte, interfaces := #[3, 4], accessFlags := 1041 }

/-- the primitive int -/
def k9 : Class := { plain "int" none with kind := .primitive 'I', accessFlags := 0x411 }
/-- [I -/
def k10 : Class := { plain "[I" (some 0) with kind := .array 9 .int, interfaces := #[3, 4], accessFlags := 1041 }

def heap : Heap := #[{ cls := 10, slots := #[.int 1, .int 2, .int 3], vm := .none }]
def classes : Array Class := #[k0, k1, k2, k3, k4, k5, k6, k7, k8, k9, k10]
def interned : List (Array UInt16 × Addr) := []
def slotsUsed : Nat := 3
def theMethod : MethodId := ⟨1, 1⟩
def args0 : Array Value := #[.ref 0]
def aboutOver (below : List Frame) : State where
  vm := { classes := classes, interned := interned.toArray }
  heap := heap
  slotsUsed := slotsUsed
  threads := #[{ frames := .invoking theMethod args0 :: below }]
def below0 : List Frame := [.native { method := ⟨0, 0⟩, args := #[] }]
def about1 : State := aboutOver below0
def p0 : Program := .bare "" "" ""
def e0 : Env := launch0.env 0 0 0
theorem w_frames : about1.frames = Frame.invoking theMethod args0 :: below0 := rfl
set_option maxRecDepth 65536 in
theorem w_args : argsFit about1.vm theMethod args0 = true := by decide +kernel
set_option maxRecDepth 65536 in
theorem w_heap : heapFits about1 = true := by decide +kernel
set_option maxRecDepth 65536 in
theorem w_runnable : about1.curStatus? = some .runnable := by decide +kernel
set_option maxRecDepth 65536 in
theorem w_alone : about1.alone = true := by decide +kernel
set_option maxRecDepth 65536 in
theorem w_named : about1.methodNamed? x = some theMethod := by decide +kernel
set_option maxRecDepth 65536 in
theorem w_hears : about1.hears theMethod below0 = true := by decide +kernel
set_option maxRecDepth 65536 in
theorem w_ripe : about1.ripe theMethod args0 below0 = true := by decide +kernel
theorem w_running : about1.status = .running := rfl
set_option maxRecDepth 65536 in
theorem w_room : about1.hasRoom e0.platform room_1 = true :=
  launch0.hasRoom_least _ room_1 (by decide +kernel) (by decide +kernel) (by decide +kernel) (by decide +kernel) (by decide +kernel) (by decide +kernel)
theorem allAtoms_all (ts : List Jvm.Cond) (a : Array Jvm.Value) (st : Jvm.State) : (allAtoms ts).before a st = ts.all (fun c => c.before a st) := by
  induction ts with
  | nil => rfl
  | cons c t ih =>
    show (Jvm.Cond.and c (allAtoms t)).before a st = _
    rw [Jvm.Cond.before_and, ih, List.all_cons]
def words1 : List Jvm.Cond := Jvm.Cond.code x code maxLocals ret :: tables_1
/-- a 'code' word, met by the world's own term for the bytes: nothing is compared byte by byte -/
theorem code_word {y : MethodName} {bytes : ByteArray} {mx : Nat} {rt : Option FieldType} {a : Array Value} {s : State} {m : MethodId} {meth : Method} {c : Code} (h1 : s.methodNamed? y = some m) (h2 : s.vm.method? m = some meth) (h3 : meth.code = some c) (h4 : c.code = bytes)
    (h5 : (c.maxLocals == mx && c.exceptionTable.isEmpty && decide (c.maxStack ≤ mostOperands) && decide (meth.sig.returnType = rt) && !meth.locks && decide (parseMethodDescriptor y.desc = some meth.sig)) = true) : (Jvm.Cond.code y bytes mx rt).before a s = true := by
  simp only [Bool.and_eq_true, beq_iff_eq, Bool.not_eq_true', decide_eq_true_eq] at h5
  obtain ⟨⟨⟨⟨⟨g1, g2⟩, g3⟩, g4⟩, g5⟩, g6⟩ := h5
  simp [Cond.before, Cond.holds, Cond.value, h1, h2, h3, h4, g1, g2, g3, g4, g5, g6]
def isCode : Jvm.Cond → Bool
  | .code _ _ _ _ => true
  | _ => false
theorem all_split {L : List Jvm.Cond} {P : Jvm.Cond → Bool} (h1 : L.all (fun c => isCode c || P c) = true) (h2 : ∀ c ∈ L.filter isCode, P c = true) : L.all P = true := by
  refine List.all_eq_true.mpr fun c hc => ?_
  have h := List.all_eq_true.mp h1 c hc
  rcases Bool.eq_false_or_eq_true (isCode c) with hi | hi
  · exact h2 c (List.mem_filter.mpr ⟨hc, hi⟩)
  · simpa [hi] using h
set_option maxRecDepth 65536 in
theorem w_c0 : (Jvm.Cond.code x code maxLocals ret).before args0 about1 = true := code_word (m := ⟨1, 1⟩) (meth := k1m1) (c := k1c1) (by decide +kernel) rfl rfl rfl (by decide +kernel)
set_option maxRecDepth 65536 in
theorem w_c1 : (Jvm.Cond.code ({ cls := "RoomPlanner", name := "<init>", desc := "(III)V" } : Jvm.MethodName) prog_1_method_1_code (4 : Nat) (Option.none : Option Jvm.ClassFile.FieldType)).before args0 about1 = true := code_word (m := ⟨2, 0⟩) (meth := k2m0) (c := k2c0) (by decide +kernel) rfl rfl rfl (by decide +kernel)
set_option maxRecDepth 65536 in
theorem w_c2 : (Jvm.Cond.code ({ cls := "java/lang/Object", name := "<init>", desc := "()V" } : Jvm.MethodName) object_method_1_code (1 : Nat) (Option.none : Option Jvm.ClassFile.FieldType)).before args0 about1 = true := code_word (m := ⟨0, 0⟩) (meth := k0m0) (c := k0c0) (by decide +kernel) rfl rfl rfl (by decide +kernel)
set_option maxRecDepth 65536 in
theorem w_c3 : (Jvm.Cond.code ({ cls := "RoomPlanner", name := "clampRooms", desc := "(I)I" } : Jvm.MethodName) prog_1_method_18_code (2 : Nat) (Option.some Jvm.ClassFile.FieldType.int)).before args0 about1 = true := code_word (m := ⟨2, 10⟩) (meth := k2m10) (c := k2c10) (by decide +kernel) rfl rfl rfl (by decide +kernel)
set_option maxRecDepth 65536 in
theorem w_c4 : (Jvm.Cond.code ({ cls := "RoomPlanner", name := "computeRoomTables", desc := "()V" } : Jvm.MethodName) prog_1_method_19_code (4 : Nat) (Option.none : Option Jvm.ClassFile.FieldType)).before args0 about1 = true := code_word (m := ⟨2, 11⟩) (meth := k2m11) (c := k2c11) (by decide +kernel) rfl rfl rfl (by decide +kernel)
set_option maxRecDepth 65536 in
theorem w_c5 : (Jvm.Cond.code ({ cls := "RoomPlanner", name := "resetStays", desc := "()V" } : Jvm.MethodName) prog_1_method_28_code (2 : Nat) (Option.none : Option Jvm.ClassFile.FieldType)).before args0 about1 = true := code_word (m := ⟨2, 17⟩) (meth := k2m17) (c := k2c17) (by decide +kernel) rfl rfl rfl (by decide +kernel)
set_option maxRecDepth 65536 in
theorem w_c6 : (Jvm.Cond.code ({ cls := "RoomPlanner", name := "resetCounts", desc := "()V" } : Jvm.MethodName) prog_1_method_35_code (2 : Nat) (Option.none : Option Jvm.ClassFile.FieldType)).before args0 about1 = true := code_word (m := ⟨2, 24⟩) (meth := k2m24) (c := k2c24) (by decide +kernel) rfl rfl rfl (by decide +kernel)
set_option maxRecDepth 65536 in
theorem w_c7 : (Jvm.Cond.code ({ cls := "RoomPlanner", name := "clearPlan", desc := "()V" } : Jvm.MethodName) prog_1_method_47_code (2 : Nat) (Option.none : Option Jvm.ClassFile.FieldType)).before args0 about1 = true := code_word (m := ⟨2, 33⟩) (meth := k2m33) (c := k2c33) (by decide +kernel) rfl rfl rfl (by decide +kernel)
set_option maxRecDepth 65536 in
theorem w_c8 : (Jvm.Cond.code ({ cls := "RoomPlannerL5", name := "step", desc := "(LRoomPlanner;IIIII)V" } : Jvm.MethodName) method_3_code (6 : Nat) (Option.none : Option Jvm.ClassFile.FieldType)).before args0 about1 = true := code_word (m := ⟨1, 2⟩) (meth := k1m2) (c := k1c2) (by decide +kernel) rfl rfl rfl (by decide +kernel)
set_option maxRecDepth 65536 in
theorem w_c9 : (Jvm.Cond.code ({ cls := "RoomPlanner", name := "assign", desc := "()I" } : Jvm.MethodName) prog_1_method_13_code (5 : Nat) (Option.some Jvm.ClassFile.FieldType.int)).before args0 about1 = true := code_word (m := ⟨2, 9⟩) (meth := k2m9) (c := k2c9) (by decide +kernel) rfl rfl rfl (by decide +kernel)
set_option maxRecDepth 65536 in
theorem w_c10 : (Jvm.Cond.code ({ cls := "RoomPlanner", name := "discardPlan", desc := "()V" } : Jvm.MethodName) prog_1_method_46_code (1 : Nat) (Option.none : Option Jvm.ClassFile.FieldType)).before args0 about1 = true := code_word (m := ⟨2, 32⟩) (meth := k2m32) (c := k2c32) (by decide +kernel) rfl rfl rfl (by decide +kernel)
set_option maxRecDepth 65536 in
theorem w_c11 : (Jvm.Cond.code ({ cls := "RoomPlanner", name := "buildOrder", desc := "()V" } : Jvm.MethodName) prog_1_method_50_code (3 : Nat) (Option.none : Option Jvm.ClassFile.FieldType)).before args0 about1 = true := code_word (m := ⟨2, 36⟩) (meth := k2m36) (c := k2c36) (by decide +kernel) rfl rfl rfl (by decide +kernel)
set_option maxRecDepth 65536 in
theorem w_c12 : (Jvm.Cond.code ({ cls := "RoomPlanner", name := "book", desc := "(III)I" } : Jvm.MethodName) prog_1_method_2_code (6 : Nat) (Option.some Jvm.ClassFile.FieldType.int)).before args0 about1 = true := code_word (m := ⟨2, 1⟩) (meth := k2m1) (c := k2c1) (by decide +kernel) rfl rfl rfl (by decide +kernel)
set_option maxRecDepth 65536 in
theorem w_c13 : (Jvm.Cond.code ({ cls := "RoomPlanner", name := "requestError", desc := "(III)I" } : Jvm.MethodName) prog_1_method_27_code (4 : Nat) (Option.some Jvm.ClassFile.FieldType.int)).before args0 about1 = true := code_word (m := ⟨2, 16⟩) (meth := k2m16) (c := k2c16) (by decide +kernel) rfl rfl rfl (by decide +kernel)
set_option maxRecDepth 65536 in
theorem w_c14 : (Jvm.Cond.code ({ cls := "RoomPlanner", name := "isValidType", desc := "(I)Z" } : Jvm.MethodName) prog_1_method_23_code (2 : Nat) (Option.some Jvm.ClassFile.FieldType.boolean)).before args0 about1 = true := code_word (m := ⟨2, 12⟩) (meth := k2m12) (c := k2c12) (by decide +kernel) rfl rfl rfl (by decide +kernel)
set_option maxRecDepth 65536 in
theorem w_c15 : (Jvm.Cond.code ({ cls := "RoomPlanner", name := "isValidNight", desc := "(I)Z" } : Jvm.MethodName) prog_1_method_24_code (2 : Nat) (Option.some Jvm.ClassFile.FieldType.boolean)).before args0 about1 = true := code_word (m := ⟨2, 13⟩) (meth := k2m13) (c := k2c13) (by decide +kernel) rfl rfl rfl (by decide +kernel)
set_option maxRecDepth 65536 in
theorem w_c16 : (Jvm.Cond.code ({ cls := "RoomPlanner", name := "isValidLength", desc := "(II)Z" } : Jvm.MethodName) prog_1_method_25_code (3 : Nat) (Option.some Jvm.ClassFile.FieldType.boolean)).before args0 about1 = true := code_word (m := ⟨2, 14⟩) (meth := k2m14) (c := k2c14) (by decide +kernel) rfl rfl rfl (by decide +kernel)
set_option maxRecDepth 65536 in
theorem w_c17 : (Jvm.Cond.code ({ cls := "RoomPlannerL5", name := "same", desc := "(LRoomPlanner;LRoomPlanner;)Z" } : Jvm.MethodName) method_4_code (4 : Nat) (Option.some Jvm.ClassFile.FieldType.boolean)).before args0 about1 = true := code_word (m := ⟨1, 3⟩) (meth := k1m3) (c := k1c3) (by decide +kernel) rfl rfl rfl (by decide +kernel)
set_option maxRecDepth 65536 in
theorem w_c18 : (Jvm.Cond.code ({ cls := "RoomPlanner", name := "activeCount", desc := "()I" } : Jvm.MethodName) prog_1_method_12_code (1 : Nat) (Option.some Jvm.ClassFile.FieldType.int)).before args0 about1 = true := code_word (m := ⟨2, 8⟩) (meth := k2m8) (c := k2c8) (by decide +kernel) rfl rfl rfl (by decide +kernel)
set_option maxRecDepth 65536 in
theorem w_c19 : (Jvm.Cond.code ({ cls := "RoomPlanner", name := "stayType", desc := "(I)I" } : Jvm.MethodName) prog_1_method_9_code (2 : Nat) (Option.some Jvm.ClassFile.FieldType.int)).before args0 about1 = true := code_word (m := ⟨2, 5⟩) (meth := k2m5) (c := k2c5) (by decide +kernel) rfl rfl rfl (by decide +kernel)
set_option maxRecDepth 65536 in
theorem w_c20 : (Jvm.Cond.code ({ cls := "RoomPlanner", name := "isActiveStay", desc := "(I)Z" } : Jvm.MethodName) prog_1_method_26_code (2 : Nat) (Option.some Jvm.ClassFile.FieldType.boolean)).before args0 about1 = true := code_word (m := ⟨2, 15⟩) (meth := k2m15) (c := k2c15) (by decide +kernel) rfl rfl rfl (by decide +kernel)
set_option maxRecDepth 65536 in
theorem w_c21 : (Jvm.Cond.code ({ cls := "RoomPlanner", name := "stayArrive", desc := "(I)I" } : Jvm.MethodName) prog_1_method_10_code (2 : Nat) (Option.some Jvm.ClassFile.FieldType.int)).before args0 about1 = true := code_word (m := ⟨2, 6⟩) (meth := k2m6) (c := k2c6) (by decide +kernel) rfl rfl rfl (by decide +kernel)
set_option maxRecDepth 65536 in
theorem w_c22 : (Jvm.Cond.code ({ cls := "RoomPlanner", name := "stayNights", desc := "(I)I" } : Jvm.MethodName) prog_1_method_11_code (2 : Nat) (Option.some Jvm.ClassFile.FieldType.int)).before args0 about1 = true := code_word (m := ⟨2, 7⟩) (meth := k2m7) (c := k2c7) (by decide +kernel) rfl rfl rfl (by decide +kernel)
set_option maxRecDepth 65536 in
theorem w_c23 : (Jvm.Cond.code ({ cls := "RoomPlanner", name := "occupancy", desc := "(II)I" } : Jvm.MethodName) prog_1_method_8_code (3 : Nat) (Option.some Jvm.ClassFile.FieldType.int)).before args0 about1 = true := code_word (m := ⟨2, 4⟩) (meth := k2m4) (c := k2c4) (by decide +kernel) rfl rfl rfl (by decide +kernel)
set_option maxRecDepth 65536 in
theorem w_c24 : (Jvm.Cond.code ({ cls := "RoomPlanner", name := "exactAt", desc := "(II)I" } : Jvm.MethodName) prog_1_method_37_code (3 : Nat) (Option.some Jvm.ClassFile.FieldType.int)).before args0 about1 = true := code_word (m := ⟨2, 26⟩) (meth := k2m26) (c := k2c26) (by decide +kernel) rfl rfl rfl (by decide +kernel)
set_option maxRecDepth 65536 in
theorem w_c25 : (Jvm.Cond.code ({ cls := "RoomPlanner", name := "countIndex", desc := "(II)I" } : Jvm.MethodName) prog_1_method_36_code (3 : Nat) (Option.some Jvm.ClassFile.FieldType.int)).before args0 about1 = true := code_word (m := ⟨2, 25⟩) (meth := k2m25) (c := k2c25) (by decide +kernel) rfl rfl rfl (by decide +kernel)
set_option maxRecDepth 65536 in
theorem w_c26 : (Jvm.Cond.code ({ cls := "RoomPlanner", name := "fitsWith", desc := "(IIII)Z" } : Jvm.MethodName) prog_1_method_44_code (7 : Nat) (Option.some Jvm.ClassFile.FieldType.boolean)).before args0 about1 = true := code_word (m := ⟨2, 31⟩) (meth := k2m31) (c := k2c31) (by decide +kernel) rfl rfl rfl (by decide +kernel)
set_option maxRecDepth 65536 in
theorem w_c27 : (Jvm.Cond.code ({ cls := "RoomPlanner", name := "endOf", desc := "(II)I" } : Jvm.MethodName) prog_1_method_34_code (4 : Nat) (Option.some Jvm.ClassFile.FieldType.int)).before args0 about1 = true := code_word (m := ⟨2, 23⟩) (meth := k2m23) (c := k2c23) (by decide +kernel) rfl rfl rfl (by decide +kernel)
set_option maxRecDepth 65536 in
theorem w_c28 : (Jvm.Cond.code ({ cls := "RoomPlanner", name := "nightFits", desc := "(III)Z" } : Jvm.MethodName) prog_1_method_43_code (8 : Nat) (Option.some Jvm.ClassFile.FieldType.boolean)).before args0 about1 = true := code_word (m := ⟨2, 30⟩) (meth := k2m30) (c := k2c30) (by decide +kernel) rfl rfl rfl (by decide +kernel)
set_option maxRecDepth 65536 in
theorem w_c29 : (Jvm.Cond.code ({ cls := "RoomPlanner", name := "atLeastAt", desc := "(II)I" } : Jvm.MethodName) prog_1_method_38_code (3 : Nat) (Option.some Jvm.ClassFile.FieldType.int)).before args0 about1 = true := code_word (m := ⟨2, 27⟩) (meth := k2m27) (c := k2c27) (by decide +kernel) rfl rfl rfl (by decide +kernel)
set_option maxRecDepth 65536 in
theorem w_c30 : (Jvm.Cond.code ({ cls := "RoomPlanner", name := "exclusion", desc := "(III)I" } : Jvm.MethodName) prog_1_method_42_code (4 : Nat) (Option.some Jvm.ClassFile.FieldType.int)).before args0 about1 = true := code_word (m := ⟨2, 29⟩) (meth := k2m29) (c := k2c29) (by decide +kernel) rfl rfl rfl (by decide +kernel)
set_option maxRecDepth 65536 in
theorem w_c31 : (Jvm.Cond.code ({ cls := "RoomPlanner", name := "lowestInactiveSlot", desc := "()I" } : Jvm.MethodName) prog_1_method_29_code (2 : Nat) (Option.some Jvm.ClassFile.FieldType.int)).before args0 about1 = true := code_word (m := ⟨2, 18⟩) (meth := k2m18) (c := k2c18) (by decide +kernel) rfl rfl rfl (by decide +kernel)
set_option maxRecDepth 65536 in
theorem w_c32 : (Jvm.Cond.code ({ cls := "RoomPlanner", name := "activateStay", desc := "(IIII)V" } : Jvm.MethodName) prog_1_method_31_code (5 : Nat) (Option.none : Option Jvm.ClassFile.FieldType)).before args0 about1 = true := code_word (m := ⟨2, 20⟩) (meth := k2m20) (c := k2c20) (by decide +kernel) rfl rfl rfl (by decide +kernel)
set_option maxRecDepth 65536 in
theorem w_c33 : (Jvm.Cond.code ({ cls := "RoomPlanner", name := "storeStay", desc := "(IIII)V" } : Jvm.MethodName) prog_1_method_30_code (5 : Nat) (Option.none : Option Jvm.ClassFile.FieldType)).before args0 about1 = true := code_word (m := ⟨2, 19⟩) (meth := k2m19) (c := k2c19) (by decide +kernel) rfl rfl rfl (by decide +kernel)
set_option maxRecDepth 65536 in
theorem w_c34 : (Jvm.Cond.code ({ cls := "RoomPlanner", name := "adjustCoverage", desc := "(II)V" } : Jvm.MethodName) prog_1_method_39_code (8 : Nat) (Option.none : Option Jvm.ClassFile.FieldType)).before args0 about1 = true := code_word (m := ⟨2, 28⟩) (meth := k2m28) (c := k2c28) (by decide +kernel) rfl rfl rfl (by decide +kernel)
set_option maxRecDepth 65536 in
theorem w_c35 : (Jvm.Cond.code ({ cls := "RoomPlanner", name := "cancel", desc := "(I)I" } : Jvm.MethodName) prog_1_method_4_code (2 : Nat) (Option.some Jvm.ClassFile.FieldType.int)).before args0 about1 = true := code_word (m := ⟨2, 3⟩) (meth := k2m3) (c := k2c3) (by decide +kernel) rfl rfl rfl (by decide +kernel)
set_option maxRecDepth 65536 in
theorem w_c36 : (Jvm.Cond.code ({ cls := "RoomPlanner", name := "deactivateStay", desc := "(I)V" } : Jvm.MethodName) prog_1_method_32_code (2 : Nat) (Option.none : Option Jvm.ClassFile.FieldType)).before args0 about1 = true := code_word (m := ⟨2, 21⟩) (meth := k2m21) (c := k2c21) (by decide +kernel) rfl rfl rfl (by decide +kernel)
set_option maxRecDepth 65536 in
theorem w_c37 : (Jvm.Cond.code ({ cls := "RoomPlanner", name := "amend", desc := "(IIII)I" } : Jvm.MethodName) prog_1_method_3_code (6 : Nat) (Option.some Jvm.ClassFile.FieldType.int)).before args0 about1 = true := code_word (m := ⟨2, 2⟩) (meth := k2m2) (c := k2c2) (by decide +kernel) rfl rfl rfl (by decide +kernel)
set_option maxRecDepth 65536 in
theorem w_c38 : (Jvm.Cond.code ({ cls := "RoomPlanner", name := "appendToOrder", desc := "(I)V" } : Jvm.MethodName) prog_1_method_51_code (2 : Nat) (Option.none : Option Jvm.ClassFile.FieldType)).before args0 about1 = true := code_word (m := ⟨2, 37⟩) (meth := k2m37) (c := k2c37) (by decide +kernel) rfl rfl rfl (by decide +kernel)
set_option maxRecDepth 65536 in
theorem w_c39 : (Jvm.Cond.code ({ cls := "RoomPlanner", name := "placeStay", desc := "(I)Z" } : Jvm.MethodName) prog_1_method_52_code (6 : Nat) (Option.some Jvm.ClassFile.FieldType.boolean)).before args0 about1 = true := code_word (m := ⟨2, 38⟩) (meth := k2m38) (c := k2c38) (by decide +kernel) rfl rfl rfl (by decide +kernel)
set_option maxRecDepth 65536 in
theorem w_c40 : (Jvm.Cond.code ({ cls := "RoomPlanner", name := "roomIsFree", desc := "(III)Z" } : Jvm.MethodName) prog_1_method_53_code (6 : Nat) (Option.some Jvm.ClassFile.FieldType.boolean)).before args0 about1 = true := code_word (m := ⟨2, 39⟩) (meth := k2m39) (c := k2c39) (by decide +kernel) rfl rfl rfl (by decide +kernel)
set_option maxRecDepth 65536 in
theorem w_c41 : (Jvm.Cond.code ({ cls := "RoomPlanner", name := "gridAt", desc := "(II)I" } : Jvm.MethodName) prog_1_method_49_code (3 : Nat) (Option.some Jvm.ClassFile.FieldType.int)).before args0 about1 = true := code_word (m := ⟨2, 35⟩) (meth := k2m35) (c := k2c35) (by decide +kernel) rfl rfl rfl (by decide +kernel)
set_option maxRecDepth 65536 in
theorem w_c42 : (Jvm.Cond.code ({ cls := "RoomPlanner", name := "gridIndex", desc := "(II)I" } : Jvm.MethodName) prog_1_method_48_code (3 : Nat) (Option.some Jvm.ClassFile.FieldType.int)).before args0 about1 = true := code_word (m := ⟨2, 34⟩) (meth := k2m34) (c := k2c34) (by decide +kernel) rfl rfl rfl (by decide +kernel)
set_option maxRecDepth 65536 in
theorem w_c43 : (Jvm.Cond.code ({ cls := "RoomPlanner", name := "markRoom", desc := "(IIII)V" } : Jvm.MethodName) prog_1_method_54_code (7 : Nat) (Option.none : Option Jvm.ClassFile.FieldType)).before args0 about1 = true := code_word (m := ⟨2, 40⟩) (meth := k2m40) (c := k2c40) (by decide +kernel) rfl rfl rfl (by decide +kernel)
set_option maxRecDepth 65536 in
theorem w_c44 : (Jvm.Cond.code ({ cls := "RoomPlanner", name := "coversNight", desc := "(II)Z" } : Jvm.MethodName) prog_1_method_33_code (4 : Nat) (Option.some Jvm.ClassFile.FieldType.boolean)).before args0 about1 = true := code_word (m := ⟨2, 22⟩) (meth := k2m22) (c := k2c22) (by decide +kernel) rfl rfl rfl (by decide +kernel)
def codes1 : List Jvm.Cond := [Jvm.Cond.code x code maxLocals ret, Jvm.Cond.code ({ cls := "RoomPlanner", name := "<init>", desc := "(III)V" } : Jvm.MethodName) prog_1_method_1_code (4 : Nat) (Option.none : Option Jvm.ClassFile.FieldType), Jvm.Cond.code ({ cls := "java/lang/Object", name := "<init>", desc := "()V" } : Jvm.MethodName) object_method_1_code (1 : Nat) (Option.none : Option Jvm.ClassFile.FieldType), Jvm.Cond.code ({ cls := "RoomPlanner", name := "clampRooms", desc := "(I)I" } : Jvm.MethodName) prog_1_method_18_code (2 : Nat) (Option.some Jvm.ClassFile.FieldType.int), Jvm.Cond.code ({ cls := "RoomPlanner", name := "computeRoomTables", desc := "()V" } : Jvm.MethodName) prog_1_method_19_code (4 : Nat) (Option.none : Option Jvm.ClassFile.FieldType), Jvm.Cond.code ({ cls := "RoomPlanner", name := "resetStays", desc := "()V" } : Jvm.MethodName) prog_1_method_28_code (2 : Nat) (Option.none : Option Jvm.ClassFile.FieldType), Jvm.Cond.code ({ cls := "RoomPlanner", name := "resetCounts", desc := "()V" } : Jvm.MethodName) prog_1_method_35_code (2 : Nat) (Option.none : Option Jvm.ClassFile.FieldType), Jvm.Cond.code ({ cls := "RoomPlanner", name := "clearPlan", desc := "()V" } : Jvm.MethodName) prog_1_method_47_code (2 : Nat) (Option.none : Option Jvm.ClassFile.FieldType), Jvm.Cond.code ({ cls := "RoomPlannerL5", name := "step", desc := "(LRoomPlanner;IIIII)V" } : Jvm.MethodName) method_3_code (6 : Nat) (Option.none : Option Jvm.ClassFile.FieldType), Jvm.Cond.code ({ cls := "RoomPlanner", name := "assign", desc := "()I" } : Jvm.MethodName) prog_1_method_13_code (5 : Nat) (Option.some Jvm.ClassFile.FieldType.int), Jvm.Cond.code ({ cls := "RoomPlanner", name := "discardPlan", desc := "()V" } : Jvm.MethodName) prog_1_method_46_code (1 : Nat) (Option.none : Option Jvm.ClassFile.FieldType), Jvm.Cond.code ({ cls := "RoomPlanner", name := "buildOrder", desc := "()V" } : Jvm.MethodName) prog_1_method_50_code (3 : Nat) (Option.none : Option Jvm.ClassFile.FieldType), Jvm.Cond.code ({ cls := "RoomPlanner", name := "book", desc := "(III)I" } : Jvm.MethodName) prog_1_method_2_code (6 : Nat) (Option.some Jvm.ClassFile.FieldType.int), Jvm.Cond.code ({ cls := "RoomPlanner", name := "requestError", desc := "(III)I" } : Jvm.MethodName) prog_1_method_27_code (4 : Nat) (Option.some Jvm.ClassFile.FieldType.int), Jvm.Cond.code ({ cls := "RoomPlanner", name := "isValidType", desc := "(I)Z" } : Jvm.MethodName) prog_1_method_23_code (2 : Nat) (Option.some Jvm.ClassFile.FieldType.boolean), Jvm.Cond.code ({ cls := "RoomPlanner", name := "isValidNight", desc := "(I)Z" } : Jvm.MethodName) prog_1_method_24_code (2 : Nat) (Option.some Jvm.ClassFile.FieldType.boolean), Jvm.Cond.code ({ cls := "RoomPlanner", name := "isValidLength", desc := "(II)Z" } : Jvm.MethodName) prog_1_method_25_code (3 : Nat) (Option.some Jvm.ClassFile.FieldType.boolean), Jvm.Cond.code ({ cls := "RoomPlannerL5", name := "same", desc := "(LRoomPlanner;LRoomPlanner;)Z" } : Jvm.MethodName) method_4_code (4 : Nat) (Option.some Jvm.ClassFile.FieldType.boolean), Jvm.Cond.code ({ cls := "RoomPlanner", name := "activeCount", desc := "()I" } : Jvm.MethodName) prog_1_method_12_code (1 : Nat) (Option.some Jvm.ClassFile.FieldType.int), Jvm.Cond.code ({ cls := "RoomPlanner", name := "stayType", desc := "(I)I" } : Jvm.MethodName) prog_1_method_9_code (2 : Nat) (Option.some Jvm.ClassFile.FieldType.int), Jvm.Cond.code ({ cls := "RoomPlanner", name := "isActiveStay", desc := "(I)Z" } : Jvm.MethodName) prog_1_method_26_code (2 : Nat) (Option.some Jvm.ClassFile.FieldType.boolean), Jvm.Cond.code ({ cls := "RoomPlanner", name := "stayArrive", desc := "(I)I" } : Jvm.MethodName) prog_1_method_10_code (2 : Nat) (Option.some Jvm.ClassFile.FieldType.int), Jvm.Cond.code ({ cls := "RoomPlanner", name := "stayNights", desc := "(I)I" } : Jvm.MethodName) prog_1_method_11_code (2 : Nat) (Option.some Jvm.ClassFile.FieldType.int), Jvm.Cond.code ({ cls := "RoomPlanner", name := "occupancy", desc := "(II)I" } : Jvm.MethodName) prog_1_method_8_code (3 : Nat) (Option.some Jvm.ClassFile.FieldType.int), Jvm.Cond.code ({ cls := "RoomPlanner", name := "exactAt", desc := "(II)I" } : Jvm.MethodName) prog_1_method_37_code (3 : Nat) (Option.some Jvm.ClassFile.FieldType.int), Jvm.Cond.code ({ cls := "RoomPlanner", name := "countIndex", desc := "(II)I" } : Jvm.MethodName) prog_1_method_36_code (3 : Nat) (Option.some Jvm.ClassFile.FieldType.int), Jvm.Cond.code ({ cls := "RoomPlanner", name := "fitsWith", desc := "(IIII)Z" } : Jvm.MethodName) prog_1_method_44_code (7 : Nat) (Option.some Jvm.ClassFile.FieldType.boolean), Jvm.Cond.code ({ cls := "RoomPlanner", name := "endOf", desc := "(II)I" } : Jvm.MethodName) prog_1_method_34_code (4 : Nat) (Option.some Jvm.ClassFile.FieldType.int), Jvm.Cond.code ({ cls := "RoomPlanner", name := "nightFits", desc := "(III)Z" } : Jvm.MethodName) prog_1_method_43_code (8 : Nat) (Option.some Jvm.ClassFile.FieldType.boolean), Jvm.Cond.code ({ cls := "RoomPlanner", name := "atLeastAt", desc := "(II)I" } : Jvm.MethodName) prog_1_method_38_code (3 : Nat) (Option.some Jvm.ClassFile.FieldType.int), Jvm.Cond.code ({ cls := "RoomPlanner", name := "exclusion", desc := "(III)I" } : Jvm.MethodName) prog_1_method_42_code (4 : Nat) (Option.some Jvm.ClassFile.FieldType.int), Jvm.Cond.code ({ cls := "RoomPlanner", name := "lowestInactiveSlot", desc := "()I" } : Jvm.MethodName) prog_1_method_29_code (2 : Nat) (Option.some Jvm.ClassFile.FieldType.int), Jvm.Cond.code ({ cls := "RoomPlanner", name := "activateStay", desc := "(IIII)V" } : Jvm.MethodName) prog_1_method_31_code (5 : Nat) (Option.none : Option Jvm.ClassFile.FieldType), Jvm.Cond.code ({ cls := "RoomPlanner", name := "storeStay", desc := "(IIII)V" } : Jvm.MethodName) prog_1_method_30_code (5 : Nat) (Option.none : Option Jvm.ClassFile.FieldType), Jvm.Cond.code ({ cls := "RoomPlanner", name := "adjustCoverage", desc := "(II)V" } : Jvm.MethodName) prog_1_method_39_code (8 : Nat) (Option.none : Option Jvm.ClassFile.FieldType), Jvm.Cond.code ({ cls := "RoomPlanner", name := "cancel", desc := "(I)I" } : Jvm.MethodName) prog_1_method_4_code (2 : Nat) (Option.some Jvm.ClassFile.FieldType.int), Jvm.Cond.code ({ cls := "RoomPlanner", name := "deactivateStay", desc := "(I)V" } : Jvm.MethodName) prog_1_method_32_code (2 : Nat) (Option.none : Option Jvm.ClassFile.FieldType), Jvm.Cond.code ({ cls := "RoomPlanner", name := "amend", desc := "(IIII)I" } : Jvm.MethodName) prog_1_method_3_code (6 : Nat) (Option.some Jvm.ClassFile.FieldType.int), Jvm.Cond.code ({ cls := "RoomPlanner", name := "appendToOrder", desc := "(I)V" } : Jvm.MethodName) prog_1_method_51_code (2 : Nat) (Option.none : Option Jvm.ClassFile.FieldType), Jvm.Cond.code ({ cls := "RoomPlanner", name := "placeStay", desc := "(I)Z" } : Jvm.MethodName) prog_1_method_52_code (6 : Nat) (Option.some Jvm.ClassFile.FieldType.boolean), Jvm.Cond.code ({ cls := "RoomPlanner", name := "roomIsFree", desc := "(III)Z" } : Jvm.MethodName) prog_1_method_53_code (6 : Nat) (Option.some Jvm.ClassFile.FieldType.boolean), Jvm.Cond.code ({ cls := "RoomPlanner", name := "gridAt", desc := "(II)I" } : Jvm.MethodName) prog_1_method_49_code (3 : Nat) (Option.some Jvm.ClassFile.FieldType.int), Jvm.Cond.code ({ cls := "RoomPlanner", name := "gridIndex", desc := "(II)I" } : Jvm.MethodName) prog_1_method_48_code (3 : Nat) (Option.some Jvm.ClassFile.FieldType.int), Jvm.Cond.code ({ cls := "RoomPlanner", name := "markRoom", desc := "(IIII)V" } : Jvm.MethodName) prog_1_method_54_code (7 : Nat) (Option.none : Option Jvm.ClassFile.FieldType), Jvm.Cond.code ({ cls := "RoomPlanner", name := "coversNight", desc := "(II)Z" } : Jvm.MethodName) prog_1_method_33_code (4 : Nat) (Option.some Jvm.ClassFile.FieldType.boolean)]
set_option maxRecDepth 65536 in
theorem codes_eq : words1.filter isCode = codes1 := rfl
theorem w_codes : ∀ c ∈ words1.filter isCode, c.before args0 about1 = true := by
  rw [codes_eq]
  intro c hc
  simp only [codes1, List.mem_cons, List.not_mem_nil, or_false] at hc
  rcases hc with rfl | rfl | rfl | rfl | rfl | rfl | rfl | rfl | rfl | rfl | rfl | rfl | rfl | rfl | rfl | rfl | rfl | rfl | rfl | rfl | rfl | rfl | rfl | rfl | rfl | rfl | rfl | rfl | rfl | rfl | rfl | rfl | rfl | rfl | rfl | rfl | rfl | rfl | rfl | rfl | rfl | rfl | rfl | rfl | rfl
  · exact w_c0
  · exact w_c1
  · exact w_c2
  · exact w_c3
  · exact w_c4
  · exact w_c5
  · exact w_c6
  · exact w_c7
  · exact w_c8
  · exact w_c9
  · exact w_c10
  · exact w_c11
  · exact w_c12
  · exact w_c13
  · exact w_c14
  · exact w_c15
  · exact w_c16
  · exact w_c17
  · exact w_c18
  · exact w_c19
  · exact w_c20
  · exact w_c21
  · exact w_c22
  · exact w_c23
  · exact w_c24
  · exact w_c25
  · exact w_c26
  · exact w_c27
  · exact w_c28
  · exact w_c29
  · exact w_c30
  · exact w_c31
  · exact w_c32
  · exact w_c33
  · exact w_c34
  · exact w_c35
  · exact w_c36
  · exact w_c37
  · exact w_c38
  · exact w_c39
  · exact w_c40
  · exact w_c41
  · exact w_c42
  · exact w_c43
  · exact w_c44
set_option maxRecDepth 65536 in
theorem w_t1 : (words1.take 24).all (fun c => isCode c || c.before args0 about1) = true := by decide +kernel
set_option maxRecDepth 65536 in
theorem w_t2 : ((words1.drop 24).take 24).all (fun c => isCode c || c.before args0 about1) = true := by decide +kernel
set_option maxRecDepth 65536 in
theorem w_t3 : (((words1.drop 24).drop 24).take 24).all (fun c => isCode c || c.before args0 about1) = true := by decide +kernel
set_option maxRecDepth 65536 in
theorem w_t4 : ((((words1.drop 24).drop 24).drop 24).take 24).all (fun c => isCode c || c.before args0 about1) = true := by decide +kernel
set_option maxRecDepth 65536 in
theorem w_t5 : (((((words1.drop 24).drop 24).drop 24).drop 24).take 24).all (fun c => isCode c || c.before args0 about1) = true := by decide +kernel
set_option maxRecDepth 65536 in
theorem w_t6 : ((((((words1.drop 24).drop 24).drop 24).drop 24).drop 24).take 24).all (fun c => isCode c || c.before args0 about1) = true := by decide +kernel
set_option maxRecDepth 65536 in
theorem w_t7 : (((((((words1.drop 24).drop 24).drop 24).drop 24).drop 24).drop 24).take 24).all (fun c => isCode c || c.before args0 about1) = true := by decide +kernel
set_option maxRecDepth 65536 in
theorem w_t8 : ((((((((words1.drop 24).drop 24).drop 24).drop 24).drop 24).drop 24).drop 24).take 24).all (fun c => isCode c || c.before args0 about1) = true := by decide +kernel
set_option maxRecDepth 65536 in
theorem w_t9 : (((((((((words1.drop 24).drop 24).drop 24).drop 24).drop 24).drop 24).drop 24).drop 24).take 24).all (fun c => isCode c || c.before args0 about1) = true := by decide +kernel
set_option maxRecDepth 65536 in
theorem w_t10 : (((((((((words1.drop 24).drop 24).drop 24).drop 24).drop 24).drop 24).drop 24).drop 24).drop 24).all (fun c => isCode c || c.before args0 about1) = true := by decide +kernel
theorem w_tables : (allAtoms (Jvm.Cond.code x code maxLocals ret :: tables_1)).before args0 about1 = true := by
  rw [allAtoms_all]
  show words1.all (fun c => c.before args0 about1) = true
  refine all_split ?_ w_codes
  rw [← List.take_append_drop 24 words1, List.all_append, w_t1, ← List.take_append_drop 24 (words1.drop 24), List.all_append, w_t2, ← List.take_append_drop 24 ((words1.drop 24).drop 24), List.all_append, w_t3, ← List.take_append_drop 24 (((words1.drop 24).drop 24).drop 24), List.all_append, w_t4, ← List.take_append_drop 24 ((((words1.drop 24).drop 24).drop 24).drop 24), List.all_append, w_t5, ← List.take_append_drop 24 (((((words1.drop 24).drop 24).drop 24).drop 24).drop 24), List.all_append, w_t6, ← List.take_append_drop 24 ((((((words1.drop 24).drop 24).drop 24).drop 24).drop 24).drop 24), List.all_append, w_t7, ← List.take_append_drop 24 (((((((words1.drop 24).drop 24).drop 24).drop 24).drop 24).drop 24).drop 24), List.all_append, w_t8, ← List.take_append_drop 24 ((((((((words1.drop 24).drop 24).drop 24).drop 24).drop 24).drop 24).drop 24).drop 24), List.all_append, w_t9, w_t10]
  rfl
set_option maxRecDepth 65536 in
theorem w_rest : rest_1_c.before args0 about1 = true := by decide +kernel
set_option maxRecDepth 65536 in
theorem w_case : (Jvm.Cond.and given_1 narrow_1).before args0 about1 = true := by decide +kernel
theorem w_applies : (headSpec (Jvm.Cond.code x code maxLocals ret :: tables_1) room_1).applies x e0.platform about1 = true :=
  (Spec.applies_iff w_frames).mpr ⟨w_running, w_runnable, w_alone, w_named, w_hears, w_ripe, w_room, w_tables⟩
theorem atStart : AtStart classFile x code maxLocals ret World_1 tables_1 room_1 Calls_1 rest_1 Pre_1 launch0 p0 e0 about1 theMethod args0 below0 :=
  ⟨lists_1, trivial, launch0.admits_env _ _ _, launch0.least_env, fairChoices_fair.cas, fairChoices_fair.clock, w_frames, w_args, w_heap, w_applies, trivial, w_rest, w_case⟩
end start1
theorem witness_1 : WitnessClaimed_1 := ⟨start1.p0, start1.e0, start1.about1, start1.theMethod, start1.args0, start1.below0, start1.atStart⟩
end Jvm.Pilot.@@N@@
