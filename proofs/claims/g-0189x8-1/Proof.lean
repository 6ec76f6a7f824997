import JvmDerived
import JvmDerived.Pilot.@@N@@Statement
import JvmDerived.Pilot.@@N@@Code
set_option linter.unusedVariables false
set_option linter.unusedSimpArgs false
namespace Jvm.Own
open Jvm Jvm.ClassFile Sem Op Lib Jvm.Free Jvm.Stand Jvm.LawKit Jvm.RoadKit Bundle

/-! A plain machine: the few instructions that these classes use, over a heap of plain lists. -/
/-- an object (class number, fields in order) | an int array (false) or boolean array (true) | a long array -/
abbrev ACell := (Nat × List Value) ⊕ ((Bool × List Int32) ⊕ List Int64)
abbrev AHeap := List ACell
/-- instruction, length, variables forgotten ahead of it, link number, constant -/
abbrev It := Instr × Nat × List Bool × Nat × Int
/-- a field: name, descriptor, type, final -/
abbrev FD := String × String × FieldType × Bool
/-- a class: name, number of its slots, its fields -/
abbrev CD := String × Nat × List FD
/-- a method: name, bytes, variables, return type; kind (0 static, 1 constructor, 2 private, 3 virtual), parameters, class number, frames, words; code -/
abbrev MD := MethodName × ByteArray × Nat × Option FieldType × Nat × Nat × Nat × Nat × Nat × List (Nat × It)
/-- classes, methods, number of cells that are only read -/
abbrev PD := List CD × List MD × Nat
abbrev PD.cls (P : PD) : List CD := P.1
abbrev PD.mth (P : PD) : List MD := P.2.1
abbrev PD.nr (P : PD) : Nat := P.2.2
abbrev MD.name (d : MD) : MethodName := d.1
abbrev MD.bytes (d : MD) : ByteArray := d.2.1
abbrev MD.maxL (d : MD) : Nat := d.2.2.1
abbrev MD.ret (d : MD) : Option FieldType := d.2.2.2.1
abbrev MD.kind (d : MD) : Nat := d.2.2.2.2.1
abbrev MD.npar (d : MD) : Nat := d.2.2.2.2.2.1
abbrev MD.cid (d : MD) : Nat := d.2.2.2.2.2.2.1
abbrev MD.rf (d : MD) : Nat := d.2.2.2.2.2.2.2.1
abbrev MD.rw (d : MD) : Nat := d.2.2.2.2.2.2.2.2.1
abbrev MD.code (d : MD) : List (Nat × It) := d.2.2.2.2.2.2.2.2.2

def rdA {α : Type} (L : List α) (j : Int32) : Option α := if j < 0 then none else L[j.toNatClampNeg]?
def wrA {α : Type} (L : List α) (j : Int32) (x : α) : Option (List α) := if j < 0 then none else if j.toNatClampNeg < L.length then some (L.set j.toNatClampNeg x) else none
def getL (L : List Slot) (k : Nat) : Option Value := match L[k]? with | some (.val v) => some v | _ => none
def isC2 : Option Slot → Bool | some (.val v) => v.category == 2 | _ => false
def isSec : Option Slot → Bool | some .second => true | _ => false
def free1 : Option Slot → Bool | some .unset => true | some (.val v) => v.category == 1 | _ => false
def st1 (L : List Slot) (k : Nat) (v : Value) : Option (List Slot) :=
  if free1 L[k]? && (k == 0 || !isC2 L[k - 1]?) && !isSec L[k + 1]? then some (L.set k (.val v)) else none
def free2 : Option Slot → Option Slot → Bool | some .unset, some .unset => true | some (.val v), some .second => v.category == 2 | _, _ => false
def st2 (L : List Slot) (k : Nat) (v : Value) : Option (List Slot) :=
  if free2 L[k]? L[k + 1]? && (k == 0 || !isC2 L[k - 1]?) && !isSec L[k + 2]? then some ((L.set k (.val v)).set (k + 1) .second) else none
def forget : List Bool → List Slot → List Slot
  | [], L => L
  | _ :: _, [] => []
  | true :: r, _ :: L => .unset :: forget r L
  | false :: r, s :: L => s :: forget r L
def catSum : List Value → Nat
  | [] => 0
  | v :: r => v.category + catSum r
def entA : List Value → List Slot
  | [] => []
  | v :: r => if v.category = 2 then .val v :: .second :: entA r else .val v :: entA r
def entL (as : List Value) (n : Nat) : List Slot := entA as ++ List.replicate (n - (entA as).length) .unset
def putOk : FieldType → Value → Bool
  | .int, .int _ => true
  | .long, .long _ => true
  | .boolean, .int x => (x == 0) || (x == 1)
  | .array _, .ref _ => true
  | _, _ => false
def dflt : FieldType → Value
  | .long => .long 0
  | .array _ => .null
  | _ => .int 0
def dfOk : FieldType → Bool
  | .int => true
  | .boolean => true
  | .long => true
  | .array _ => true
  | _ => false
def tgt (pc : Nat) (o : Int) : Option Nat := if 0 ≤ (pc : Int) + o then some ((pc : Int) + o).toNat else none
def fetch : List (Nat × It) → Nat → Option It
  | [], _ => none
  | (q, i) :: r, pc => if q = pc then some i else fetch r pc
/-- one instruction that neither branches nor calls nor returns -/
def xI (P : PD) (ini : Bool) (cid : Nat) (i : Instr) (a : Nat) (b : Int) (L : List Slot) (S : List Value) (H : AHeap) : Option (List Slot × List Value × AHeap) :=
  match i with
  | .aload_n k => match getL L k.val with | some (.ref x) => some (L, .ref x :: S, H) | _ => none
  | .aload k => match getL L k with | some (.ref x) => some (L, .ref x :: S, H) | _ => none
  | .iload_n k => match getL L k.val with | some (.int x) => some (L, .int x :: S, H) | _ => none
  | .iload k => match getL L k with | some (.int x) => some (L, .int x :: S, H) | _ => none
  | .lload_n k => match getL L k.val with | some (.long x) => some (L, .long x :: S, H) | _ => none
  | .lload k => match getL L k with | some (.long x) => some (L, .long x :: S, H) | _ => none
  | .istore_n k => match S with | .int x :: S' => (st1 L k.val (.int x)).map fun L' => (L', S', H) | _ => none
  | .istore k => match S with | .int x :: S' => (st1 L k (.int x)).map fun L' => (L', S', H) | _ => none
  | .astore_n k => match S with | .ref x :: S' => (st1 L k.val (.ref x)).map fun L' => (L', S', H) | _ => none
  | .astore k => match S with | .ref x :: S' => (st1 L k (.ref x)).map fun L' => (L', S', H) | _ => none
  | .lstore_n k => match S with | .long x :: S' => (st2 L k.val (.long x)).map fun L' => (L', S', H) | _ => none
  | .lstore k => match S with | .long x :: S' => (st2 L k (.long x)).map fun L' => (L', S', H) | _ => none
  | .iinc k d => match getL L k with | some (.int x) => (st1 L k (.int (x + Int32.ofInt d))).map fun L' => (L', S, H) | _ => none
  | .iconst d => some (L, .int (Int32.ofInt d) :: S, H)
  | .bipush d => some (L, .int (Int8.ofInt d).toInt32 :: S, H)
  | .sipush d => some (L, .int (Int16.ofInt d).toInt32 :: S, H)
  | .lconst k => some (L, .long (Int64.ofNat k) :: S, H)
  | .ldc _ => some (L, .int (Int32.ofInt b) :: S, H)
  | .ldc2_w _ => some (L, .long (Int64.ofInt b) :: S, H)
  | .iadd => match S with | .int y :: .int x :: S' => some (L, .int (x + y) :: S', H) | _ => none
  | .isub => match S with | .int y :: .int x :: S' => some (L, .int (x - y) :: S', H) | _ => none
  | .imul => match S with | .int y :: .int x :: S' => some (L, .int (x * y) :: S', H) | _ => none
  | .iand => match S with | .int y :: .int x :: S' => some (L, .int (x &&& y) :: S', H) | _ => none
  | .ior => match S with | .int y :: .int x :: S' => some (L, .int (x ||| y) :: S', H) | _ => none
  | .ixor => match S with | .int y :: .int x :: S' => some (L, .int (x ^^^ y) :: S', H) | _ => none
  | .ishl => match S with | .int y :: .int x :: S' => some (L, .int (x <<< (y &&& 31)) :: S', H) | _ => none
  | .ishr => match S with | .int y :: .int x :: S' => some (L, .int (x >>> (y &&& 31)) :: S', H) | _ => none
  | .iushr => match S with | .int y :: .int x :: S' => some (L, .int (XT.ushr x y) :: S', H) | _ => none
  | .idiv => match S with | .int y :: .int x :: S' => if y = 0 then none else some (L, .int (x / y) :: S', H) | _ => none
  | .irem => match S with | .int y :: .int x :: S' => if y = 0 then none else some (L, .int (x % y) :: S', H) | _ => none
  | .ladd => match S with | .long y :: .long x :: S' => some (L, .long (x + y) :: S', H) | _ => none
  | .lsub => match S with | .long y :: .long x :: S' => some (L, .long (x - y) :: S', H) | _ => none
  | .lmul => match S with | .long y :: .long x :: S' => some (L, .long (x * y) :: S', H) | _ => none
  | .land => match S with | .long y :: .long x :: S' => some (L, .long (x &&& y) :: S', H) | _ => none
  | .lor => match S with | .long y :: .long x :: S' => some (L, .long (x ||| y) :: S', H) | _ => none
  | .lxor => match S with | .long y :: .long x :: S' => some (L, .long (x ^^^ y) :: S', H) | _ => none
  | .lshl => match S with | .int y :: .long x :: S' => some (L, .long (x <<< (y.toInt64 &&& 63)) :: S', H) | _ => none
  | .lshr => match S with | .int y :: .long x :: S' => some (L, .long (x >>> (y.toInt64 &&& 63)) :: S', H) | _ => none
  | .lushr => match S with | .int y :: .long x :: S' => some (L, .long (XT.ushrL x y) :: S', H) | _ => none
  | .ldiv => match S with | .long y :: .long x :: S' => if y = 0 then none else some (L, .long (x / y) :: S', H) | _ => none
  | .lrem => match S with | .long y :: .long x :: S' => if y = 0 then none else some (L, .long (x % y) :: S', H) | _ => none
  | .lcmp => match S with | .long y :: .long x :: S' => some (L, .int (XT.cmpL x y) :: S', H) | _ => none
  | .i2l => match S with | .int x :: S' => some (L, .long x.toInt64 :: S', H) | _ => none
  | .l2i => match S with | .long x :: S' => some (L, .int x.toInt32 :: S', H) | _ => none
  | .dup => match S with
    | .int x :: S' => some (L, .int x :: .int x :: S', H)
    | .ref x :: S' => some (L, .ref x :: .ref x :: S', H)
    | _ => none
  | .dup2 => match S with
    | .int x :: .ref y :: S' => some (L, .int x :: .ref y :: .int x :: .ref y :: S', H)
    | .long x :: S' => some (L, .long x :: .long x :: S', H)
    | _ => none
  | .pop => match S with | .int _ :: S' => some (L, S', H) | _ => none
  | .getfield _ => match S with
    | .ref o :: S' => match H[o]? with
      | some (.inl (c, fs)) => if c = cid then match fs[a]? with
        | some (.int x) => some (L, .int x :: S', H)
        | some (.long x) => some (L, .long x :: S', H)
        | some (.ref x) => some (L, .ref x :: S', H)
        | _ => none
        else none
      | _ => none
    | _ => none
  | .putfield _ => match S with
    | v :: .ref o :: S' => match H[o]? with
      | some (.inl (c, fs)) => if c = cid ∧ P.nr ≤ o then match (P.cls[c]?).bind fun cd => cd.2.2[a]? with
        | some (_, _, ty, fin) => if putOk ty v && (!fin || ini) then some (L, S', H.set o (.inl (c, fs.set a v))) else none
        | none => none
        else none
      | _ => none
    | _ => none
  | .iaload => match S with
    | .int j :: .ref o :: S' => match H[o]? with
      | some (.inr (.inl (false, A))) => (rdA A j).map fun x => (L, .int x :: S', H)
      | _ => none
    | _ => none
  | .baload => match S with
    | .int j :: .ref o :: S' => match H[o]? with
      | some (.inr (.inl (true, A))) => (rdA A j).map fun x => (L, .int x :: S', H)
      | _ => none
    | _ => none
  | .laload => match S with
    | .int j :: .ref o :: S' => match H[o]? with
      | some (.inr (.inr A)) => (rdA A j).map fun x => (L, .long x :: S', H)
      | _ => none
    | _ => none
  | .iastore => match S with
    | .int x :: .int j :: .ref o :: S' => match H[o]? with
      | some (.inr (.inl (false, A))) => if P.nr ≤ o then (wrA A j x).map fun A' => (L, S', H.set o (.inr (.inl (false, A')))) else none
      | _ => none
    | _ => none
  | .bastore => match S with
    | .int x :: .int j :: .ref o :: S' => match H[o]? with
      | some (.inr (.inl (true, A))) => if P.nr ≤ o then (wrA A j (x &&& 1)).map fun A' => (L, S', H.set o (.inr (.inl (true, A')))) else none
      | _ => none
    | _ => none
  | .lastore => match S with
    | .long x :: .int j :: .ref o :: S' => match H[o]? with
      | some (.inr (.inr A)) => if P.nr ≤ o then (wrA A j x).map fun A' => (L, S', H.set o (.inr (.inr A'))) else none
      | _ => none
    | _ => none
  | .arraylength => match S with
    | .ref o :: S' => match H[o]? with
      | some (.inr (.inl (_, A))) => some (L, .int A.length.toInt32 :: S', H)
      | _ => none
    | _ => none
  | _ => none
/-- one instruction that makes a cell: how many slots it takes stands last -/
def xN (P : PD) (i : Instr) (a : Nat) (S : List Value) (H : AHeap) : Option (List Value × AHeap × Nat) :=
  match i with
  | .new _ => match P.cls[a]? with
    | some cd => some (.ref H.length :: S, H ++ [.inl (a, cd.2.2.map fun f => dflt f.2.2.1)], cd.2.1)
    | none => none
  | .newarray t => match S with
    | .int n :: S' => if n < 0 ∨ 100000 < n.toNatClampNeg then none else match t with
      | .int => some (.ref H.length :: S', H ++ [.inr (.inl (false, List.replicate n.toNatClampNeg 0))], n.toNatClampNeg)
      | .boolean => some (.ref H.length :: S', H ++ [.inr (.inl (true, List.replicate n.toNatClampNeg 0))], n.toNatClampNeg)
      | .long => some (.ref H.length :: S', H ++ [.inr (.inr (List.replicate n.toNatClampNeg 0))], n.toNatClampNeg)
      | _ => none
    | _ => none
  | _ => none
/-- the words that a call from d to y asks -/
def fitsRoom (d y : MD) (rest : List Value) : Bool := decide (y.rf + 1 ≤ d.rf) && decide (catSum rest + (y.maxL + 11) + y.rw ≤ d.rw)
/-- the arguments of a call, first to last, and what lies under them -/
def argsOf (n : Nat) (S : List Value) : Option (List Value × List Value) := if n ≤ S.length then some ((S.take n).reverse, S.drop n) else none
def recvOk (P : PD) (H : AHeap) (y : MD) (as : List Value) : Bool :=
  if y.kind = 0 then true else match as with
    | .ref o :: _ => match H[o]? with
      | some (.inl (c, _)) => decide (c = y.cid)
      | _ => false
    | _ => false
def nargs (y : MD) : Nat := if y.kind = 0 then y.npar else y.npar + 1
def invKind (i : Instr) (k : Nat) : Bool := match i with
  | .invokestatic _ => k == 0
  | .invokespecial _ => k == 1
  | .invokevirtual _ => k == 2 || k == 3
  | _ => false
/-- what a method returns of an int on its stack -/
def retV (r : Option FieldType) (x : Int32) : Option Value := match r with
  | some .int => some (.int x)
  | some .boolean => some (.int (x &&& 1))
  | _ => none
def isInv : Instr → Bool
  | .invokestatic _ => true
  | .invokespecial _ => true
  | .invokevirtual _ => true
  | _ => false
def isNew : Instr → Bool
  | .new _ => true
  | .newarray _ => true
  | _ => false
/-- what a run answers: what it returns, the heap, how many cells and slots it has made -/
abbrev Res := Option Value × AHeap × Nat × Nat
def addR (r : Res) (kc ks : Nat) : Res := (r.1, r.2.1, r.2.2.1 + kc, r.2.2.2 + ks)
/-- n instructions at the most, from pc of method mi to its return -/
def exe (P : PD) : Nat → Nat → Nat → List Slot → List Value → AHeap → Option Res
  | 0, _, _, _, _, _ => none
  | n + 1, mi, pc, L0, S, H => match P.mth[mi]? with
    | none => none
    | some d => match fetch d.code pc with
      | none => none
      | some (i, len, er, a, b) =>
        let L := forget er L0
        match i with
        | .goto o => match tgt pc o with
          | some q => exe P n mi q L S H
          | none => none
        | .if_icmp cd o => match S with
          | .int y :: .int x :: S' => if if_icmp.holds cd x y = true then match tgt pc o with
              | some q => exe P n mi q L S' H
              | none => none
            else exe P n mi (pc + 3) L S' H
          | _ => none
        | .ifCond cd o => match S with
          | .int x :: S' => if ifCond.holds cd x = true then match tgt pc o with
              | some q => exe P n mi q L S' H
              | none => none
            else exe P n mi (pc + 3) L S' H
          | _ => none
        | .ifnonnull o => match S with
          | .ref _ :: S' => match tgt pc o with
            | some q => exe P n mi q L S' H
            | none => none
          | _ => none
        | .ireturn => match S with
          | [.int x] => match retV d.ret x with
            | some v => some (some v, H, 0, 0)
            | none => none
          | _ => none
        | .lreturn => match S with
          | [.long x] => if d.ret = some .long then some (some (.long x), H, 0, 0) else none
          | _ => none
        | .return_ => match S with
          | [] => if d.ret = none then some (none, H, 0, 0) else none
          | _ => none
        | i => if isInv i = true then
            if b = -1 then match i, S with
              | .invokespecial _, .ref _ :: S' => if 1 ≤ d.rf ∧ catSum S' + 12 ≤ d.rw then exe P n mi (pc + 3) L S' H else none
              | _, _ => none
            else match P.mth[a]? with
              | none => none
              | some y => match argsOf (nargs y) S with
                | none => none
                | some (as, rest) =>
                  if decide (0 < a) && invKind i y.kind && recvOk P H y as && fitsRoom d y rest && decide ((entA as).length ≤ y.maxL) then
                    match exe P n a 0 (entL as y.maxL) [] H with
                    | some (v, H1, kc, ks) => (exe P n mi (pc + 3) L (v.toList ++ rest) H1).map fun r => addR r kc ks
                    | none => none
                  else none
          else if isNew i = true then match xN P i a S H with
            | some (S', H', ks) => (exe P n mi (pc + len) L S' H').map fun r => addR r 1 ks
            | none => none
          else match xI P (d.name.name == "<init>") d.cid i a b L S H with
            | some (L', S', H') => exe P n mi (pc + len) L' S' H'
            | none => none
end Jvm.Own
namespace Jvm.Own
open Jvm Jvm.ClassFile Sem Op Lib Jvm.Free Jvm.Stand Jvm.LawKit Jvm.RoadKit Bundle

/-! The words that the machine's program rests on -/
def fWord (C : String) (f : FD) : Jvm.Cond := if f.2.2.2 then .laysFinal C C f.1 f.2.1 else .lays C C f.1 f.2.1
def cWords (cd : CD) : List Jvm.Cond := .instantiable cd.1 cd.2.1 :: .initialized cd.1 :: cd.2.2.map (fWord cd.1)
def mWords (y : MD) : List Jvm.Cond := .code y.name y.bytes y.maxL y.ret :: .initialized y.name.cls ::
  (if y.kind = 0 then [.static y.name] else if y.kind = 1 then [.instanceMethod y.name] else if y.kind = 2 then [.instanceMethod y.name, .privateMethod y.name]
   else [.declares y.name, .selects y.name.cls y.name y.name, .instanceMethod y.name])
def fieldOf (P : PD) (c a : Nat) : Option FD := (P.cls[c]?).bind fun cd => cd.2.2[a]?
def fLink (P : PD) (d : MD) (k a : Nat) : List Jvm.Cond := match fieldOf P d.cid a with | some f => [.fieldLink d.name.cls k d.name.cls f.1 f.2.1] | none => []
def mLink (P : PD) (d : MD) (k a : Nat) (b : Int) : List Jvm.Cond :=
  if b = -1 then [.methodLink d.name.cls k Lib.objectInit, .instanceMethod Lib.objectInit, .code Lib.objectInit ⟨#[0xb1]⟩ 1 none]
  else match P.mth[a]? with | some y => [.methodLink d.name.cls k y.name] | none => []
def iWords (P : PD) (d : MD) (x : Nat × It) : List Jvm.Cond := match x with
  | (_, .getfield k, _, _, a, _) => fLink P d k a
  | (_, .putfield k, _, _, a, _) => fLink P d k a
  | (_, .ldc k, _, _, _, b) => [.constant d.name.cls k (Int32.ofInt b)]
  | (_, .ldc2_w k, _, _, _, b) => [.constantLong d.name.cls k (Int64.ofInt b)]
  | (_, .new k, _, _, a, _) => match P.cls[a]? with | some cd => [.classLink d.name.cls k cd.1] | none => []
  | (_, .newarray t, _, _, _, _) => [.arrayClass (newarray.typeOf t)]
  | (_, .invokestatic k, _, _, a, b) => mLink P d k a b
  | (_, .invokespecial k, _, _, a, b) => mLink P d k a b
  | (_, .invokevirtual k, _, _, a, b) => mLink P d k a b
  | _ => []
def wordsOf (P : PD) : List Jvm.Cond := P.cls.flatMap cWords ++ (P.mth.drop 1).flatMap mWords ++ P.mth.flatMap fun d => d.code.flatMap (iWords P d)
/-! What can be looked up in the program itself -/
def nodup : List String → Bool
  | [] => true
  | x :: r => !r.contains x && nodup r
def fChk (f : FD) : Bool := decide (parseFieldDescriptor f.2.1 = some f.2.2.1) && dfOk f.2.2.1
def cChk (cd : CD) : Bool := nodup (cd.2.2.map fun f => f.1) && cd.2.2.all fChk
def sigChk (y : MD) : Bool := match parseMethodDescriptor y.name.desc with
  | some g => decide (g.parameters.length = y.npar)
  | none => false
def lenOk (i : Instr) (n : Nat) : Bool := match i with
  | .aload _ | .iload _ | .lload _ | .istore _ | .astore _ | .lstore _ | .bipush _ | .ldc _ | .newarray _ => n == 2
  | .iinc _ _ | .sipush _ | .ldc2_w _ | .getfield _ | .putfield _ | .new _ | .goto _ | .if_icmp _ _ | .ifCond _ _ | .ifnonnull _ | .invokestatic _ | .invokespecial _ | .invokevirtual _ => n == 3
  | _ => n == 1
def codeChk (y : MD) : Bool := y.code.all fun x => decide (decode y.bytes x.1 = .ok (x.2.1, x.2.2.1)) && lenOk x.2.1 x.2.2.1
def clsChk (P : PD) (y : MD) : Bool := match P.cls[y.cid]? with | some cd => cd.1 == y.name.cls | none => y.kind == 0
def mChk (P : PD) (y : MD) : Bool := plainName y.name.cls && sigChk y && codeChk y && clsChk P y && decide (y.name.cls ≠ "java/lang/invoke/MethodHandle") && decide (y.name.cls ≠ "java/lang/invoke/VarHandle") && (y.kind != 1 || (y.name.name == "<init>" && decide (y.ret = none)))
def chk (P : PD) : Bool := P.cls.all cChk && P.mth.all (mChk P)

/-! Plain and real values -/
def VR (ρ : List Addr) : Value → Value → Prop
  | .ref k, w => ∃ a, ρ[k]? = some a ∧ w = .ref a
  | v, w => w = v
def SR (ρ : List Addr) : List Value → List Value → Prop
  | [], ws => ws = []
  | v :: vs, ws => ∃ w ws', ws = w :: ws' ∧ VR ρ v w ∧ SR ρ vs ws'
def OV (ρ : List Addr) : Option Value → Option Value → Prop
  | none, w => w = none
  | some v, w => ∃ u, w = some u ∧ VR ρ v u
def WFc (A : Array Slot) : Prop := (∀ (i : Nat) w, A[i]? = some (.val w) → w.category = 2 → A[i + 1]? = some .second) ∧ ∀ (i : Nat), A[i]? = some .second → ∃ j w, i = j + 1 ∧ A[j]? = some (.val w) ∧ w.category = 2
def SlR (ρ : List Addr) : Slot → Option Slot → Prop
  | .unset, _ => True
  | .second, o => o = some .second
  | .val v, o => ∃ w, VR ρ v w ∧ o = some (.val w)
def LR (ρ : List Addr) (L : List Slot) (A : Array Slot) : Prop := A.size = L.length ∧ WFc A ∧ ∀ (i : Nat) s, L[i]? = some s → SlR ρ s A[i]?
theorem VR.mono {ρ t : List Addr} {v w : Value} (h : VR ρ v w) : VR (ρ ++ t) v w := by
  cases v <;> first | exact h | skip
  obtain ⟨a, h1, h2⟩ := h
  exact ⟨a, by rw [List.getElem?_append_left (List.getElem?_eq_some_iff.mp h1).1]; exact h1, h2⟩
theorem SR.mono {ρ t : List Addr} : ∀ {v w : List Value}, SR ρ v w → SR (ρ ++ t) v w
  | [], _, h => h
  | _ :: _, _, ⟨w, ws, h1, h2, h3⟩ => ⟨w, ws, h1, h2.mono, SR.mono h3⟩
theorem SlR.mono {ρ t : List Addr} {s : Slot} {o : Option Slot} (h : SlR ρ s o) : SlR (ρ ++ t) s o := by
  cases s with
  | unset => trivial
  | second => exact h
  | val v => obtain ⟨w, h1, h2⟩ := h; exact ⟨w, h1.mono, h2⟩
theorem LR.mono {ρ t : List Addr} {L : List Slot} {A : Array Slot} (h : LR ρ L A) : LR (ρ ++ t) L A := ⟨h.1, h.2.1, fun i s q => (h.2.2 i s q).mono⟩
theorem VR.cat {ρ : List Addr} {v w : Value} (h : VR ρ v w) : w.category = v.category := by
  cases v <;> first | (obtain ⟨a, -, rfl⟩ := h; rfl) | (cases h; rfl)
theorem SR.cat {ρ : List Addr} : ∀ {v w : List Value}, SR ρ v w → (w.map fun v => v.category).sum = catSum v
  | [], _, h => by cases h; rfl
  | _ :: _, _, ⟨w, ws, h1, h2, h3⟩ => by subst h1; simp [catSum, h2.cat, SR.cat h3]
theorem SR.len {ρ : List Addr} : ∀ {v w : List Value}, SR ρ v w → w.length = v.length
  | [], _, h => by cases h; rfl
  | _ :: _, _, ⟨w, ws, h1, h2, h3⟩ => by subst h1; simp [SR.len h3]
theorem SR.app {ρ : List Addr} : ∀ {v w v' w' : List Value}, SR ρ v w → SR ρ v' w' → SR ρ (v ++ v') (w ++ w')
  | [], _, _, _, h, h' => by cases h; exact h'
  | _ :: _, _, _, _, ⟨w, ws, h1, h2, h3⟩, h' => by subst h1; exact ⟨w, ws ++ _, rfl, h2, SR.app h3 h'⟩
theorem SR.rev {ρ : List Addr} : ∀ {v w : List Value}, SR ρ v w → SR ρ v.reverse w.reverse
  | [], _, h => by cases h; exact rfl
  | _ :: _, _, ⟨w, ws, h1, h2, h3⟩ => by subst h1; simp only [List.reverse_cons]; exact (SR.rev h3).app ⟨w, [], rfl, h2, rfl⟩
theorem SR.take {ρ : List Addr} : ∀ (n : Nat) {v w : List Value}, SR ρ v w → SR ρ (v.take n) (w.take n)
  | 0, _, _, _ => rfl
  | n + 1, [], _, h => by cases h; exact rfl
  | n + 1, _ :: _, _, ⟨w, ws, h1, h2, h3⟩ => by subst h1; exact ⟨w, _, rfl, h2, SR.take n h3⟩
theorem SR.drop {ρ : List Addr} : ∀ (n : Nat) {v w : List Value}, SR ρ v w → SR ρ (v.drop n) (w.drop n)
  | 0, _, _, h => h
  | n + 1, [], _, h => by cases h; exact rfl
  | n + 1, _ :: _, _, ⟨w, ws, h1, h2, h3⟩ => by subst h1; exact SR.drop n h3
theorem OV.list {ρ : List Addr} {v w : Option Value} (h : OV ρ v w) : SR ρ v.toList w.toList := by
  cases v with
  | none => cases h; exact rfl
  | some v => obtain ⟨u, rfl, h⟩ := h; exact ⟨u, [], rfl, h, rfl⟩
theorem LR.get {ρ : List Addr} {L : List Slot} {A : Array Slot} (h : LR ρ L A) {k : Nat} {v : Value} (g : getL L k = some v) : ∃ w, VR ρ v w ∧ A[k]? = some (.val w) := by
  unfold getL at g
  split at g
  · rename_i u q
    cases g
    exact h.2.2 k _ q
  · cases g
theorem forget_get : ∀ (er : List Bool) (L : List Slot) (i : Nat) (s : Slot), (forget er L)[i]? = some s → s = .unset ∨ L[i]? = some s
  | [], L, i, s, h => Or.inr h
  | _ :: _, [], i, s, h => by simp [forget] at h
  | true :: r, t :: L, 0, s, h => by simp [forget] at h; exact Or.inl h.symm
  | false :: r, t :: L, 0, s, h => by simp [forget] at h; exact Or.inr (by simp [h])
  | true :: r, t :: L, i + 1, s, h => by simp [forget] at h; simpa using forget_get r L i s h
  | false :: r, t :: L, i + 1, s, h => by simp [forget] at h; simpa using forget_get r L i s h
theorem forget_len : ∀ (er : List Bool) (L : List Slot), (forget er L).length = L.length
  | [], _ => rfl
  | _ :: _, [] => rfl
  | true :: r, _ :: L => by simp [forget, forget_len r L]
  | false :: r, _ :: L => by simp [forget, forget_len r L]
theorem LR.forget {ρ : List Addr} {A : Array Slot} (er : List Bool) {L : List Slot} (h : LR ρ L A) : LR ρ (forget er L) A :=
  ⟨by rw [forget_len]; exact h.1, h.2.1, fun i s q => by
    rcases forget_get er L i s q with rfl | z
    · trivial
    · exact h.2.2 i s z⟩
/-! Stores -/
theorem setAt_ok {A : Array Slot} {i : Nat} (h : i < A.size) (x : Slot) : setAt A i x = some (A.setIfInBounds i x) := by simp [setAt, h]
theorem get_set (A : Array Slot) (i j : Nat) (x : Slot) : (A.setIfInBounds i x)[j]? = if i = j then (if i < A.size then some x else none) else A[j]? := by
  rw [Array.getElem?_setIfInBounds]
theorem sl_unset {A : Array Slot} {k : Nat} {w : Value} (h : A[k]? = some .unset) : storeLocals A k w = storeSelf A k w := by
  unfold storeLocals; rw [h]; rfl
theorem sl_second {A : Array Slot} {k : Nat} {w : Value} (h : A[k]? = some .second) (hk : k - 1 < A.size) : storeLocals A k w = storeSelf (A.setIfInBounds (k - 1) .unset) k w := by
  unfold storeLocals; rw [h]
  show (setAt A (k - 1) .unset).bind _ = _
  rw [setAt_ok hk]; rfl
theorem sl_val2 {A : Array Slot} {k : Nat} {w u : Value} (h : A[k]? = some (.val u)) (hu : u.category = 2) (hk : k + 1 < A.size) : storeLocals A k w = storeSelf (A.setIfInBounds (k + 1) .unset) k w := by
  unfold storeLocals; rw [h]
  show (if u.category = 2 then (setAt A (k + 1) .unset).bind _ else _) = _
  rw [if_pos hu, setAt_ok hk]; rfl
theorem sl_val1 {A : Array Slot} {k : Nat} {w u : Value} (h : A[k]? = some (.val u)) (hu : ¬ u.category = 2) : storeLocals A k w = storeSelf A k w := by
  unfold storeLocals; rw [h]
  show (if u.category = 2 then (setAt A (k + 1) .unset).bind _ else _) = _
  rw [if_neg hu]
theorem ss_1 {A : Array Slot} {k : Nat} {w : Value} (hk : k < A.size) (hw : ¬ w.category = 2) : storeSelf A k w = some (A.setIfInBounds k (.val w)) := by
  unfold storeSelf; rw [setAt_ok hk]
  show (if w.category = 2 then _ else _) = _
  rw [if_neg hw]
theorem ss_2c {A : Array Slot} {k : Nat} {w u : Value} (hk : k < A.size) (hk1 : k + 1 < A.size) (hk2 : k + 2 < A.size) (hw : w.category = 2) (h : (A.setIfInBounds k (.val w))[k + 1]? = some (.val u)) (hu : u.category = 2) : storeSelf A k w = some (((A.setIfInBounds k (.val w)).setIfInBounds (k + 2) .unset).setIfInBounds (k + 1) .second) := by
  unfold storeSelf; rw [setAt_ok hk]
  show (if w.category = 2 then _ else _) = _
  rw [if_pos hw, h]
  show (if u.category = 2 then (setAt _ (k + 2) .unset).bind _ else _) = _
  rw [if_pos hu, setAt_ok (by simpa using hk2)]
  exact setAt_ok (by simpa using hk1) _
theorem ss_2 {A : Array Slot} {k : Nat} {w : Value} {o : Slot} (hk : k < A.size) (hk1 : k + 1 < A.size) (hw : w.category = 2) (h : (A.setIfInBounds k (.val w))[k + 1]? = some o) (ho : ¬ ∃ u, o = .val u ∧ u.category = 2) : storeSelf A k w = some ((A.setIfInBounds k (.val w)).setIfInBounds (k + 1) .second) := by
  unfold storeSelf; rw [setAt_ok hk]
  show (if w.category = 2 then _ else _) = _
  rw [if_pos hw, h]
  cases o with
  | unset => exact setAt_ok (by simpa using hk1) _
  | second => exact setAt_ok (by simpa using hk1) _
  | val u =>
    show (if u.category = 2 then _ else _) = _
    rw [if_neg fun z => ho ⟨u, rfl, z⟩]
    exact setAt_ok (by simpa using hk1) _
theorem store1_sim {ρ : List Addr} {L : List Slot} {A : Array Slot} (h : LR ρ L A) {k : Nat} {v w : Value} {L' : List Slot} (hs : st1 L k v = some L') (hv : VR ρ v w) (hc : w.category = 1) : ∃ A', storeLocals A k w = some A' ∧ LR ρ L' A' := by
  unfold st1 at hs
  split at hs
  · rename_i q
    cases hs
    simp only [Bool.and_eq_true] at q
    obtain ⟨⟨q1, q2⟩, q3⟩ := q
    obtain ⟨hA, ⟨w1, w2⟩, hl⟩ := h
    have hk : k < L.length := by
      rcases Nat.lt_or_ge k L.length with z | z
      · exact z
      · rw [List.getElem?_eq_none z] at q1; cases q1
    have hkA : k < A.size := hA ▸ hk
    obtain ⟨sl, hsl⟩ : ∃ sl, A[k]? = some sl := ⟨A[k], Array.getElem?_eq_getElem hkA⟩
    have hc2 : ¬ w.category = 2 := by rw [hc]; decide
    classical
    have key : ∃ A', storeLocals A k w = some A' ∧ A'.size = A.size ∧ (∀ j, A'[j]? = if j = k then some (.val w) else if (sl = .second ∧ j + 1 = k) ∨ ((∃ u, sl = .val u ∧ u.category = 2) ∧ j = k + 1) then some .unset else A[j]?) := by
      cases sl with
      | unset =>
        refine ⟨A.setIfInBounds k (.val w), by rw [sl_unset hsl]; exact ss_1 hkA hc2, by simp, fun j => ?_⟩
        rw [get_set]
        by_cases e : k = j
        · subst e; simp [hkA]
        · have e' : ¬ j = k := fun z => e z.symm
          simp [e, e']
      | second =>
        obtain ⟨j0, u, rfl, g1, g2⟩ := w2 k hsl
        refine ⟨(A.setIfInBounds j0 .unset).setIfInBounds (j0 + 1) (.val w), by rw [sl_second hsl (show j0 + 1 - 1 < A.size by omega)]; exact ss_1 (by simpa using hkA) hc2, by simp, fun j => ?_⟩
        rw [get_set, get_set]
        by_cases e : j0 + 1 = j
        · subst e; simp [hkA]
        · by_cases e2 : j0 = j
          · subst e2; simp; omega
          · have e' : ¬ j = j0 + 1 := fun z => e z.symm
            have e2' : ¬ j = j0 := fun z => e2 z.symm
            simp [e, e', e2, e2']
      | val u =>
        by_cases hu : u.category = 2
        · have g := w1 k u hsl hu
          have hk1 : k + 1 < A.size := (Array.getElem?_eq_some_iff.mp g).1
          refine ⟨(A.setIfInBounds (k + 1) .unset).setIfInBounds k (.val w), by rw [sl_val2 hsl hu hk1]; exact ss_1 (by simpa using hkA) hc2, by simp, fun j => ?_⟩
          rw [get_set, get_set]
          by_cases e : k = j
          · subst e; simp [hkA]
          · have e' : ¬ j = k := fun z => e z.symm
            by_cases e2 : k + 1 = j
            · subst e2; simp [hk1, hu]
            · have e2' : ¬ j = k + 1 := fun z => e2 z.symm
              simp [e, e', e2, e2']
        · refine ⟨A.setIfInBounds k (.val w), by rw [sl_val1 hsl hu]; exact ss_1 hkA hc2, by simp, fun j => ?_⟩
          rw [get_set]
          by_cases e : k = j
          · subst e; simp [hkA]
          · have e' : ¬ j = k := fun z => e z.symm
            simp [e, e', hu]
    obtain ⟨A', k1, k2, k3⟩ := key
    refine ⟨A', k1, by rw [k2, hA]; simp, ⟨fun i u g1 g2 => ?_, fun i g1 => ?_⟩, fun i s g => ?_⟩
    · rw [k3] at g1
      split at g1
      · cases g1; exact absurd g2 hc2
      · rename_i e1
        split at g1
        · cases g1
        · rename_i e2
          have g3 := w1 i u g1 g2
          rw [k3]
          split
          · rename_i e3
            have : sl = .second := by rw [← e3] at hsl; exact Option.some.inj (hsl.symm.trans g3)
            exact absurd (Or.inl ⟨this, e3⟩) e2
          · rename_i e3
            split
            · rename_i e4
              rcases e4 with ⟨z1, z2⟩ | ⟨⟨u', z1, z2⟩, z3⟩
              · exfalso
                have : k = i + 1 + 1 := z2.symm
                subst this
                rw [z1] at hsl
                obtain ⟨j0, u0, y1, y2, y3⟩ := w2 _ hsl
                have : j0 = i + 1 := by omega
                subst this
                rw [g3] at y2; cases y2
              · exact absurd (by omega) e1
            · exact g3
    · rw [k3] at g1
      split at g1
      · cases g1
      · rename_i e1
        split at g1
        · cases g1
        · rename_i e2
          obtain ⟨j, u, z1, z2, z3⟩ := w2 i g1
          refine ⟨j, u, z1, ?_, z3⟩
          rw [k3]
          split
          · rename_i e3
            subst e3
            have : sl = .val u := Option.some.inj (hsl.symm.trans z2)
            exact absurd (Or.inr ⟨⟨u, this, z3⟩, z1⟩) e2
          · split
            · rename_i e3 e4
              rcases e4 with ⟨y1, y2⟩ | ⟨⟨u', y1, y2⟩, y3⟩
              · exact absurd (z1.trans y2) e1
              · subst y3
                have g5 := w1 k u' (y1 ▸ hsl) y2
                rw [z2] at g5; cases g5
            · exact z2
    · rw [List.getElem?_set] at g
      split at g
      · rename_i e
        subst e
        cases g
        exact ⟨w, hv, by rw [k3]; simp⟩
      · rename_i e
        have e' : ¬ i = k := fun z => e z.symm
        have g2 := hl i s g
        rw [k3, if_neg e']
        split
        · rename_i e4
          cases s with
          | unset => trivial
          | second =>
            exfalso
            have g2' : A[i]? = some .second := g2
            rcases e4 with ⟨y1, y2⟩ | ⟨⟨u', y1, y2⟩, y3⟩
            · obtain ⟨j0, u0, x1, x2, x3⟩ := w2 k (y1 ▸ hsl)
              have : i = j0 := by omega
              subst this
              rw [x2] at g2'; cases g2'
            · subst y3
              rw [g] at q3
              simp [isSec] at q3
          | val v0 =>
            exfalso
            obtain ⟨w0, x1, x2⟩ := g2
            rcases e4 with ⟨y1, y2⟩ | ⟨⟨u', y1, y2⟩, y3⟩
            · obtain ⟨j0, u0, z1, z2, z3⟩ := w2 k (y1 ▸ hsl)
              have : i = j0 := by omega
              subst this
              have hw0 : w0 = u0 := by rw [x2] at z2; cases z2; rfl
              have hcat : v0.category = 2 := by rw [← x1.cat, hw0]; exact z3
              subst y2
              have : L[i + 1 - 1]? = some (.val v0) := g
              rw [this] at q2
              simp [isC2, hcat] at q2
            · subst y3
              have g5 := w1 k u' (y1 ▸ hsl) y2
              rw [x2] at g5; cases g5
        · exact g2
  · cases hs
end Jvm.Own
namespace Jvm.Own
open Jvm Jvm.ClassFile Sem Op Lib Jvm.Free Jvm.Stand Jvm.LawKit Jvm.RoadKit Bundle
theorem store2_sim {ρ : List Addr} {L : List Slot} {A : Array Slot} (h : LR ρ L A) {k : Nat} {v w : Value} {L' : List Slot} (hs : st2 L k v = some L') (hv : VR ρ v w) (hc : w.category = 2) : ∃ A', storeLocals A k w = some A' ∧ LR ρ L' A' := by
  unfold st2 at hs
  split at hs
  · rename_i q
    cases hs
    simp only [Bool.and_eq_true] at q
    obtain ⟨⟨q1, q2⟩, q3⟩ := q
    obtain ⟨hA, ⟨w1, w2⟩, hl⟩ := h
    have hk1 : k + 1 < L.length := by
      rcases Nat.lt_or_ge (k + 1) L.length with z | z
      · exact z
      · rw [List.getElem?_eq_none z] at q1
        cases h0 : L[k]? with
        | none => rw [h0] at q1; cases q1
        | some s0 => rw [h0] at q1; cases s0 <;> cases q1
    have hk : k < L.length := by omega
    have hkA : k < A.size := hA ▸ hk
    have hkA1 : k + 1 < A.size := hA ▸ hk1
    obtain ⟨sl, hsl⟩ : ∃ sl, A[k]? = some sl := ⟨A[k], Array.getElem?_eq_getElem hkA⟩
    obtain ⟨sm, hsm⟩ : ∃ sm, A[k + 1]? = some sm := ⟨A[k + 1], Array.getElem?_eq_getElem hkA1⟩
    have n1 : ¬ k = k + 1 := by omega
    have n2 : ¬ k + 2 = k + 1 := by omega
    have n3 : ¬ k + 2 = k := by omega
    classical
    have key : ∃ A', storeLocals A k w = some A' ∧ A'.size = A.size ∧ (∀ j, A'[j]? = if j = k then some (.val w) else if j = k + 1 then some .second else if (sl = .second ∧ j + 1 = k) ∨ ((∃ u, sm = .val u ∧ u.category = 2) ∧ j = k + 2) then some .unset else A[j]?) := by
      by_cases hm : ∃ u, sm = .val u ∧ u.category = 2
      · obtain ⟨u, rfl, hu⟩ := hm
        have g := w1 (k + 1) u hsm hu
        have hk2 : k + 2 < A.size := (Array.getElem?_eq_some_iff.mp g).1
        cases sl with
        | unset =>
          refine ⟨((A.setIfInBounds k (.val w)).setIfInBounds (k + 2) .unset).setIfInBounds (k + 1) .second, ?_, by simp, fun j => ?_⟩
          · rw [sl_unset hsl]; exact ss_2c hkA hkA1 hk2 hc (by rw [get_set, if_neg n1]; exact hsm) hu
          · rw [get_set, get_set, get_set]
            by_cases e0 : j = k
            · subst e0; simp [hkA]
            · by_cases e1 : j = k + 1
              · subst e1; simp [hkA1]
              · by_cases e2 : j = k + 2
                · subst e2; simp [hk2, hu]
                · have e0' : ¬ k = j := fun z => e0 z.symm
                  have e1' : ¬ k + 1 = j := fun z => e1 z.symm
                  have e2' : ¬ k + 2 = j := fun z => e2 z.symm
                  simp [e0, e1, e2, e0', e1', e2']
        | second =>
          obtain ⟨j0, u0, rfl, g1, g2⟩ := w2 k hsl
          have hj0 : j0 < A.size := by omega
          refine ⟨(((A.setIfInBounds j0 .unset).setIfInBounds (j0 + 1) (.val w)).setIfInBounds (j0 + 1 + 2) .unset).setIfInBounds (j0 + 1 + 1) .second, ?_, by simp, fun j => ?_⟩
          · have m1 : ¬ j0 + 1 = j0 + 1 + 1 := by omega
            have m2 : ¬ j0 = j0 + 1 + 1 := by omega
            rw [sl_second hsl (show j0 + 1 - 1 < A.size by omega)]
            exact ss_2c (by simpa using hkA) (by simpa using hkA1) (by simpa using hk2) hc (by rw [get_set, if_neg m1, get_set, if_neg (by omega)]; exact hsm) hu
          · rw [get_set, get_set, get_set, get_set]
            by_cases e0 : j = j0 + 1
            · subst e0; simp [hkA]
            · by_cases e1 : j = j0 + 1 + 1
              · subst e1; simp [hkA1]
              · by_cases e2 : j = j0 + 1 + 2
                · subst e2; simp [hk2, hu]
                · by_cases e3 : j = j0
                  · subst e3
                    rw [if_neg (by omega), if_neg (by omega), if_neg (by omega), if_pos rfl, if_pos hj0, if_neg (by omega), if_neg (by omega), if_pos (Or.inl ⟨rfl, rfl⟩)]
                  · have e0' : ¬ j0 + 1 = j := fun z => e0 z.symm
                    have e1' : ¬ j0 + 1 + 1 = j := fun z => e1 z.symm
                    have e2' : ¬ j0 + 1 + 2 = j := fun z => e2 z.symm
                    have e3' : ¬ j0 = j := fun z => e3 z.symm
                    simp [e0, e1, e2, e3, e0', e1', e2', e3']
        | val u1 =>
          have hu1 : ¬ u1.category = 2 := fun z => by have := w1 k u1 hsl z; rw [hsm] at this; cases this
          refine ⟨((A.setIfInBounds k (.val w)).setIfInBounds (k + 2) .unset).setIfInBounds (k + 1) .second, ?_, by simp, fun j => ?_⟩
          · rw [sl_val1 hsl hu1]; exact ss_2c hkA hkA1 hk2 hc (by rw [get_set, if_neg n1]; exact hsm) hu
          · rw [get_set, get_set, get_set]
            by_cases e0 : j = k
            · subst e0; simp [hkA]
            · by_cases e1 : j = k + 1
              · subst e1; simp [hkA1]
              · by_cases e2 : j = k + 2
                · subst e2; simp [hk2, hu]
                · have e0' : ¬ k = j := fun z => e0 z.symm
                  have e1' : ¬ k + 1 = j := fun z => e1 z.symm
                  have e2' : ¬ k + 2 = j := fun z => e2 z.symm
                  simp [e0, e1, e2, e0', e1', e2']
      · cases sl with
        | unset =>
          refine ⟨(A.setIfInBounds k (.val w)).setIfInBounds (k + 1) .second, ?_, by simp, fun j => ?_⟩
          · rw [sl_unset hsl]; exact ss_2 hkA hkA1 hc (by rw [get_set, if_neg n1]; exact hsm) hm
          · rw [get_set, get_set]
            by_cases e0 : j = k
            · subst e0; simp [hkA]
            · by_cases e1 : j = k + 1
              · subst e1; simp [hkA1]
              · have e0' : ¬ k = j := fun z => e0 z.symm
                have e1' : ¬ k + 1 = j := fun z => e1 z.symm
                simp [e0, e1, e0', e1', hm]
        | second =>
          obtain ⟨j0, u0, rfl, g1, g2⟩ := w2 k hsl
          have hj0 : j0 < A.size := by omega
          have m1 : ¬ j0 + 1 = j0 + 1 + 1 := by omega
          have m2 : ¬ j0 = j0 + 1 + 1 := by omega
          refine ⟨((A.setIfInBounds j0 .unset).setIfInBounds (j0 + 1) (.val w)).setIfInBounds (j0 + 1 + 1) .second, ?_, by simp, fun j => ?_⟩
          · rw [sl_second hsl (show j0 + 1 - 1 < A.size by omega)]
            exact ss_2 (by simpa using hkA) (by simpa using hkA1) hc (by rw [get_set, if_neg m1, get_set, if_neg (by omega)]; exact hsm) hm
          · rw [get_set, get_set, get_set]
            by_cases e0 : j = j0 + 1
            · subst e0; simp [hkA]
            · by_cases e1 : j = j0 + 1 + 1
              · subst e1; simp [hkA1]
              · by_cases e3 : j = j0
                · subst e3
                  rw [if_neg (by omega), if_neg (by omega), if_pos rfl, if_pos hj0, if_neg (by omega), if_neg (by omega), if_pos (Or.inl ⟨rfl, rfl⟩)]
                · have e0' : ¬ j0 + 1 = j := fun z => e0 z.symm
                  have e1' : ¬ j0 + 1 + 1 = j := fun z => e1 z.symm
                  have e3' : ¬ j0 = j := fun z => e3 z.symm
                  simp [e0, e1, e3, e0', e1', e3', hm]
        | val u1 =>
          by_cases hu1 : u1.category = 2
          · refine ⟨((A.setIfInBounds (k + 1) .unset).setIfInBounds k (.val w)).setIfInBounds (k + 1) .second, ?_, by simp, fun j => ?_⟩
            · rw [sl_val2 hsl hu1 hkA1]
              exact ss_2 (o := .unset) (by simpa using hkA) (by simpa using hkA1) hc (by rw [get_set, if_neg n1, get_set, if_pos rfl, if_pos hkA1]) (by rintro ⟨u, z, -⟩; cases z)
            · rw [get_set, get_set, get_set]
              by_cases e0 : j = k
              · subst e0; simp [hkA]
              · by_cases e1 : j = k + 1
                · subst e1; simp [hkA1]
                · have e0' : ¬ k = j := fun z => e0 z.symm
                  have e1' : ¬ k + 1 = j := fun z => e1 z.symm
                  simp [e0, e1, e0', e1', hm]
          · refine ⟨(A.setIfInBounds k (.val w)).setIfInBounds (k + 1) .second, ?_, by simp, fun j => ?_⟩
            · rw [sl_val1 hsl hu1]; exact ss_2 hkA hkA1 hc (by rw [get_set, if_neg n1]; exact hsm) hm
            · rw [get_set, get_set]
              by_cases e0 : j = k
              · subst e0; simp [hkA]
              · by_cases e1 : j = k + 1
                · subst e1; simp [hkA1]
                · have e0' : ¬ k = j := fun z => e0 z.symm
                  have e1' : ¬ k + 1 = j := fun z => e1 z.symm
                  simp [e0, e1, e0', e1', hm]
    obtain ⟨A', k1, k2, k3⟩ := key
    refine ⟨A', k1, by rw [k2, hA]; simp, ⟨fun i u g1 g2 => ?_, fun i g1 => ?_⟩, fun i s g => ?_⟩
    · by_cases e1 : i = k
      · subst e1; rw [k3]; simp
      · have g1' := g1
        rw [k3, if_neg e1] at g1'
        split at g1'
        · cases g1'
        · rename_i e2
          split at g1'
          · cases g1'
          · rename_i e4
            have g3 := w1 i u g1' g2
            rw [k3]
            have c1 : ¬ i + 1 = k := fun e3 => by
              have : sl = .second := by rw [← e3] at hsl; exact Option.some.inj (hsl.symm.trans g3)
              exact e4 (Or.inl ⟨this, e3⟩)
            have c2 : ¬ i + 1 = k + 1 := by omega
            have c3 : ¬ ((sl = .second ∧ i + 1 + 1 = k) ∨ ((∃ u, sm = .val u ∧ u.category = 2) ∧ i + 1 = k + 2)) := fun z => by
              rcases z with ⟨z1, z2⟩ | ⟨z1, z2⟩
              · subst z2
                rw [z1] at hsl
                obtain ⟨j0, u0, y1, y2, y3⟩ := w2 _ hsl
                have : j0 = i + 1 := by omega
                subst this
                rw [g3] at y2; cases y2
              · omega
            rw [if_neg c1, if_neg c2, if_neg c3]
            exact g3
    · rw [k3] at g1
      split at g1
      · cases g1
      · rename_i e1
        split at g1
        · rename_i e2
          exact ⟨k, w, e2, by rw [k3]; simp, hc⟩
        · rename_i e2
          split at g1
          · cases g1
          · rename_i e4
            obtain ⟨j, u, z1, z2, z3⟩ := w2 i g1
            refine ⟨j, u, z1, ?_, z3⟩
            rw [k3]
            have c1 : ¬ j = k := by omega
            have c2 : ¬ j = k + 1 := fun e => by
              subst e
              exact e4 (Or.inr ⟨⟨u, Option.some.inj (hsm.symm.trans z2), z3⟩, by omega⟩)
            have c3 : ¬ ((sl = .second ∧ j + 1 = k) ∨ ((∃ u, sm = .val u ∧ u.category = 2) ∧ j = k + 2)) := fun z => by
              rcases z with ⟨y1, y2⟩ | ⟨⟨u', y1, y2⟩, y3⟩
              · exact e1 (z1.trans y2)
              · subst y3
                have g5 := w1 (k + 1) u' (y1 ▸ hsm) y2
                rw [z2] at g5; cases g5
            rw [if_neg c1, if_neg c2, if_neg c3]
            exact z2
    · rw [List.getElem?_set] at g
      split at g
      · rename_i e
        subst e
        have : k + 1 < (L.set k (.val v)).length := by simp [hk1]
        rw [if_pos this] at g
        cases g
        show A'[k + 1]? = some .second
        rw [k3]; simp
      · rename_i e
        have e' : ¬ i = k + 1 := fun z => e z.symm
        rw [List.getElem?_set] at g
        split at g
        · rename_i e0
          subst e0
          cases g
          exact ⟨w, hv, by rw [k3]; simp⟩
        · rename_i e0
          have e0' : ¬ i = k := fun z => e0 z.symm
          have g2 := hl i s g
          rw [k3, if_neg e0', if_neg e']
          split
          · rename_i e4
            cases s with
            | unset => trivial
            | second =>
              exfalso
              have g2' : A[i]? = some .second := g2
              rcases e4 with ⟨y1, y2⟩ | ⟨⟨u', y1, y2⟩, y3⟩
              · obtain ⟨j0, u0, x1, x2, x3⟩ := w2 k (y1 ▸ hsl)
                have : i = j0 := by omega
                subst this
                rw [x2] at g2'; cases g2'
              · subst y3
                rw [g] at q3
                simp [isSec] at q3
            | val v0 =>
              exfalso
              obtain ⟨w0, x1, x2⟩ := g2
              rcases e4 with ⟨y1, y2⟩ | ⟨⟨u', y1, y2⟩, y3⟩
              · obtain ⟨j0, u0, z1, z2, z3⟩ := w2 k (y1 ▸ hsl)
                have : i = j0 := by omega
                subst this
                have hw0 : w0 = u0 := by rw [x2] at z2; cases z2; rfl
                have hcat : v0.category = 2 := by rw [← x1.cat, hw0]; exact z3
                subst y2
                have : L[i + 1 - 1]? = some (.val v0) := g
                rw [this] at q2
                simp [isC2, hcat] at q2
              · subst y3
                have g5 := w1 (k + 1) u' (y1 ▸ hsm) y2
                rw [x2] at g5; cases g5
          · exact g2
  · cases hs
/-! The frame with which a method is entered -/
theorem entA_app (ws : List Value) : ∀ acc : Array Slot, ws.foldl (fun acc v => if v.category = 2 then (acc.push (.val v)).push .second else acc.push (.val v)) acc = acc ++ (entA ws).toArray := by
  induction ws with
  | nil => intro acc; simp [entA]
  | cons v r ih =>
    intro acc
    rw [List.foldl_cons, ih]
    show _ = acc ++ (if v.category = 2 then .val v :: .second :: entA r else .val v :: entA r).toArray
    by_cases h : v.category = 2
    · rw [if_pos h, if_pos h]; simp
    · rw [if_neg h, if_neg h]; simp
theorem argsToLocals_eq (ws : List Value) (n : Nat) : argsToLocals ws.toArray n = (entL ws n).toArray := by
  unfold argsToLocals entL
  have h := entA_app ws #[]
  simp only [List.foldl_toArray', List.size_toArray] at *
  simp [h]
theorem entA_len {ρ : List Addr} : ∀ {v w : List Value}, SR ρ v w → (entA w).length = (entA v).length
  | [], _, h => by cases h; rfl
  | _ :: _, _, ⟨w, ws, h1, h2, h3⟩ => by
    subst h1
    unfold entA
    rw [h2.cat]
    split <;> simp [entA_len h3]
theorem entA_rel {ρ : List Addr} : ∀ {v w : List Value}, SR ρ v w → ∀ (m i : Nat) (s : Slot), (entA v ++ List.replicate m .unset)[i]? = some s → SlR ρ s (entA w ++ List.replicate m .unset)[i]?
  | [], _, h, m, i, s, q => by
    cases h
    simp only [entA, List.nil_append] at q ⊢
    rw [List.getElem?_replicate] at q
    split at q
    · cases q; trivial
    · cases q
  | v :: vs, _, ⟨w, ws, h1, h2, h3⟩, m, i, s, q => by
    subst h1
    unfold entA at q ⊢
    rw [h2.cat]
    split
    · rename_i c
      rw [if_pos c] at q
      match i, q with
      | 0, q => simp at q; subst q; exact ⟨w, h2, by simp⟩
      | 1, q => simp at q; subst q; simp [SlR]
      | i + 2, q => simp at q ⊢; exact entA_rel h3 m i s q
    · rename_i c
      rw [if_neg c] at q
      match i, q with
      | 0, q => simp at q; subst q; exact ⟨w, h2, by simp⟩
      | i + 1, q => simp at q ⊢; exact entA_rel h3 m i s q
theorem entA_wf : ∀ (ws : List Value) (m : Nat), (∀ (i : Nat) w, (entA ws ++ List.replicate m .unset)[i]? = some (.val w) → w.category = 2 → (entA ws ++ List.replicate m .unset)[i + 1]? = some .second) ∧
    ∀ (i : Nat), (entA ws ++ List.replicate m .unset)[i]? = some .second → ∃ j w, i = j + 1 ∧ (entA ws ++ List.replicate m .unset)[j]? = some (.val w) ∧ w.category = 2
  | [], m => by
    constructor
    · intro i w q
      simp only [entA, List.nil_append, List.getElem?_replicate] at q
      split at q <;> cases q
    · intro i q
      simp only [entA, List.nil_append, List.getElem?_replicate] at q
      split at q <;> cases q
  | v :: vs, m => by
    obtain ⟨h1, h2⟩ := entA_wf vs m
    unfold entA
    split
    · rename_i c
      constructor
      · intro i w q
        match i, q with
        | 0, q => intro _; simp
        | 1, q => simp at q
        | i + 2, q => simp at q ⊢; exact h1 i w q
      · intro i q
        match i, q with
        | 0, q => simp at q
        | 1, q => exact ⟨0, v, rfl, by simp, c⟩
        | i + 2, q =>
          simp at q
          obtain ⟨j, w, e, g1, g2⟩ := h2 i q
          exact ⟨j + 2, w, by omega, by simpa using g1, g2⟩
    · rename_i c
      constructor
      · intro i w q
        match i, q with
        | 0, q => intro z; simp at q; subst q; exact absurd z c
        | i + 1, q => simp at q ⊢; exact h1 i w q
      · intro i q
        match i, q with
        | 0, q => simp at q
        | i + 1, q =>
          simp at q
          obtain ⟨j, w, e, g1, g2⟩ := h2 i q
          exact ⟨j + 1, w, by omega, by simpa using g1, g2⟩
theorem LR.enter {ρ : List Addr} {v w : List Value} (h : SR ρ v w) {n : Nat} (hn : (entA v).length ≤ n) : LR ρ (entL v n) (argsToLocals w.toArray n) ∧ (argsToLocals w.toArray n).size = n := by
  rw [argsToLocals_eq]
  have hl := entA_len h
  refine ⟨⟨by simp [entL, hl], ?_, fun i s q => ?_⟩, by simp [entL, hl]; omega⟩
  · obtain ⟨h1, h2⟩ := entA_wf w (n - (entA w).length)
    exact ⟨fun i u q c => by simpa [entL] using h1 i u (by simpa [entL] using q) c, fun i q => by
      obtain ⟨j, u, e, g1, g2⟩ := h2 i (by simpa [entL] using q)
      exact ⟨j, u, e, by simpa [entL] using g1, g2⟩⟩
  · unfold entL at q ⊢
    rw [hl]
    simpa using entA_rel h _ i s q
end Jvm.Own
namespace Jvm.RoadKit
open Sem ClassFile Op Lib Jvm.Stand Jvm.Free Jvm.LawKit
section New
variable {p : Program} {l : Launch} {e : Env} {R : Room} {s : State} {m : MethodId} {args : Array Value} {below : List Frame} {meth : Method} {c : Code} {T : State} {locs : List Loc} {cells slots : Nat}
theorem retI (X : Stand p l e R s m args below meth c T locs cells slots) (hx : p.tables.exec = Jvm.exec) {pc : Nat} {Ls : Array Slot} {z : Int32} {rest : List Value} (hret : meth.sig.returnType = some .int) (hd : decode c.code pc = .ok (.ireturn, 1)) {fs : List Frame}
    (hl : ∀ (f : JFrame) (acts : List Action), f.method = m → f.locked = none → f.entered = [] → (doReturn e (T.setTop f) acts (some (.int z))).1 = T.setFrames fs) : Steps p.tables e below (T.setTop (mkF m pc Ls (.int z :: rest))) (T.setFrames fs) := by
  have hm' : T.vm.method? m = some meth := X.method'
  have hn : narrow .int (.int z) = .int z := rfl
  show Steps p.tables e below (T.setTop { method := m, pc := pc, locals := Ls, stack := _ :: rest, locked := none }) _
  jvm_step X.here [X.here.top, hx, hd, hm', hret, hn]
  first | (intro acts; rw [hl _ acts rfl rfl rfl]) | rw [hl _ _ rfl rfl rfl]
  exact Steps.refl _
end New
end Jvm.RoadKit
namespace Jvm.Own
open Jvm Jvm.ClassFile Sem Op Lib Jvm.Free Jvm.Stand Jvm.LawKit Jvm.RoadKit Bundle
/-! The plain heap and the real one -/
def tyA (b : Bool) : FieldType := if b then .boolean else .int
def CR (P : PD) (Z : State) (h : Heap) (ρ : List Addr) (a : Addr) : ACell → Prop
  | .inl (c, fs) => ∃ cd, P.cls[c]? = some cd ∧ Exa Z h a cd.1 ∧ fs.length = cd.2.2.length ∧ ∀ (i : Nat) v fd, fs[i]? = some v → cd.2.2[i]? = some fd → ∃ w, VR ρ v w ∧ Fld Z h a cd.1 fd.1 fd.2.1 w
  | .inr (.inl (b, L)) => ∃ cl, Arr Z h a cl (tyA b) ∧ cl.slots.size = L.length ∧ L.length < 2 ^ 31 ∧ ∀ (i : Nat) x, L[i]? = some x → cl.slots[i]? = some (.int x)
  | .inr (.inr L) => ∃ cl, Arr Z h a cl .long ∧ cl.slots.size = L.length ∧ L.length < 2 ^ 31 ∧ ∀ (i : Nat) x, L[i]? = some x → cl.slots[i]? = some (.long x)
def HR (P : PD) (Z : State) (n0 : Nat) (h : Heap) (ρ : List Addr) (H : AHeap) : Prop :=
  n0 ≤ h.size ∧ ρ.length = H.length ∧ (∀ (i j : Nat) a, ρ[i]? = some a → ρ[j]? = some a → i = j) ∧ (∀ (k : Nat) a, ρ[k]? = some a → P.nr ≤ k → n0 ≤ a) ∧ ∀ (k : Nat) a c, ρ[k]? = some a → H[k]? = some c → CR P Z h ρ a c
section Heaps
variable {P : PD} {Z : State} {n0 : Nat} {h h' : Heap} {ρ : List Addr} {H : AHeap} {a : Addr} {k : Nat} {a0 : Array Value}
theorem CR.lt {c : ACell} (q : CR P Z h ρ a c) : a < h.size := by
  match c, q with
  | .inl (_, _), q => obtain ⟨cd, -, E, -⟩ := q; exact E.lt
  | .inr (.inl (_, _)), q => obtain ⟨cl, A, -⟩ := q; exact A.lt
  | .inr (.inr _), q => obtain ⟨cl, A, -⟩ := q; exact A.lt
theorem HR.at (q : HR P Z n0 h ρ H) {c : ACell} (hc : H[k]? = some c) : ∃ a, ρ[k]? = some a ∧ CR P Z h ρ a c := by
  obtain ⟨-, q1, -, -, q4⟩ := q
  have hk : k < ρ.length := by rw [q1]; exact (List.getElem?_eq_some_iff.mp hc).1
  exact ⟨ρ[k], List.getElem?_eq_getElem hk, q4 k _ c (List.getElem?_eq_getElem hk) hc⟩
theorem HR.lt (q : HR P Z n0 h ρ H) (hk : ρ[k]? = some a) : a < h.size := by
  obtain ⟨-, q1, -, -, q4⟩ := q
  have hk' : k < H.length := by rw [← q1]; exact (List.getElem?_eq_some_iff.mp hk).1
  exact (q4 k a _ hk (List.getElem?_eq_getElem hk')).lt
theorem CR.grow {t : List Addr} {c : ACell} (E : Ext h h') (q : CR P Z h ρ a c) : CR P Z h' (ρ ++ t) a c := by
  match c, q with
  | .inl (_, _), ⟨cd, q1, q2, q3, q4⟩ => exact ⟨cd, q1, q2.ext E, q3, fun i v fd g1 g2 => by obtain ⟨w, z1, z2⟩ := q4 i v fd g1 g2; exact ⟨w, z1.mono, z2.ext E⟩⟩
  | .inr (.inl (_, _)), ⟨cl, q1, q2⟩ => exact ⟨cl, q1.ext E, q2⟩
  | .inr (.inr _), ⟨cl, q1, q2⟩ => exact ⟨cl, q1.ext E, q2⟩
theorem HR.push {c : ACell} (q : HR P Z n0 h ρ H) (E : Ext h h') (hc : CR P Z h' (ρ ++ [h.size]) h.size c) : HR P Z n0 h' (ρ ++ [h.size]) (H ++ [c]) := by
  have q0 := q
  obtain ⟨q1, q2, q3, q4, q5⟩ := q
  have old : ∀ (i : Nat) b, (ρ ++ [h.size])[i]? = some b → (ρ[i]? = some b ∧ b < h.size) ∨ (i = ρ.length ∧ b = h.size) := fun i b g => by
    rw [List.getElem?_append] at g
    split at g
    · exact Or.inl ⟨g, q0.lt g⟩
    · rename_i z
      right
      have : i - ρ.length = 0 := by
        rcases Nat.eq_zero_or_pos (i - ρ.length) with y | y
        · exact y
        · rw [List.getElem?_eq_none (by simp; omega)] at g; cases g
      rw [this] at g
      simp at g
      exact ⟨by omega, g.symm⟩
  refine ⟨Nat.le_trans q1 E.1, by simp [q2], fun i j b g1 g2 => ?_, fun i b g1 g2 => ?_, fun i b c' g1 g2 => ?_⟩
  · rcases old i b g1 with ⟨y1, y2⟩ | ⟨y1, y2⟩ <;> rcases old j b g2 with ⟨z1, z2⟩ | ⟨z1, z2⟩
    · exact q3 i j b y1 z1
    · exact absurd (z2 ▸ y2) (Nat.lt_irrefl _)
    · exact absurd (y2 ▸ z2) (Nat.lt_irrefl _)
    · rw [y1, z1]
  · rcases old i b g1 with ⟨y1, y2⟩ | ⟨y1, y2⟩
    · exact q4 i b y1 g2
    · rw [y2]; exact q1
  · rcases old i b g1 with ⟨y1, y2⟩ | ⟨y1, y2⟩
    · have hi : i < H.length := by rw [← q2]; exact (List.getElem?_eq_some_iff.mp y1).1
      rw [List.getElem?_append_left hi] at g2
      exact (q5 i b c' y1 g2).grow E
    · subst y1 y2
      rw [q2] at g2
      simp at g2
      subst g2
      exact hc
theorem CR.other {v : Value} {sl : Nat} {b : Addr} {c : ACell} (W : Wr h h' a sl v) (ne : b ≠ a) (q : CR P Z h ρ b c) : CR P Z h' ρ b c := by
  match c, q with
  | .inl (_, _), ⟨cd, q1, q2, q3, q4⟩ => exact ⟨cd, q1, q2.wr W, q3, fun i v fd g1 g2 => by obtain ⟨w, z1, z2⟩ := q4 i v fd g1 g2; exact ⟨w, z1, z2.other W (Or.inl ne)⟩⟩
  | .inr (.inl (_, _)), ⟨cl, q1, q2⟩ => exact ⟨cl, q1.other W ne, q2⟩
  | .inr (.inr _), ⟨cl, q1, q2⟩ => exact ⟨cl, q1.other W ne, q2⟩
theorem HR.set {v : Value} {sl : Nat} {c : ACell} (q : HR P Z n0 h ρ H) (hk : ρ[k]? = some a) (W : Wr h h' a sl v) (hc : CR P Z h' ρ a c) : HR P Z n0 h' ρ (H.set k c) := by
  obtain ⟨q1, q2, q3, q4, q5⟩ := q
  refine ⟨by rw [W.size]; exact q1, by simp [q2], q3, q4, fun i b c' g1 g2 => ?_⟩
  rw [List.getElem?_set] at g2
  split at g2
  · rename_i e
    subst e
    split at g2
    · cases g2
      rw [hk] at g1; cases g1
      exact hc
    · cases g2
  · rename_i e
    exact (q5 i b c' g1 g2).other W fun z => e (q3 k i a hk (z ▸ g1))
theorem nodup_ne : ∀ {l : List String}, nodup l = true → ∀ {i j : Nat} {x y : String}, l[i]? = some x → l[j]? = some y → i ≠ j → x ≠ y
  | [], _, i, j, x, y, h1, _, _ => by simp at h1
  | z :: r, hn, i, j, x, y, h1, h2, ne => by
    simp only [nodup, Bool.and_eq_true, Bool.not_eq_true', List.contains_eq_mem, decide_eq_false_iff_not] at hn
    match i, j, h1, h2, ne with
    | 0, 0, _, _, ne => exact absurd rfl ne
    | 0, j + 1, h1, h2, _ => simp at h1 h2; subst h1; exact fun e => hn.1 (e ▸ List.mem_of_getElem? h2)
    | i + 1, 0, h1, h2, _ => simp at h1 h2; subst h2; exact fun e => hn.1 (e ▸ List.mem_of_getElem? h1)
    | i + 1, j + 1, h1, h2, ne => simp at h1 h2; exact nodup_ne hn.2 h1 h2 (fun e => ne (by rw [e]))
theorem laid_of {C : String} {f : FD} (w : (fWord C f).before a0 Z = true) : Laid Z a0 C C f.1 f.2.1 := by
  unfold fWord at w
  split at w
  · exact Or.inr w
  · exact Or.inl w
theorem HR.putF {c j : Nat} {fs : List Value} {cd : CD} {fd : FD} {v w : Value} (q : HR P Z n0 h ρ H) (hk : ρ[k]? = some a) (hc : H[k]? = some (.inl (c, fs))) (hcd : P.cls[c]? = some cd) (hfd : cd.2.2[j]? = some fd)
    (hck : cChk cd = true) (hl : ∀ f ∈ cd.2.2, (fWord cd.1 f).before a0 Z = true) (W : Wr h h' a (RoadKit.slotOf Z cd.1 fd.1 fd.2.1) w) (hv : VR ρ v w) : HR P Z n0 h' ρ (H.set k (.inl (c, fs.set j v))) := by
  obtain ⟨a', ha, cr⟩ := q.at hc
  rw [hk] at ha; cases ha
  obtain ⟨cd', q1, q2, q3, q4⟩ := cr
  rw [hcd] at q1; cases q1
  refine q.set hk W ⟨cd, hcd, q2.wr W, by simp [q3], fun i v0 fd' g1 g2 => ?_⟩
  simp only [cChk, Bool.and_eq_true, List.all_eq_true] at hck
  obtain ⟨n1, n2⟩ := hck
  by_cases e : j = i
  · subst e
    rw [hfd] at g2; cases g2
    rw [List.getElem?_set] at g1
    split at g1
    · split at g1
      · cases g1
        rename_i z
        obtain ⟨w0, -, F⟩ := q4 j _ fd (List.getElem?_eq_getElem z) hfd
        exact ⟨w, hv, F.same W⟩
      · cases g1
    · rename_i z; exact absurd rfl z
  · rw [List.getElem?_set_ne e] at g1
    obtain ⟨w0, z1, F⟩ := q4 i v0 fd' g1 g2
    refine ⟨w0, z1, F.other W (Or.inr ?_)⟩
    have m1 := List.mem_of_getElem? hfd
    have m2 := List.mem_of_getElem? g2
    have f1 := n2 fd m1
    have f2 := n2 fd' m2
    simp only [fChk, Bool.and_eq_true, decide_eq_true_eq] at f1 f2
    refine slot_ne (laid_of (hl fd' m2)) (laid_of (hl fd m1)) ?_ f2.1 f1.1
    exact nodup_ne n1 (i := i) (j := j) (by simp [g2]) (by simp [hfd]) (fun z => e z.symm)
theorem HR.wrI {b : Bool} {L : List Int32} {i : Nat} {x : Int32} (q : HR P Z n0 h ρ H) (hk : ρ[k]? = some a) (hc : H[k]? = some (.inr (.inl (b, L)))) (W : Wr h h' a i (.int x)) : HR P Z n0 h' ρ (H.set k (.inr (.inl (b, L.set i x)))) := by
  obtain ⟨a', ha, cr⟩ := q.at hc
  rw [hk] at ha; cases ha
  obtain ⟨cl, A, q2, q3, q4⟩ := cr
  have lt : i < cl.slots.size := by
    obtain ⟨cl', z1, -, z3, -⟩ := W
    rw [A.1] at z1; cases z1
    exact z3
  refine q.set hk W ⟨_, A.same W, by simp [sz_set, q2], by simpa using q3, fun j y g => ?_⟩
  rw [List.getElem?_set] at g
  split at g
  · rename_i e
    subst e
    split at g
    · cases g; simp [Cell.setSlot, lt]
    · cases g
  · rename_i e
    have := q4 j y g
    simp [Cell.setSlot, Array.getElem?_setIfInBounds, e, this]
theorem HR.wrJ {L : List Int64} {i : Nat} {x : Int64} (q : HR P Z n0 h ρ H) (hk : ρ[k]? = some a) (hc : H[k]? = some (.inr (.inr L))) (W : Wr h h' a i (.long x)) : HR P Z n0 h' ρ (H.set k (.inr (.inr (L.set i x)))) := by
  obtain ⟨a', ha, cr⟩ := q.at hc
  rw [hk] at ha; cases ha
  obtain ⟨cl, A, q2, q3, q4⟩ := cr
  have lt : i < cl.slots.size := by
    obtain ⟨cl', z1, -, z3, -⟩ := W
    rw [A.1] at z1; cases z1
    exact z3
  refine q.set hk W ⟨_, A.same W, by simp [sz_set, q2], by simpa using q3, fun j y g => ?_⟩
  rw [List.getElem?_set] at g
  split at g
  · rename_i e
    subst e
    split at g
    · cases g; simp [Cell.setSlot, lt]
    · cases g
  · rename_i e
    have := q4 j y g
    simp [Cell.setSlot, Array.getElem?_setIfInBounds, e, this]
end Heaps
theorem SR.int {ρ : List Addr} {x : Int32} {S Sc : List Value} (h : SR ρ (.int x :: S) Sc) : ∃ Sc', Sc = .int x :: Sc' ∧ SR ρ S Sc' := by
  obtain ⟨w, ws, h1, h2, h3⟩ := h
  exact ⟨ws, by rw [h1, show w = .int x from h2], h3⟩
theorem SR.long {ρ : List Addr} {x : Int64} {S Sc : List Value} (h : SR ρ (.long x :: S) Sc) : ∃ Sc', Sc = .long x :: Sc' ∧ SR ρ S Sc' := by
  obtain ⟨w, ws, h1, h2, h3⟩ := h
  exact ⟨ws, by rw [h1, show w = .long x from h2], h3⟩
theorem SR.ref {ρ : List Addr} {x : Nat} {S Sc : List Value} (h : SR ρ (.ref x :: S) Sc) : ∃ a Sc', ρ[x]? = some a ∧ Sc = .ref a :: Sc' ∧ SR ρ S Sc' := by
  obtain ⟨w, ws, h1, ⟨a, h2, h4⟩, h3⟩ := h
  exact ⟨a, ws, h2, by rw [h1, h4], h3⟩
theorem rdA_spec {α : Type} {L : List α} {j : Int32} {x : α} (h : rdA L j = some x) : ¬ j < 0 ∧ L[j.toNatClampNeg]? = some x := by
  unfold rdA at h
  split at h
  · cases h
  · rename_i q; exact ⟨q, h⟩
theorem wrA_spec {α : Type} {L L' : List α} {j : Int32} {x : α} (h : wrA L j x = some L') : ¬ j < 0 ∧ j.toNatClampNeg < L.length ∧ L' = L.set j.toNatClampNeg x := by
  unfold wrA at h
  split at h
  · cases h
  · rename_i q
    split at h
    · rename_i z; cases h; exact ⟨q, z, rfl⟩
    · cases h
end Jvm.Own
namespace Jvm.Own
open Jvm Jvm.ClassFile Sem Op Lib Jvm.Free Jvm.Stand Jvm.LawKit Jvm.RoadKit Bundle
theorem st1_len {L L' : List Slot} {k : Nat} {v : Value} (h : st1 L k v = some L') : L'.length = L.length := by
  unfold st1 at h
  split at h
  · cases h; simp
  · cases h
theorem st2_len {L L' : List Slot} {k : Nat} {v : Value} (h : st2 L k v = some L') : L'.length = L.length := by
  unfold st2 at h
  split at h
  · cases h; simp
  · cases h
theorem lrem_mod (x y : Int64) : x - (x / y) * y = x % y := by
  apply Int64.toInt_inj.mp
  have h1 := Int64.le_toInt (x % y)
  have h2 := Int64.toInt_lt (x % y)
  rw [Int64.toInt_sub, Int64.toInt_mul, Int64.toInt_div, Int.bmod_mul_bmod, Int.sub_bmod_bmod, Int.mul_comm (x.toInt.tdiv y.toInt), ← Int.tmod_def, ← Int64.toInt_mod]
  exact Int.bmod_eq_of_le_mul_two (by omega) (by omega)
theorem putOk_sim {ρ : List Addr} {ty : FieldType} {v w : Value} (h : putOk ty v = true) (hv : VR ρ v w) : narrow ty w = w ∧ fits ty w = true := by
  cases ty <;> cases v <;> first | (simp [putOk] at h; done) | skip
  · cases hv; exact ⟨rfl, rfl⟩
  · cases hv; exact ⟨rfl, rfl⟩
  · rename_i x
    cases hv
    simp only [putOk, Bool.or_eq_true, beq_iff_eq] at h
    rcases h with rfl | rfl
    · exact ⟨rfl, rfl⟩
    · exact ⟨rfl, rfl⟩
  · obtain ⟨a, -, rfl⟩ := hv; exact ⟨rfl, rfl⟩
theorem dflt_sim {ρ : List Addr} {ty : FieldType} (h : dfOk ty = true) : VR ρ (dflt ty) (defaultValue ty) := by
  cases ty <;> first | (simp [dfOk] at h; done) | exact rfl
theorem fieldOf_spec {P : PD} {c a : Nat} {cd : CD} {f : FD} (h1 : P.cls[c]? = some cd) (h2 : cd.2.2[a]? = some f) : fieldOf P c a = some f := by simp [fieldOf, h1, h2]
theorem in_wordsOf {P : PD} {d : MD} {x : Nat × It} {w : Jvm.Cond} (hd : d ∈ P.mth) (hx : x ∈ d.code) (hw : w ∈ iWords P d x) : w ∈ wordsOf P :=
  List.mem_append_right _ (List.mem_flatMap.mpr ⟨d, hd, List.mem_flatMap.mpr ⟨x, hx, hw⟩⟩)
theorem in_wordsC {P : PD} {cd : CD} {w : Jvm.Cond} (hd : cd ∈ P.cls) (hw : w ∈ cWords cd) : w ∈ wordsOf P :=
  List.mem_append_left _ (List.mem_append_left _ (List.mem_flatMap.mpr ⟨cd, hd, hw⟩))
theorem in_wordsM {P : PD} {y : MD} {j : Nat} {w : Jvm.Cond} (hd : P.mth[j]? = some y) (hj : 0 < j) (hw : w ∈ mWords y) : w ∈ wordsOf P := by
  refine List.mem_append_left _ (List.mem_append_right _ (List.mem_flatMap.mpr ⟨y, ?_, hw⟩))
  have : (P.mth.drop 1)[j - 1]? = some y := by rw [List.getElem?_drop]; rw [show 1 + (j - 1) = j by omega]; exact hd
  exact List.mem_of_getElem? this
theorem fWord_in {cd : CD} {f : FD} (h : f ∈ cd.2.2) : fWord cd.1 f ∈ cWords cd := List.mem_cons_of_mem _ (List.mem_cons_of_mem _ (List.mem_map.mpr ⟨f, h, rfl⟩))
theorem cChk_of {P : PD} (hP : chk P = true) {cd : CD} (h : cd ∈ P.cls) : cChk cd = true := by
  simp only [chk, Bool.and_eq_true, List.all_eq_true] at hP
  exact hP.1 cd h
theorem mChk_of {P : PD} (hP : chk P = true) {d : MD} (h : d ∈ P.mth) : mChk P d = true := by
  simp only [chk, Bool.and_eq_true, List.all_eq_true] at hP
  exact hP.2 d h
theorem cid_of {P : PD} (hP : chk P = true) {d : MD} (h : d ∈ P.mth) {cd : CD} (hc : P.cls[d.cid]? = some cd) : cd.1 = d.name.cls := by
  have := mChk_of hP h
  simp only [mChk, Bool.and_eq_true] at this
  have h4 := this.1.1.1.2
  unfold clsChk at h4
  rw [hc] at h4
  simpa using h4
section Step
variable {P : PD} {Z : State} {n0 : Nat} {a0 : Array Value} {l : Launch} {p : Program} {e : Env} {R : Room} {s : State} {m : MethodId} {args : Array Value} {below : List Frame} {meth : Method} {c : Code} {T : State} {locs : List Loc} {cells slots : Nat} {d : MD}
def Nxt (P : PD) (Z : State) (n0 : Nat) (l : Launch) (p : Program) (e : Env) (R : Room) (s : State) (m : MethodId) (args : Array Value) (below : List Frame) (meth : Method) (c : Code) (T : State) (cells slots : Nat) (ρ : List Addr) (g : JFrame) (pc' : Nat) (L L' : List Slot) (S' : List Value) (H1 : AHeap) : Prop :=
  ∃ T' locs' A' Sc', Stand p l e R s m args below meth c T' locs' cells slots ∧ L'.length = L.length ∧ LR ρ L' A' ∧ SR ρ S' Sc' ∧ HR P Z n0 T'.heap ρ H1 ∧ Fr n0 locs' ∧
    ∀ target, Steps p.tables e below (T'.setTop (mkF m pc' A' Sc')) target → Steps p.tables e below (T.setTop g) target
theorem Nxt.pure {ρ : List Addr} {H : AHeap} {g : JFrame} {pc' : Nat} {L L' : List Slot} {S' Sc' : List Value} {A' : Array Slot} (X : Stand p l e R s m args below meth c T locs cells slots) (hl : L'.length = L.length) (hL : LR ρ L' A') (hS : SR ρ S' Sc') (hH : HR P Z n0 T.heap ρ H) (hF : Fr n0 locs)
    (k : ∀ target, Steps p.tables e below (T.setTop (mkF m pc' A' Sc')) target → Steps p.tables e below (T.setTop g) target) : Nxt P Z n0 l p e R s m args below meth c T cells slots ρ g pc' L L' S' H :=
  ⟨T, locs, A', Sc', X, hl, hL, hS, hH, hF, k⟩
theorem Nxt.mem {ρ : List Addr} {H1 : AHeap} {g : JFrame} {pc' : Nat} {L L' : List Slot} {S' Sc' : List Value} {A' : Array Slot} {T' : State} {locs' : List Loc} (X : Stand p l e R s m args below meth c T' locs' cells slots) (hl : L'.length = L.length) (hL : LR ρ L' A') (hS : SR ρ S' Sc') (hH : HR P Z n0 T'.heap ρ H1) (hF : Fr n0 locs')
    (k : ∀ target, Steps p.tables e below (T'.setTop (mkF m pc' A' Sc')) target → Steps p.tables e below (T.setTop g) target) : Nxt P Z n0 l p e R s m args below meth c T cells slots ρ g pc' L L' S' H1 :=
  ⟨T', locs', A', Sc', X, hl, hL, hS, hH, hF, k⟩
set_option maxHeartbeats 4000000 in
theorem stepX (X : Stand p l e R s m args below meth c T locs cells slots) (hx : p.tables.exec = Jvm.exec) (hZ : Z.Warmed39 s.vm) (hown : s.vm.findClass d.name.cls = some m.cls) (hnm : meth.name = d.name.name) (hP : chk P = true) (hW : ∀ w ∈ wordsOf P, w.before a0 Z = true) (hdm : d ∈ P.mth)
    {pc len a : Nat} {er : List Bool} {b : Int} {i : Instr} (hit : (pc, i, len, er, a, b) ∈ d.code) (hd : decode c.code pc = .ok (i, len)) (hlen : lenOk i len = true) {ρ : List Addr} {L L' : List Slot} {S S' Sc : List Value} {H H1 : AHeap} {A : Array Slot}
    (hL : LR ρ L A) (hS : SR ρ S Sc) (hH : HR P Z n0 T.heap ρ H) (hF : Fr n0 locs) (h : xI P (d.name.name == "<init>") d.cid i a b L S H = some (L', S', H1)) :
    Nxt P Z n0 l p e R s m args below meth c T cells slots ρ (mkF m pc A Sc) (pc + len) L L' S' H1 := by
  have hWi : ∀ w ∈ iWords P d (pc, i, len, er, a, b), w.before a0 Z = true := fun w q => hW w (in_wordsOf hdm hit q)
  cases i with
  | aload_n k =>
    obtain rfl : len = 1 := by simpa [lenOk] using hlen
    simp only [xI] at h
    split at h
    · rename_i x q
      cases h
      obtain ⟨w, hv, hg⟩ := hL.get q
      obtain ⟨ad, h1, rfl⟩ := hv
      exact Nxt.pure X rfl hL ⟨_, _, rfl, ⟨ad, h1, rfl⟩, hS⟩ hH hF (fun t z => XS.aloadN (g := mkF m pc A Sc) X.here hx rfl hd hg rfl z)
    · cases h
  | aload k =>
    obtain rfl : len = 2 := by simpa [lenOk] using hlen
    simp only [xI] at h
    split at h
    · rename_i x q
      cases h
      obtain ⟨w, hv, hg⟩ := hL.get q
      obtain ⟨ad, h1, rfl⟩ := hv
      exact Nxt.pure X rfl hL ⟨_, _, rfl, ⟨ad, h1, rfl⟩, hS⟩ hH hF (fun t z => XS.aload (g := mkF m pc A Sc) X.here hx rfl hd hg rfl z)
    · cases h
  | iload_n k =>
    obtain rfl : len = 1 := by simpa [lenOk] using hlen
    simp only [xI] at h
    split at h
    · rename_i x q
      cases h
      obtain ⟨w, hv, hg⟩ := hL.get q
      obtain rfl : w = .int _ := hv
      exact Nxt.pure X rfl hL ⟨_, _, rfl, rfl, hS⟩ hH hF (fun t z => XS.iloadN (g := mkF m pc A Sc) X.here hx rfl hd hg z)
    · cases h
  | iload k =>
    obtain rfl : len = 2 := by simpa [lenOk] using hlen
    simp only [xI] at h
    split at h
    · rename_i x q
      cases h
      obtain ⟨w, hv, hg⟩ := hL.get q
      obtain rfl : w = .int _ := hv
      exact Nxt.pure X rfl hL ⟨_, _, rfl, rfl, hS⟩ hH hF (fun t z => XS.iload (g := mkF m pc A Sc) X.here hx rfl hd hg z)
    · cases h
  | lload_n k =>
    obtain rfl : len = 1 := by simpa [lenOk] using hlen
    simp only [xI] at h
    split at h
    · rename_i x q
      cases h
      obtain ⟨w, hv, hg⟩ := hL.get q
      obtain rfl : w = .long _ := hv
      exact Nxt.pure X rfl hL ⟨_, _, rfl, rfl, hS⟩ hH hF (fun t z => XT.lloadN (g := mkF m pc A Sc) X.here hx rfl hd hg z)
    · cases h
  | lload k =>
    obtain rfl : len = 2 := by simpa [lenOk] using hlen
    simp only [xI] at h
    split at h
    · rename_i x q
      cases h
      obtain ⟨w, hv, hg⟩ := hL.get q
      obtain rfl : w = .long _ := hv
      exact Nxt.pure X rfl hL ⟨_, _, rfl, rfl, hS⟩ hH hF (fun t z => XT.lload (g := mkF m pc A Sc) X.here hx rfl hd hg z)
    · cases h
  | istore_n k =>
    obtain rfl : len = 1 := by simpa [lenOk] using hlen
    simp only [xI] at h
    split at h
    · rename_i x S0
      obtain ⟨L1, q, e1⟩ := Option.map_eq_some_iff.mp h
      cases e1
      obtain ⟨S2, rfl, h2⟩ := hS.int
      obtain ⟨A', z1, z2⟩ := store1_sim hL q (show VR ρ (.int x) (.int x) from rfl) rfl
      exact Nxt.pure X (st1_len q) z2 h2 hH hF (fun t z => XS.istoreN (g := mkF m pc A _) X.here hx rfl hd rfl z1 z)
    · cases h
  | istore k =>
    obtain rfl : len = 2 := by simpa [lenOk] using hlen
    simp only [xI] at h
    split at h
    · rename_i x S0
      obtain ⟨L1, q, e1⟩ := Option.map_eq_some_iff.mp h
      cases e1
      obtain ⟨S2, rfl, h2⟩ := hS.int
      obtain ⟨A', z1, z2⟩ := store1_sim hL q (show VR ρ (.int x) (.int x) from rfl) rfl
      exact Nxt.pure X (st1_len q) z2 h2 hH hF (fun t z => XS.istore (g := mkF m pc A _) X.here hx rfl hd rfl z1 z)
    · cases h
  | astore_n k =>
    obtain rfl : len = 1 := by simpa [lenOk] using hlen
    simp only [xI] at h
    split at h
    · rename_i x S0
      obtain ⟨L1, q, e1⟩ := Option.map_eq_some_iff.mp h
      cases e1
      obtain ⟨ad, S2, h1, rfl, h2⟩ := hS.ref
      obtain ⟨A', z1, z2⟩ := store1_sim hL q (show VR ρ (.ref x) (.ref ad) from ⟨ad, h1, rfl⟩) rfl
      exact Nxt.pure X (st1_len q) z2 h2 hH hF (fun t z => XS.astoreN (g := mkF m pc A _) X.here hx rfl hd rfl rfl z1 z)
    · cases h
  | astore k =>
    obtain rfl : len = 2 := by simpa [lenOk] using hlen
    simp only [xI] at h
    split at h
    · rename_i x S0
      obtain ⟨L1, q, e1⟩ := Option.map_eq_some_iff.mp h
      cases e1
      obtain ⟨ad, S2, h1, rfl, h2⟩ := hS.ref
      obtain ⟨A', z1, z2⟩ := store1_sim hL q (show VR ρ (.ref x) (.ref ad) from ⟨ad, h1, rfl⟩) rfl
      exact Nxt.pure X (st1_len q) z2 h2 hH hF (fun t z => XS.astore (g := mkF m pc A _) X.here hx rfl hd rfl rfl z1 z)
    · cases h
  | lstore_n k =>
    obtain rfl : len = 1 := by simpa [lenOk] using hlen
    simp only [xI] at h
    split at h
    · rename_i x S0
      obtain ⟨L1, q, e1⟩ := Option.map_eq_some_iff.mp h
      cases e1
      obtain ⟨S2, rfl, h2⟩ := hS.long
      obtain ⟨A', z1, z2⟩ := store2_sim hL q (show VR ρ (.long x) (.long x) from rfl) rfl
      exact Nxt.pure X (st2_len q) z2 h2 hH hF (fun t z => XT.lstoreN (g := mkF m pc A _) X.here hx rfl hd rfl z1 z)
    · cases h
  | lstore k =>
    obtain rfl : len = 2 := by simpa [lenOk] using hlen
    simp only [xI] at h
    split at h
    · rename_i x S0
      obtain ⟨L1, q, e1⟩ := Option.map_eq_some_iff.mp h
      cases e1
      obtain ⟨S2, rfl, h2⟩ := hS.long
      obtain ⟨A', z1, z2⟩ := store2_sim hL q (show VR ρ (.long x) (.long x) from rfl) rfl
      exact Nxt.pure X (st2_len q) z2 h2 hH hF (fun t z => XT.lstore (g := mkF m pc A _) X.here hx rfl hd rfl z1 z)
    · cases h
  | iinc k dd =>
    obtain rfl : len = 3 := by simpa [lenOk] using hlen
    simp only [xI] at h
    split at h
    · rename_i x q0
      obtain ⟨L1, q, e1⟩ := Option.map_eq_some_iff.mp h
      cases e1
      obtain ⟨w, hv, hg⟩ := hL.get q0
      obtain rfl : w = .int _ := hv
      obtain ⟨A', z1, z2⟩ := store1_sim hL q (show VR ρ (.int (x + Int32.ofInt dd)) (.int (x + Int32.ofInt dd)) from rfl) rfl
      exact Nxt.pure X (st1_len q) z2 hS hH hF (fun t z => XS.iinc (g := mkF m pc A Sc) X.here hx rfl hd hg z1 z)
    · cases h
  | iconst v =>
    obtain rfl : len = 1 := by simpa [lenOk] using hlen
    simp only [xI] at h
    cases h
    exact Nxt.pure X rfl hL ⟨_, _, rfl, rfl, hS⟩ hH hF (fun t z => XS.iconst (g := mkF m pc A Sc) X.here hx rfl hd z)
  | bipush v =>
    obtain rfl : len = 2 := by simpa [lenOk] using hlen
    simp only [xI] at h
    cases h
    exact Nxt.pure X rfl hL ⟨_, _, rfl, rfl, hS⟩ hH hF (fun t z => XS.bipush (g := mkF m pc A Sc) X.here hx rfl hd z)
  | sipush v =>
    obtain rfl : len = 3 := by simpa [lenOk] using hlen
    simp only [xI] at h
    cases h
    exact Nxt.pure X rfl hL ⟨_, _, rfl, rfl, hS⟩ hH hF (fun t z => XS.sipush (g := mkF m pc A Sc) X.here hx rfl hd z)
  | lconst v =>
    obtain rfl : len = 1 := by simpa [lenOk] using hlen
    simp only [xI] at h
    cases h
    exact Nxt.pure X rfl hL ⟨_, _, rfl, rfl, hS⟩ hH hF (fun t z => XT.lconst (g := mkF m pc A Sc) X.here hx rfl hd z)
  | ldc k =>
    obtain rfl : len = 2 := by simpa [lenOk] using hlen
    simp only [xI] at h
    cases h
    have w1 := hWi (.constant d.name.cls k (Int32.ofInt b)) (List.mem_singleton.mpr rfl)
    exact Nxt.pure X rfl hL ⟨_, _, rfl, rfl, hS⟩ hH hF (fun t z => X.ldcInt hx hown (mvT hZ w1) (g := mkF m pc A Sc) rfl hd t z)
  | ldc2_w k =>
    obtain rfl : len = 3 := by simpa [lenOk] using hlen
    simp only [xI] at h
    cases h
    have w1 := hWi (.constantLong d.name.cls k (Int64.ofInt b)) (List.mem_singleton.mpr rfl)
    exact Nxt.pure X rfl hL ⟨_, _, rfl, rfl, hS⟩ hH hF (fun t z => X.ldc2Long hx hown (mvT hZ w1) (g := mkF m pc A Sc) rfl hd t z)
  | iadd =>
    obtain rfl : len = 1 := by simpa [lenOk] using hlen
    simp only [xI] at h
    split at h
    · rename_i y x S0
      cases h
      obtain ⟨S1, rfl, h1⟩ := hS.int
      obtain ⟨S2, rfl, h2⟩ := h1.int
      exact Nxt.pure X rfl hL ⟨_, _, rfl, rfl, h2⟩ hH hF (fun t z => XS.iadd (g := mkF m pc A _) X.here hx rfl hd rfl z)
    · cases h
  | isub =>
    obtain rfl : len = 1 := by simpa [lenOk] using hlen
    simp only [xI] at h
    split at h
    · rename_i y x S0
      cases h
      obtain ⟨S1, rfl, h1⟩ := hS.int
      obtain ⟨S2, rfl, h2⟩ := h1.int
      exact Nxt.pure X rfl hL ⟨_, _, rfl, rfl, h2⟩ hH hF (fun t z => XS.isub (g := mkF m pc A _) X.here hx rfl hd rfl z)
    · cases h
  | imul =>
    obtain rfl : len = 1 := by simpa [lenOk] using hlen
    simp only [xI] at h
    split at h
    · rename_i y x S0
      cases h
      obtain ⟨S1, rfl, h1⟩ := hS.int
      obtain ⟨S2, rfl, h2⟩ := h1.int
      exact Nxt.pure X rfl hL ⟨_, _, rfl, rfl, h2⟩ hH hF (fun t z => XS.imul (g := mkF m pc A _) X.here hx rfl hd rfl z)
    · cases h
  | iand =>
    obtain rfl : len = 1 := by simpa [lenOk] using hlen
    simp only [xI] at h
    split at h
    · rename_i y x S0
      cases h
      obtain ⟨S1, rfl, h1⟩ := hS.int
      obtain ⟨S2, rfl, h2⟩ := h1.int
      exact Nxt.pure X rfl hL ⟨_, _, rfl, rfl, h2⟩ hH hF (fun t z => XS.iand (g := mkF m pc A _) X.here hx rfl hd rfl z)
    · cases h
  | ior =>
    obtain rfl : len = 1 := by simpa [lenOk] using hlen
    simp only [xI] at h
    split at h
    · rename_i y x S0
      cases h
      obtain ⟨S1, rfl, h1⟩ := hS.int
      obtain ⟨S2, rfl, h2⟩ := h1.int
      exact Nxt.pure X rfl hL ⟨_, _, rfl, rfl, h2⟩ hH hF (fun t z => XT.ior (g := mkF m pc A _) X.here hx rfl hd rfl z)
    · cases h
  | ixor =>
    obtain rfl : len = 1 := by simpa [lenOk] using hlen
    simp only [xI] at h
    split at h
    · rename_i y x S0
      cases h
      obtain ⟨S1, rfl, h1⟩ := hS.int
      obtain ⟨S2, rfl, h2⟩ := h1.int
      exact Nxt.pure X rfl hL ⟨_, _, rfl, rfl, h2⟩ hH hF (fun t z => XT.ixor (g := mkF m pc A _) X.here hx rfl hd rfl z)
    · cases h
  | ishl =>
    obtain rfl : len = 1 := by simpa [lenOk] using hlen
    simp only [xI] at h
    split at h
    · rename_i y x S0
      cases h
      obtain ⟨S1, rfl, h1⟩ := hS.int
      obtain ⟨S2, rfl, h2⟩ := h1.int
      exact Nxt.pure X rfl hL ⟨_, _, rfl, rfl, h2⟩ hH hF (fun t z => XT.ishl (g := mkF m pc A _) X.here hx rfl hd rfl z)
    · cases h
  | ishr =>
    obtain rfl : len = 1 := by simpa [lenOk] using hlen
    simp only [xI] at h
    split at h
    · rename_i y x S0
      cases h
      obtain ⟨S1, rfl, h1⟩ := hS.int
      obtain ⟨S2, rfl, h2⟩ := h1.int
      exact Nxt.pure X rfl hL ⟨_, _, rfl, rfl, h2⟩ hH hF (fun t z => XT.ishr (g := mkF m pc A _) X.here hx rfl hd rfl z)
    · cases h
  | iushr =>
    obtain rfl : len = 1 := by simpa [lenOk] using hlen
    simp only [xI] at h
    split at h
    · rename_i y x S0
      cases h
      obtain ⟨S1, rfl, h1⟩ := hS.int
      obtain ⟨S2, rfl, h2⟩ := h1.int
      exact Nxt.pure X rfl hL ⟨_, _, rfl, rfl, h2⟩ hH hF (fun t z => XT.iushr (g := mkF m pc A _) X.here hx rfl hd rfl z)
    · cases h
  | ladd =>
    obtain rfl : len = 1 := by simpa [lenOk] using hlen
    simp only [xI] at h
    split at h
    · rename_i y x S0
      cases h
      obtain ⟨S1, rfl, h1⟩ := hS.long
      obtain ⟨S2, rfl, h2⟩ := h1.long
      exact Nxt.pure X rfl hL ⟨_, _, rfl, rfl, h2⟩ hH hF (fun t z => XT.ladd (g := mkF m pc A _) X.here hx rfl hd rfl z)
    · cases h
  | lsub =>
    obtain rfl : len = 1 := by simpa [lenOk] using hlen
    simp only [xI] at h
    split at h
    · rename_i y x S0
      cases h
      obtain ⟨S1, rfl, h1⟩ := hS.long
      obtain ⟨S2, rfl, h2⟩ := h1.long
      exact Nxt.pure X rfl hL ⟨_, _, rfl, rfl, h2⟩ hH hF (fun t z => XT.lsub (g := mkF m pc A _) X.here hx rfl hd rfl z)
    · cases h
  | lmul =>
    obtain rfl : len = 1 := by simpa [lenOk] using hlen
    simp only [xI] at h
    split at h
    · rename_i y x S0
      cases h
      obtain ⟨S1, rfl, h1⟩ := hS.long
      obtain ⟨S2, rfl, h2⟩ := h1.long
      exact Nxt.pure X rfl hL ⟨_, _, rfl, rfl, h2⟩ hH hF (fun t z => XT.lmul (g := mkF m pc A _) X.here hx rfl hd rfl z)
    · cases h
  | land =>
    obtain rfl : len = 1 := by simpa [lenOk] using hlen
    simp only [xI] at h
    split at h
    · rename_i y x S0
      cases h
      obtain ⟨S1, rfl, h1⟩ := hS.long
      obtain ⟨S2, rfl, h2⟩ := h1.long
      exact Nxt.pure X rfl hL ⟨_, _, rfl, rfl, h2⟩ hH hF (fun t z => XT.land (g := mkF m pc A _) X.here hx rfl hd rfl z)
    · cases h
  | lor =>
    obtain rfl : len = 1 := by simpa [lenOk] using hlen
    simp only [xI] at h
    split at h
    · rename_i y x S0
      cases h
      obtain ⟨S1, rfl, h1⟩ := hS.long
      obtain ⟨S2, rfl, h2⟩ := h1.long
      exact Nxt.pure X rfl hL ⟨_, _, rfl, rfl, h2⟩ hH hF (fun t z => XT.lor (g := mkF m pc A _) X.here hx rfl hd rfl z)
    · cases h
  | lxor =>
    obtain rfl : len = 1 := by simpa [lenOk] using hlen
    simp only [xI] at h
    split at h
    · rename_i y x S0
      cases h
      obtain ⟨S1, rfl, h1⟩ := hS.long
      obtain ⟨S2, rfl, h2⟩ := h1.long
      exact Nxt.pure X rfl hL ⟨_, _, rfl, rfl, h2⟩ hH hF (fun t z => XT.lxor (g := mkF m pc A _) X.here hx rfl hd rfl z)
    · cases h
  | lcmp =>
    obtain rfl : len = 1 := by simpa [lenOk] using hlen
    simp only [xI] at h
    split at h
    · rename_i y x S0
      cases h
      obtain ⟨S1, rfl, h1⟩ := hS.long
      obtain ⟨S2, rfl, h2⟩ := h1.long
      exact Nxt.pure X rfl hL ⟨_, _, rfl, rfl, h2⟩ hH hF (fun t z => XT.lcmp (g := mkF m pc A _) X.here hx rfl hd rfl z)
    · cases h
  | lshl =>
    obtain rfl : len = 1 := by simpa [lenOk] using hlen
    simp only [xI] at h
    split at h
    · rename_i y x S0
      cases h
      obtain ⟨S1, rfl, h1⟩ := hS.int
      obtain ⟨S2, rfl, h2⟩ := h1.long
      exact Nxt.pure X rfl hL ⟨_, _, rfl, rfl, h2⟩ hH hF (fun t z => XT.lshl (g := mkF m pc A _) X.here hx rfl hd rfl z)
    · cases h
  | lshr =>
    obtain rfl : len = 1 := by simpa [lenOk] using hlen
    simp only [xI] at h
    split at h
    · rename_i y x S0
      cases h
      obtain ⟨S1, rfl, h1⟩ := hS.int
      obtain ⟨S2, rfl, h2⟩ := h1.long
      exact Nxt.pure X rfl hL ⟨_, _, rfl, rfl, h2⟩ hH hF (fun t z => XT.lshr (g := mkF m pc A _) X.here hx rfl hd rfl z)
    · cases h
  | lushr =>
    obtain rfl : len = 1 := by simpa [lenOk] using hlen
    simp only [xI] at h
    split at h
    · rename_i y x S0
      cases h
      obtain ⟨S1, rfl, h1⟩ := hS.int
      obtain ⟨S2, rfl, h2⟩ := h1.long
      exact Nxt.pure X rfl hL ⟨_, _, rfl, rfl, h2⟩ hH hF (fun t z => XT.lushr (g := mkF m pc A _) X.here hx rfl hd rfl z)
    · cases h
  | idiv =>
    obtain rfl : len = 1 := by simpa [lenOk] using hlen
    simp only [xI] at h
    split at h
    · rename_i y x S0
      split at h
      · cases h
      · rename_i hy
        cases h
        obtain ⟨S1, rfl, h1⟩ := hS.int
        obtain ⟨S2, rfl, h2⟩ := h1.int
        exact Nxt.pure X rfl hL ⟨_, _, rfl, rfl, h2⟩ hH hF (fun t z => XS.idiv (g := mkF m pc A _) X.here hx rfl hd rfl hy z)
    · cases h
  | irem =>
    obtain rfl : len = 1 := by simpa [lenOk] using hlen
    simp only [xI] at h
    split at h
    · rename_i y x S0
      split at h
      · cases h
      · rename_i hy
        cases h
        obtain ⟨S1, rfl, h1⟩ := hS.int
        obtain ⟨S2, rfl, h2⟩ := h1.int
        exact Nxt.pure X rfl hL ⟨_, _, rfl, rfl, h2⟩ hH hF (fun t z => iremM (g := mkF m pc A _) X hx rfl hd rfl hy z)
    · cases h
  | ldiv =>
    obtain rfl : len = 1 := by simpa [lenOk] using hlen
    simp only [xI] at h
    split at h
    · rename_i y x S0
      split at h
      · cases h
      · rename_i hy
        cases h
        obtain ⟨S1, rfl, h1⟩ := hS.long
        obtain ⟨S2, rfl, h2⟩ := h1.long
        exact Nxt.pure X rfl hL ⟨_, _, rfl, rfl, h2⟩ hH hF (fun t z => XT.ldiv (g := mkF m pc A _) X.here hx rfl hd rfl hy z)
    · cases h
  | lrem =>
    obtain rfl : len = 1 := by simpa [lenOk] using hlen
    simp only [xI] at h
    split at h
    · rename_i y x S0
      split at h
      · cases h
      · rename_i hy
        cases h
        obtain ⟨S1, rfl, h1⟩ := hS.long
        obtain ⟨S2, rfl, h2⟩ := h1.long
        exact Nxt.pure X rfl hL ⟨_, _, rfl, rfl, h2⟩ hH hF (fun t z => XT.lrem (g := mkF m pc A _) X.here hx rfl hd rfl hy (by rw [lrem_mod]; exact z))
    · cases h
  | i2l =>
    obtain rfl : len = 1 := by simpa [lenOk] using hlen
    simp only [xI] at h
    split at h
    · rename_i x S0
      cases h
      obtain ⟨S1, rfl, h1⟩ := hS.int
      exact Nxt.pure X rfl hL ⟨_, _, rfl, rfl, h1⟩ hH hF (fun t z => XT.i2l (g := mkF m pc A _) X.here hx rfl hd rfl z)
    · cases h
  | l2i =>
    obtain rfl : len = 1 := by simpa [lenOk] using hlen
    simp only [xI] at h
    split at h
    · rename_i x S0
      cases h
      obtain ⟨S1, rfl, h1⟩ := hS.long
      exact Nxt.pure X rfl hL ⟨_, _, rfl, rfl, h1⟩ hH hF (fun t z => XT.l2i (g := mkF m pc A _) X.here hx rfl hd rfl z)
    · cases h
  | dup =>
    obtain rfl : len = 1 := by simpa [lenOk] using hlen
    simp only [xI] at h
    split at h
    · rename_i x S0
      cases h
      obtain ⟨S1, rfl, h1⟩ := hS.int
      exact Nxt.pure X rfl hL ⟨_, _, rfl, rfl, _, _, rfl, rfl, h1⟩ hH hF (fun t z => XS.dup (g := mkF m pc A _) X.here hx rfl hd rfl rfl z)
    · rename_i x S0
      cases h
      obtain ⟨ad, S1, g1, rfl, h1⟩ := hS.ref
      exact Nxt.pure X rfl hL ⟨_, _, rfl, ⟨ad, g1, rfl⟩, _, _, rfl, ⟨ad, g1, rfl⟩, h1⟩ hH hF (fun t z => XS.dup (g := mkF m pc A _) X.here hx rfl hd rfl rfl z)
    · cases h
  | dup2 =>
    obtain rfl : len = 1 := by simpa [lenOk] using hlen
    simp only [xI] at h
    split at h
    · rename_i x y S0
      cases h
      obtain ⟨S1, rfl, h1⟩ := hS.int
      obtain ⟨ad, S2, g1, rfl, h2⟩ := h1.ref
      exact Nxt.pure X rfl hL ⟨_, _, rfl, rfl, _, _, rfl, ⟨ad, g1, rfl⟩, _, _, rfl, rfl, _, _, rfl, ⟨ad, g1, rfl⟩, h2⟩ hH hF (fun t z => XT.dup2 (g := mkF m pc A _) X.here hx rfl hd rfl rfl rfl z)
    · rename_i x S0
      cases h
      obtain ⟨S1, rfl, h1⟩ := hS.long
      exact Nxt.pure X rfl hL ⟨_, _, rfl, rfl, _, _, rfl, rfl, h1⟩ hH hF (fun t z => XT.dup2L (g := mkF m pc A _) X.here hx rfl hd rfl z)
    · cases h
  | pop =>
    obtain rfl : len = 1 := by simpa [lenOk] using hlen
    simp only [xI] at h
    split at h
    · rename_i x S0
      cases h
      obtain ⟨S1, rfl, h1⟩ := hS.int
      exact Nxt.pure X rfl hL h1 hH hF (fun t z => XT.pop (g := mkF m pc A _) X.here hx rfl hd rfl rfl z)
    · cases h
  | getfield k =>
    obtain rfl : len = 3 := by simpa [lenOk] using hlen
    simp only [xI] at h
    split at h
    · rename_i o S0
      obtain ⟨ad, S1, g1, rfl, h1⟩ := hS.ref
      split at h
      · rename_i c0 fs hc0
        split at h
        · rename_i ec
          subst ec
          obtain ⟨ad', g2, cd, q1, q2, q3, q4⟩ := hH.at hc0
          rw [g1] at g2; cases g2
          have hcd := cid_of hP hdm q1
          have core : ∀ v, fs[a]? = some v → ∃ w T2, VR ρ v w ∧ Stand p l e R s m args below meth c T2 locs cells slots ∧ T2.heap = T.heap ∧ ∀ target, Steps p.tables e below (T2.setTop (mkF m (pc + 3) A (w :: S1))) target → Steps p.tables e below (T.setTop (mkF m pc A (.ref ad :: S1))) target := fun v hv => by
            have ha : a < cd.2.2.length := by rw [← q3]; exact (List.getElem?_eq_some_iff.mp hv).1
            obtain ⟨w, hvw, F⟩ := q4 a v _ hv (List.getElem?_eq_getElem ha)
            have w1 := hWi (.fieldLink d.name.cls k d.name.cls cd.2.2[a].1 cd.2.2[a].2.1) (by
              show _ ∈ fLink P d k a
              unfold fLink
              rw [fieldOf_spec q1 (List.getElem?_eq_getElem ha)]
              exact List.mem_singleton.mpr rfl)
            rw [hcd] at F
            obtain ⟨T2, X2, e2, st2⟩ := getF X hx hZ hown (host := "") (Or.inl w1) Via.refl rfl F (g := mkF m pc A (.ref ad :: S1)) rfl rfl hd
            exact ⟨w, T2, hvw, X2, e2, st2⟩
          split at h
          · rename_i x hv
            cases h
            obtain ⟨w, T2, hvw, X2, e2, st2⟩ := core _ hv
            exact Nxt.mem X2 rfl hL ⟨_, _, rfl, hvw, h1⟩ (by rw [e2]; exact hH) hF st2
          · rename_i x hv
            cases h
            obtain ⟨w, T2, hvw, X2, e2, st2⟩ := core _ hv
            exact Nxt.mem X2 rfl hL ⟨_, _, rfl, hvw, h1⟩ (by rw [e2]; exact hH) hF st2
          · rename_i x hv
            cases h
            obtain ⟨w, T2, hvw, X2, e2, st2⟩ := core _ hv
            exact Nxt.mem X2 rfl hL ⟨_, _, rfl, hvw, h1⟩ (by rw [e2]; exact hH) hF st2
          · cases h
        · cases h
      · cases h
    · cases h
  | putfield k =>
    obtain rfl : len = 3 := by simpa [lenOk] using hlen
    simp only [xI] at h
    split at h
    · rename_i v o S0
      obtain ⟨w, Sx, rfl, hvw, hS1⟩ := hS
      obtain ⟨ad, S1, g1, rfl, h1⟩ := hS1.ref
      split at h
      · rename_i c0 fs hc0
        split at h
        · rename_i ec
          obtain ⟨ec, enr⟩ := ec
          subst ec
          split at h
          · rename_i nm ds ty fin hf
            split at h
            · rename_i hok
              cases h
              simp only [Bool.and_eq_true] at hok
              obtain ⟨hok, hfin⟩ := hok
              obtain ⟨ad', g2, cd, q1, q2, q3, q4⟩ := hH.at hc0
              rw [g1] at g2; cases g2
              have hcd := cid_of hP hdm q1
              rw [q1] at hf
              have hf' : cd.2.2[a]? = some (nm, ds, ty, fin) := hf
              have ha : a < fs.length := by rw [q3]; exact (List.getElem?_eq_some_iff.mp hf').1
              obtain ⟨w0, -, F⟩ := q4 a _ _ (List.getElem?_eq_getElem ha) hf'
              have w1 := hWi (.fieldLink d.name.cls k d.name.cls nm ds) (by
                show _ ∈ fLink P d k a
                unfold fLink
                rw [fieldOf_spec q1 hf']
                exact List.mem_singleton.mpr rfl)
              have hcm : cd ∈ P.cls := List.mem_of_getElem? q1
              have w2 := hW _ (in_wordsC hcm (fWord_in (List.mem_of_getElem? hf')))
              have w3 := hW (.instantiable cd.1 cd.2.1) (in_wordsC hcm (List.mem_cons_self ..))
              have hck := cChk_of hP hcm
              have hck' := hck
              simp only [cChk, Bool.and_eq_true, List.all_eq_true] at hck'
              have f1 := hck'.2 _ (List.mem_of_getElem? hf')
              simp only [fChk, Bool.and_eq_true, decide_eq_true_eq] at f1
              obtain ⟨p1, p2⟩ := putOk_sim hok hvw
              have Ly : (Jvm.Cond.lays cd.1 cd.1 nm ds).before a0 Z = true ∨ ((Jvm.Cond.laysFinal cd.1 cd.1 nm ds).before a0 Z = true ∧ d.name.cls = cd.1 ∧ meth.name = "<init>") := by
                unfold fWord at w2
                cases fin with
                | false => exact Or.inl w2
                | true => exact Or.inr ⟨w2, hcd.symm, by rw [hnm]; simpa using hfin⟩
              obtain ⟨T2, h2, X2, e2, W2, st2⟩ := putF X hx hZ hown (host := "") (R0 := d.name.cls) (O := cd.1) (Or.inl w1) (by rw [hcd]; exact Via.refl) rfl F q2 Ly w3 f1.1 p1 p2 (g := mkF m pc A (w :: .ref ad :: S1)) rfl rfl hd
              have hH2 := hH.putF (a0 := a0) g1 hc0 q1 hf' hck (fun f hfm => hW _ (in_wordsC hcm (fWord_in hfm))) W2 hvw
              exact Nxt.mem X2 rfl hL h1 (by rw [e2]; exact hH2) (Fr.snoc X2 hF (hH.2.2.2.1 _ _ g1 enr)) st2
            · cases h
          · cases h
        · cases h
      · cases h
    · cases h
  | iaload =>
    obtain rfl : len = 1 := by simpa [lenOk] using hlen
    simp only [xI] at h
    split at h
    · rename_i j o S0
      obtain ⟨S1, rfl, h1⟩ := hS.int
      obtain ⟨ad, S2, g1, rfl, h2⟩ := h1.ref
      split at h
      · rename_i B hc0
        obtain ⟨x, q, e1⟩ := Option.map_eq_some_iff.mp h
        cases e1
        obtain ⟨hj, hat⟩ := rdA_spec q
        obtain ⟨ad', g2, cl, Ar, z1, z2, z3⟩ := hH.at hc0
        rw [g1] at g2; cases g2
        have hin : ¬ (j < 0 ∨ cl.slots.size ≤ j.toNatClampNeg) := by
          have := (List.getElem?_eq_some_iff.mp hat).1
          rintro (y | y)
          · exact hj y
          · omega
        exact Nxt.pure X rfl hL ⟨_, _, rfl, rfl, h2⟩ hH hF (fun t z => X.iaload hx (j := j) (v := .int x) Ar.1 (State.isArrayOf_alike hZ.alike Ar.2.1) Ar.2.2 hin (z3 _ _ hat) (g := mkF m pc A _) rfl rfl hd t z)
      · cases h
    · cases h
  | baload =>
    obtain rfl : len = 1 := by simpa [lenOk] using hlen
    simp only [xI] at h
    split at h
    · rename_i j o S0
      obtain ⟨S1, rfl, h1⟩ := hS.int
      obtain ⟨ad, S2, g1, rfl, h2⟩ := h1.ref
      split at h
      · rename_i B hc0
        obtain ⟨x, q, e1⟩ := Option.map_eq_some_iff.mp h
        cases e1
        obtain ⟨hj, hat⟩ := rdA_spec q
        obtain ⟨ad', g2, cl, Ar, z1, z2, z3⟩ := hH.at hc0
        rw [g1] at g2; cases g2
        have hin : ¬ (j < 0 ∨ cl.slots.size ≤ j.toNatClampNeg) := by
          have := (List.getElem?_eq_some_iff.mp hat).1
          rintro (y | y)
          · exact hj y
          · omega
        exact Nxt.pure X rfl hL ⟨_, _, rfl, rfl, h2⟩ hH hF (fun t z => X.baloadBooleans hx (j := j) (v := .int x) Ar.1 (State.isArrayOf_alike hZ.alike Ar.2.1) Ar.2.2 hin (z3 _ _ hat) (g := mkF m pc A _) rfl rfl hd t z)
      · cases h
    · cases h
  | laload =>
    obtain rfl : len = 1 := by simpa [lenOk] using hlen
    simp only [xI] at h
    split at h
    · rename_i j o S0
      obtain ⟨S1, rfl, h1⟩ := hS.int
      obtain ⟨ad, S2, g1, rfl, h2⟩ := h1.ref
      split at h
      · rename_i B hc0
        obtain ⟨x, q, e1⟩ := Option.map_eq_some_iff.mp h
        cases e1
        obtain ⟨hj, hat⟩ := rdA_spec q
        obtain ⟨ad', g2, cl, Ar, z1, z2, z3⟩ := hH.at hc0
        rw [g1] at g2; cases g2
        have hin : ¬ (j < 0 ∨ cl.slots.size ≤ j.toNatClampNeg) := by
          have := (List.getElem?_eq_some_iff.mp hat).1
          rintro (y | y)
          · exact hj y
          · omega
        exact Nxt.pure X rfl hL ⟨_, _, rfl, rfl, h2⟩ hH hF (fun t z => X.laload hx (j := j) (v := .long x) Ar.1 (State.isArrayOf_alike hZ.alike Ar.2.1) Ar.2.2 hin (z3 _ _ hat) (g := mkF m pc A _) rfl rfl hd t z)
      · cases h
    · cases h
  | iastore =>
    obtain rfl : len = 1 := by simpa [lenOk] using hlen
    simp only [xI] at h
    split at h
    · rename_i x j o S0
      obtain ⟨S1, rfl, h1⟩ := hS.int
      obtain ⟨S2, rfl, h2⟩ := h1.int
      obtain ⟨ad, S3, g1, rfl, h3⟩ := h2.ref
      split at h
      · rename_i B hc0
        split at h
        · rename_i enr
          obtain ⟨B', q, e1⟩ := Option.map_eq_some_iff.mp h
          cases e1
          obtain ⟨hj, hlt, rfl⟩ := wrA_spec q
          obtain ⟨ad', g2, cl, Ar, z1, z2, z3⟩ := hH.at hc0
          rw [g1] at g2; cases g2
          have hin : ¬ (j < 0 ∨ cl.slots.size ≤ j.toNatClampNeg) := by
            rintro (y | y)
            · exact hj y
            · omega
          obtain ⟨T2, h2', X2, e2, W2, st2⟩ := stI X hx hZ rfl Ar (j := j) (x := x) hin (g := mkF m pc A _) rfl rfl hd
          exact Nxt.mem X2 rfl hL h3 (by rw [e2]; exact hH.wrI g1 hc0 W2) (Fr.snoc X2 hF (hH.2.2.2.1 _ _ g1 enr)) st2
        · cases h
      · cases h
    · cases h
  | bastore =>
    obtain rfl : len = 1 := by simpa [lenOk] using hlen
    simp only [xI] at h
    split at h
    · rename_i x j o S0
      obtain ⟨S1, rfl, h1⟩ := hS.int
      obtain ⟨S2, rfl, h2⟩ := h1.int
      obtain ⟨ad, S3, g1, rfl, h3⟩ := h2.ref
      split at h
      · rename_i B hc0
        split at h
        · rename_i enr
          obtain ⟨B', q, e1⟩ := Option.map_eq_some_iff.mp h
          cases e1
          obtain ⟨hj, hlt, rfl⟩ := wrA_spec q
          obtain ⟨ad', g2, cl, Ar, z1, z2, z3⟩ := hH.at hc0
          rw [g1] at g2; cases g2
          have hin : ¬ (j < 0 ∨ cl.slots.size ≤ j.toNatClampNeg) := by
            rintro (y | y)
            · exact hj y
            · omega
          obtain ⟨T2, h2', X2, e2, W2, st2⟩ := stZ X hx hZ rfl Ar (j := j) (x := x) hin (g := mkF m pc A _) rfl rfl hd
          exact Nxt.mem X2 rfl hL h3 (by rw [e2]; exact hH.wrI g1 hc0 W2) (Fr.snoc X2 hF (hH.2.2.2.1 _ _ g1 enr)) st2
        · cases h
      · cases h
    · cases h
  | lastore =>
    obtain rfl : len = 1 := by simpa [lenOk] using hlen
    simp only [xI] at h
    split at h
    · rename_i x j o S0
      obtain ⟨S1, rfl, h1⟩ := hS.long
      obtain ⟨S2, rfl, h2⟩ := h1.int
      obtain ⟨ad, S3, g1, rfl, h3⟩ := h2.ref
      split at h
      · rename_i B hc0
        split at h
        · rename_i enr
          obtain ⟨B', q, e1⟩ := Option.map_eq_some_iff.mp h
          cases e1
          obtain ⟨hj, hlt, rfl⟩ := wrA_spec q
          obtain ⟨ad', g2, cl, Ar, z1, z2, z3⟩ := hH.at hc0
          rw [g1] at g2; cases g2
          have hin : ¬ (j < 0 ∨ cl.slots.size ≤ j.toNatClampNeg) := by
            rintro (y | y)
            · exact hj y
            · omega
          obtain ⟨T2, h2', X2, e2, W2, st2⟩ := stJ X hx hZ rfl Ar (j := j) (x := x) hin (g := mkF m pc A _) rfl rfl hd
          exact Nxt.mem X2 rfl hL h3 (by rw [e2]; exact hH.wrJ g1 hc0 W2) (Fr.snoc X2 hF (hH.2.2.2.1 _ _ g1 enr)) st2
        · cases h
      · cases h
    · cases h
  | arraylength =>
    obtain rfl : len = 1 := by simpa [lenOk] using hlen
    simp only [xI] at h
    split at h
    · rename_i o S0
      obtain ⟨ad, S1, g1, rfl, h1⟩ := hS.ref
      split at h
      · rename_i bb B hc0
        cases h
        obtain ⟨ad', g2, cl, Ar, z1, z2, z3⟩ := hH.at hc0
        rw [g1] at g2; cases g2
        exact Nxt.pure X rfl hL ⟨_, _, rfl, rfl, h1⟩ hH hF (fun t z => X.arraylength hx (cell := cl) Ar.1 (State.isArrayOf_alike hZ.alike Ar.2.1) (g := mkF m pc A _) rfl rfl hd t (by rw [z1]; exact z))
      · cases h
    · cases h
  | _ => simp [xI] at h
set_option maxHeartbeats 4000000 in
theorem stepN (X : Stand p l e R s m args below meth c T locs cells slots) (hx : p.tables.exec = Jvm.exec) (hZ : Z.Warmed39 s.vm) (hown : s.vm.findClass d.name.cls = some m.cls) (hP : chk P = true) (hW : ∀ w ∈ wordsOf P, w.before a0 Z = true) (hdm : d ∈ P.mth)
    {pc len a ks : Nat} {er : List Bool} {b : Int} {i : Instr} (hit : (pc, i, len, er, a, b) ∈ d.code) (hd : decode c.code pc = .ok (i, len)) (hlen : lenOk i len = true) {ρ : List Addr} {S S' Sc : List Value} {H H1 : AHeap} {A : Array Slot}
    (hS : SR ρ S Sc) (hH : HR P Z n0 T.heap ρ H) (h : xN P i a S H = some (S', H1, ks)) (hc : cells + 1 ≤ R.cells) (hl : slots + ks ≤ R.slots) :
    ∃ T' ad Sc', Stand p l e R s m args below meth c T' locs (cells + 1) (slots + ks) ∧ SR (ρ ++ [ad]) S' Sc' ∧ HR P Z n0 T'.heap (ρ ++ [ad]) H1 ∧
      ∀ target, Steps p.tables e below (T'.setTop (mkF m (pc + len) A Sc')) target → Steps p.tables e below (T.setTop (mkF m pc A Sc)) target := by
  have hWi : ∀ w ∈ iWords P d (pc, i, len, er, a, b), w.before a0 Z = true := fun w q => hW w (in_wordsOf hdm hit q)
  cases i with
  | new k =>
    obtain rfl : len = 3 := by simpa [lenOk] using hlen
    simp only [xN] at h
    split at h
    · rename_i cd q1
      cases h
      have hcm : cd ∈ P.cls := List.mem_of_getElem? q1
      have w1 := hWi (.classLink d.name.cls k cd.1) (by simp only [iWords, q1]; exact List.mem_singleton.mpr rfl)
      have w2 := hW (.instantiable cd.1 cd.2.1) (in_wordsC hcm (List.mem_cons_self ..))
      have w3 := hW (.initialized cd.1) (in_wordsC hcm (List.mem_cons_of_mem _ (List.mem_cons_self ..)))
      obtain ⟨T2, h2, X2, e2, E2, A2, D2, -, st2⟩ := newO X hx hZ hown w1 w2 w3 rfl (g := mkF m pc A Sc) rfl hd hc hl
      have hck := cChk_of hP hcm
      simp only [cChk, Bool.and_eq_true, List.all_eq_true] at hck
      have hcr : CR P Z h2 (ρ ++ [T.heap.size]) T.heap.size (.inl (a, cd.2.2.map fun f => dflt f.2.2.1)) := by
        refine ⟨cd, q1, A2, by simp, fun j v fd y1 y2 => ?_⟩
        rw [List.getElem?_map, y2] at y1
        cases y1
        have f1 := hck.2 _ (List.mem_of_getElem? y2)
        simp only [fChk, Bool.and_eq_true, decide_eq_true_eq] at f1
        exact ⟨_, dflt_sim f1.2, D2 (laid_of (hW _ (in_wordsC hcm (fWord_in (List.mem_of_getElem? y2))))) f1.1⟩
      refine ⟨T2, T.heap.size, _, X2, ⟨_, _, rfl, ⟨T.heap.size, ?_, rfl⟩, hS.mono⟩, (by rw [e2]; exact hH.push E2 hcr), st2⟩
      rw [← hH.2.1]; simp
    · cases h
  | newarray t =>
    obtain rfl : len = 2 := by simpa [lenOk] using hlen
    simp only [xN] at h
    split at h
    · rename_i n S0
      obtain ⟨S1, rfl, h1⟩ := hS.int
      split at h
      · cases h
      · rename_i hn
        have hn1 : ¬ n < 0 := fun z => hn (Or.inl z)
        have hn2 : n.toNatClampNeg ≤ 100000 := Nat.le_of_not_lt fun z => hn (Or.inr z)
        have w1 := hWi (.arrayClass (newarray.typeOf t)) (List.mem_singleton.mpr rfl)
        have top : (ρ ++ [T.heap.size])[H.length]? = some T.heap.size := by rw [← hH.2.1]; simp
        split at h
        · cases h
          obtain ⟨T2, h2, cA, X2, e2, E2, A2, st2⟩ := newP X hx hZ w1 rfl (g := mkF m pc A _) rfl hd rfl hn1 (cap := n.toNatClampNeg) (Nat.le_refl _) (by omega) hc hl
          have hcr : CR P Z h2 (ρ ++ [T.heap.size]) T.heap.size ((.inr (.inl (false, List.replicate n.toNatClampNeg 0)) : ACell)) := by
            refine ⟨_, A2, by simp [sz_new], by simp; omega, fun j x y => ?_⟩
            rw [List.getElem?_replicate] at y
            split at y
            · rename_i lt
              cases y
              simp [newA, lt, newarray.typeOf, defaultValue]
            · cases y
          exact ⟨T2, T.heap.size, _, X2, ⟨_, _, rfl, ⟨T.heap.size, top, rfl⟩, h1.mono⟩, (by rw [e2]; exact hH.push E2 hcr), st2⟩
        · cases h
          obtain ⟨T2, h2, cA, X2, e2, E2, A2, st2⟩ := newP X hx hZ w1 rfl (g := mkF m pc A _) rfl hd rfl hn1 (cap := n.toNatClampNeg) (Nat.le_refl _) (by omega) hc hl
          have hcr : CR P Z h2 (ρ ++ [T.heap.size]) T.heap.size ((.inr (.inl (true, List.replicate n.toNatClampNeg 0)) : ACell)) := by
            refine ⟨_, A2, by simp [sz_new], by simp; omega, fun j x y => ?_⟩
            rw [List.getElem?_replicate] at y
            split at y
            · rename_i lt
              cases y
              simp [newA, lt, newarray.typeOf, defaultValue]
            · cases y
          exact ⟨T2, T.heap.size, _, X2, ⟨_, _, rfl, ⟨T.heap.size, top, rfl⟩, h1.mono⟩, (by rw [e2]; exact hH.push E2 hcr), st2⟩
        · cases h
          obtain ⟨T2, h2, cA, X2, e2, E2, A2, st2⟩ := newP X hx hZ w1 rfl (g := mkF m pc A _) rfl hd rfl hn1 (cap := n.toNatClampNeg) (Nat.le_refl _) (by omega) hc hl
          have hcr : CR P Z h2 (ρ ++ [T.heap.size]) T.heap.size ((.inr (.inr (List.replicate n.toNatClampNeg 0)) : ACell)) := by
            refine ⟨_, A2, by simp [sz_new], by simp; omega, fun j x y => ?_⟩
            rw [List.getElem?_replicate] at y
            split at y
            · rename_i lt
              cases y
              simp [newA, lt, newarray.typeOf, defaultValue]
            · cases y
          exact ⟨T2, T.heap.size, _, X2, ⟨_, _, rfl, ⟨T.heap.size, top, rfl⟩, h1.mono⟩, (by rw [e2]; exact hH.push E2 hcr), st2⟩
        · cases h
    · cases h
  | _ => simp [xN] at h
end Step
end Jvm.Own
namespace Jvm.Own
open Jvm Jvm.ClassFile Sem Op Lib Jvm.Free Jvm.Stand Jvm.LawKit Jvm.RoadKit Bundle
theorem fetch_mem : ∀ {l : List (Nat × It)} {pc : Nat} {i : It}, fetch l pc = some i → (pc, i) ∈ l
  | [], _, _, h => by simp [fetch] at h
  | (q, j) :: r, pc, i, h => by
    unfold fetch at h
    split at h
    · rename_i e; cases h; subst e; exact List.mem_cons_self ..
    · exact List.mem_cons_of_mem _ (fetch_mem h)
theorem tgt_spec {pc q : Nat} {o : Int} (h : tgt pc o = some q) : 0 ≤ (pc : Int) + o ∧ ((pc : Int) + o).toNat = q := by
  unfold tgt at h
  split at h
  · rename_i z; cases h; exact ⟨z, rfl⟩
  · cases h
/-- the end of a method's run -/
def Done (P : PD) (Z : State) (n0 : Nat) (p : Program) (e : Env) (below : List Frame) (s : State) (ρ : List Addr) (v : Option Value) (H' : AHeap) (kc ks : Nat) (t0 : State) : Prop :=
  ∃ s₂ v' L' t, Steps p.tables e below t0 s₂ ∧ s₂.status = .running ∧ Ended s₂ below (.returned v') ∧ OV (ρ ++ t) v v' ∧ HR P Z n0 s₂.heap (ρ ++ t) H' ∧ Fr n0 L' ∧ FrameEnd s (.returned v') s₂ L' kc ks
def Cx (P : PD) (Z : State) (p : Program) (R : Room) (s : State) (m : MethodId) (meth : Method) (c : Code) (d : MD) : Prop :=
  p.tables.exec = Jvm.exec ∧ Z.Warmed39 s.vm ∧ c.code = d.bytes ∧ c.maxLocals = d.maxL ∧ s.vm.findClass d.name.cls = some m.cls ∧ meth.name = d.name.name ∧ meth.sig.returnType = d.ret ∧ meth.locks = false ∧ d.rf ≤ R.frames ∧ d.rw ≤ R.locals
/-- what the machine says of a run that has come to pc is what the model does -/
def Says (P : PD) (Z : State) (n0 : Nat) (l : Launch) (n : Nat) : Prop :=
  ∀ (mi pc : Nat) (L : List Slot) (S : List Value) (H : AHeap) (v : Option Value) (H' : AHeap) (kc ks : Nat), exe P n mi pc L S H = some (v, H', kc, ks) → ∀ d, P.mth[mi]? = some d →
    ∀ (p : Program) (e : Env) (R : Room) (s : State) (m : MethodId) (args : Array Value) (below : List Frame) (meth : Method) (c : Code) (T : State) (locs : List Loc) (cells slots : Nat),
      Stand p l e R s m args below meth c T locs cells slots → Cx P Z p R s m meth c d → cells + kc ≤ R.cells → slots + ks ≤ R.slots →
      ∀ (ρ : List Addr) (A : Array Slot) (Sc : List Value), LR ρ L A → L.length = d.maxL → SR ρ S Sc → HR P Z n0 T.heap ρ H → Fr n0 locs →
        Done P Z n0 p e below s ρ v H' (cells + kc) (slots + ks) (T.setTop (mkF m pc A Sc))
def QQ (P : PD) (Z : State) (n0 : Nat) (ρ : List Addr) (v : Option Value) (H1 : AHeap) (v' : Option Value) (h' : Heap) (L : List Loc) : Prop := Fr n0 L ∧ ∃ t, OV (ρ ++ t) v v' ∧ HR P Z n0 h' (ρ ++ t) H1
theorem met_of {P : PD} {Z : State} {n0 : Nat} {l : Launch} {n : Nat} (ih : Says P Z n0 l n) {j : Nat} {y : MD} (hy : P.mth[j]? = some y) (hpn : plainName y.name.cls = true) {as ws : List Value} {H H1 : AHeap} {v : Option Value} {kc ks : Nat} (he : exe P n j 0 (entL as y.maxL) [] H = some (v, H1, kc, ks)) {ρ : List Addr} (hS : SR ρ as ws) (hlen : (entA as).length ≤ y.maxL) {h : Heap} (hH : HR P Z n0 h ρ H) (w0 : List Jvm.Cond) (rm : Room) (r1 : y.rf ≤ rm.frames) (r2 : y.rw ≤ rm.locals) (r3 : kc ≤ rm.cells) (r4 : ks ≤ rm.slots) :
    MetFree l y.name (head1 (Jvm.Cond.code y.name y.bytes y.maxL y.ret :: w0) rm) (fun a U => a = ws.toArray ∧ Z.Warmed39 U.vm ∧ U.heap = h) (fun _ _ _ _ _ => True)
      (fun _ U o U' => ∃ v' L, o = .returned v' ∧ QQ P Z n0 ρ v H1 v' U'.heap L ∧ FrameEnd U o U' L kc ks) := by
  refine MetFree.of_bodySF (plainFor_of_name hpn) hisR ?_
  intro p e s m args below meth c s₁ Bd hml0 hP hK
  obtain ⟨rfl, hZ, hh⟩ := hP
  have X0 : Stand p l e rm s m ws.toArray below meth c s₁ [] 0 0 := Stand.of_body Bd
  have e0 : s₁.heap = h := by rw [← hh, Bd.state]; rfl
  obtain ⟨hL, hsz⟩ := LR.enter hS hlen
  have hLl : (entL as y.maxL).length = y.maxL := by rw [← hL.1]; exact hsz
  obtain ⟨s₂, v', L', t, h1, h2, h3, h4, h5, h6, h7⟩ := ih j 0 _ [] H v H1 kc ks he y hy p e _ s m ws.toArray below meth c s₁ [] 0 0 X0
    ⟨Bd.exec, hZ, Bd.bytes, hml0, findClass_of_methodNamed Bd.named, (name_of_methodNamed Bd.named Bd.method).1, Bd.returns, BodyLoose.notSynchronized Bd, r1, r2⟩
    (by rw [Nat.zero_add]; exact r3) (by rw [Nat.zero_add]; exact r4) ρ _ [] hL hLl rfl (by rw [e0]; exact hH) (Fr.nil n0)
  refine ⟨s₂, _, h1, h2, h3, v', L', rfl, ⟨h6, t, h4, h5⟩, ?_⟩
  rw [Nat.zero_add, Nat.zero_add] at h7
  exact h7
section Sound
variable {P : PD} {Z : State} {n0 : Nat} {a0 : Array Value} {l : Launch}
theorem Done.step {p : Program} {e : Env} {below : List Frame} {s : State} {ρ t : List Addr} {v : Option Value} {H' : AHeap} {kc ks : Nat} {t0 t1 : State} (h : Done P Z n0 p e below s (ρ ++ t) v H' kc ks t1) (k : ∀ target, Steps p.tables e below t1 target → Steps p.tables e below t0 target) : Done P Z n0 p e below s ρ v H' kc ks t0 := by
  obtain ⟨s₂, v', L', t', h1, h2, h3, h4, h5, h6, h7⟩ := h
  exact ⟨s₂, v', L', t ++ t', k _ h1, h2, h3, by rw [← List.append_assoc]; exact h4, by rw [← List.append_assoc]; exact h5, h6, h7⟩
theorem argsOf_spec {n : Nat} {S as rest : List Value} (h : argsOf n S = some (as, rest)) : n ≤ S.length ∧ as = (S.take n).reverse ∧ rest = S.drop n := by
  unfold argsOf at h
  split at h
  · rename_i z; cases h; exact ⟨z, rfl, rfl⟩
  · cases h
theorem res_ext {α : Type} {o : Option Res} {v : Option Value} {H' : AHeap} {kc ks c1 s1 : Nat} (h : (o.map fun r => addR r c1 s1) = some (v, H', kc, ks)) : ∃ kc' ks', o = some (v, H', kc', ks') ∧ kc = kc' + c1 ∧ ks = ks' + s1 := by
  obtain ⟨⟨v0, H0, c0, s0⟩, h1, h2⟩ := Option.map_eq_some_iff.mp h
  simp only [addR] at h2
  cases h2
  exact ⟨c0, s0, h1, rfl, rfl⟩
set_option maxHeartbeats 4000000 in
theorem sound (hP : chk P = true) (hW : ∀ w ∈ wordsOf P, w.before a0 Z = true) : ∀ n, Says P Z n0 l n
  | 0 => fun mi pc L S H v H' kc ks h => by simp [exe] at h
  | n + 1 => by
    have ih := sound hP hW n
    intro mi pc L S H v H' kc ks h d hmi
    unfold exe at h
    rw [hmi] at h
    simp only at h
    have hdm : d ∈ P.mth := List.mem_of_getElem? hmi
    split at h
    · cases h
    rename_i it i len er a b hft
    have hit := fetch_mem hft
    have hmc := mChk_of hP hdm
    simp only [mChk, Bool.and_eq_true] at hmc
    obtain ⟨⟨⟨⟨⟨⟨mc1, mc2⟩, mc3⟩, mc4⟩, mc5⟩, mc6⟩, mc7⟩ := hmc
    unfold codeChk at mc3
    rw [List.all_eq_true] at mc3
    have hci := mc3 _ hit
    simp only [Bool.and_eq_true, decide_eq_true_eq] at hci
    obtain ⟨hdec, hlenOk⟩ := hci
    -- a jump, or a fall through
    have jump : ∀ (q : Nat) (S1 : List Value) (h1 : exe P n mi q (forget er L) S1 H = some (v, H', kc, ks)),
        (∀ (p : Program) (e : Env) (R : Room) (s : State) (m : MethodId) (args : Array Value) (below : List Frame) (meth : Method) (c : Code) (T : State) (locs : List Loc) (cells slots : Nat),
          Stand p l e R s m args below meth c T locs cells slots → Cx P Z p R s m meth c d → ∀ (ρ : List Addr) (A : Array Slot) (Sc : List Value), LR ρ L A → SR ρ S Sc → ∃ Sc1, SR ρ S1 Sc1 ∧ ∀ target, Steps p.tables e below (T.setTop (mkF m q A Sc1)) target → Steps p.tables e below (T.setTop (mkF m pc A Sc)) target) →
        ∀ (p : Program) (e : Env) (R : Room) (s : State) (m : MethodId) (args : Array Value) (below : List Frame) (meth : Method) (c : Code) (T : State) (locs : List Loc) (cells slots : Nat),
          Stand p l e R s m args below meth c T locs cells slots → Cx P Z p R s m meth c d → cells + kc ≤ R.cells → slots + ks ≤ R.slots →
          ∀ (ρ : List Addr) (A : Array Slot) (Sc : List Value), LR ρ L A → L.length = d.maxL → SR ρ S Sc → HR P Z n0 T.heap ρ H → Fr n0 locs →
            Done P Z n0 p e below s ρ v H' (cells + kc) (slots + ks) (T.setTop (mkF m pc A Sc)) := by
      intro q S1 h1 st p e R s m args below meth c T locs cells slots X cx k1 k2 ρ A Sc hL hLl hS hH hF
      obtain ⟨Sc1, hS1, st1⟩ := st p e R s m args below meth c T locs cells slots X cx ρ A Sc hL hS
      have := ih mi q _ S1 H v H' kc ks h1 d hmi p e R s m args below meth c T locs cells slots X cx k1 k2 ρ A Sc1 (hL.forget er) (by rw [forget_len]; exact hLl) hS1 hH hF
      exact Done.step (t := []) (by rw [List.append_nil]; exact this) st1
    have dec : ∀ {c : Code}, c.code = d.bytes → decode c.code pc = .ok (i, len) := fun hc => by rw [hc]; exact hdec
    split at h
    · -- goto
      rename_i o
      split at h
      · rename_i q hq
        obtain ⟨t1, t2⟩ := tgt_spec hq
        have m3 := jump q S h
        obtain rfl : len = 3 := by simpa [lenOk] using hlenOk
        exact m3 fun p e R s m args below meth c T locs cells slots X cx ρ A Sc hL hS => ⟨Sc, hS, fun t z => XS.goto (g := mkF m pc A Sc) X.here cx.1 rfl (pc0 := pc) (pc' := q) rfl (dec cx.2.2.1) t1 t2 z⟩
      · cases h
    · -- if_icmp
      rename_i cd o
      split at h
      · rename_i y x S1
        obtain rfl : len = 3 := by simpa [lenOk] using hlenOk
        split at h
        · rename_i hc
          split at h
          · rename_i q hq
            obtain ⟨t1, t2⟩ := tgt_spec hq
            have m3 := jump q S1 h
            exact m3 fun p e R s m args below meth c T locs cells slots X cx ρ A Sc hL hS => by
              obtain ⟨Sa, rfl, ha⟩ := hS.int
              obtain ⟨Sb, rfl, hb⟩ := ha.int
              exact ⟨Sb, hb, fun t z => XS.icmpYes (g := mkF m pc A _) X.here cx.1 rfl (pc0 := pc) (pc' := q) rfl (dec cx.2.2.1) rfl hc t1 t2 z⟩
          · cases h
        · rename_i hc
          have m3 := jump (pc + 3) S1 h
          exact m3 fun p e R s m args below meth c T locs cells slots X cx ρ A Sc hL hS => by
            obtain ⟨Sa, rfl, ha⟩ := hS.int
            obtain ⟨Sb, rfl, hb⟩ := ha.int
            exact ⟨Sb, hb, fun t z => XS.icmpNo (g := mkF m pc A _) X.here cx.1 rfl (dec cx.2.2.1) rfl (by simpa using hc) z⟩
      · cases h
    · -- ifCond
      rename_i cd o
      split at h
      · rename_i x S1
        obtain rfl : len = 3 := by simpa [lenOk] using hlenOk
        split at h
        · rename_i hc
          split at h
          · rename_i q hq
            obtain ⟨t1, t2⟩ := tgt_spec hq
            have m3 := jump q S1 h
            exact m3 fun p e R s m args below meth c T locs cells slots X cx ρ A Sc hL hS => by
              obtain ⟨Sa, rfl, ha⟩ := hS.int
              exact ⟨Sa, ha, fun t z => XS.ifYes (g := mkF m pc A _) X.here cx.1 rfl (pc0 := pc) (pc' := q) rfl (dec cx.2.2.1) rfl hc t1 t2 z⟩
          · cases h
        · rename_i hc
          have m3 := jump (pc + 3) S1 h
          exact m3 fun p e R s m args below meth c T locs cells slots X cx ρ A Sc hL hS => by
            obtain ⟨Sa, rfl, ha⟩ := hS.int
            exact ⟨Sa, ha, fun t z => XS.ifNo (g := mkF m pc A _) X.here cx.1 rfl (dec cx.2.2.1) rfl (by simpa using hc) z⟩
      · cases h
    · -- ifnonnull
      rename_i o
      split at h
      · rename_i x S1
        split at h
        · rename_i q hq
          obtain ⟨t1, t2⟩ := tgt_spec hq
          have m3 := jump q S1 h
          obtain rfl : len = 3 := by simpa [lenOk] using hlenOk
          exact m3 fun p e R s m args below meth c T locs cells slots X cx ρ A Sc hL hS => by
            obtain ⟨ad, Sa, -, rfl, ha⟩ := hS.ref
            exact ⟨Sa, ha, fun t z => XT.ifnonnullYes (g := mkF m pc A _) X.here cx.1 rfl (pc0 := pc) (pc' := q) rfl (dec cx.2.2.1) rfl t1 t2 z⟩
        · cases h
      · cases h
    · -- ireturn
      split at h
      · rename_i x
        split at h
        · rename_i v0 hv0
          cases h
          obtain rfl : len = 1 := by simpa [lenOk] using hlenOk
          intro p e R s m args below meth c T locs cells slots X cx k1 k2 ρ A Sc hL hLl hS hH hF
          obtain ⟨hx, hZ, hby, hml, hown, hnm, hret, hlk, -, -⟩ := cx
          obtain ⟨Sa, rfl, ha⟩ := hS.int
          unfold retV at hv0
          split at hv0
          · rename_i hr0
            cases hv0
            obtain ⟨fs, hr, hrun, hended, hWm, hsame⟩ := X.leave (v := some (.int x)) (fun q => by rw [hret, hr0] at q; cases q) hlk
            exact ⟨_, _, locs, [], retI X hx (by rw [hret, hr0]) (dec hby) hr, hrun, hended, ⟨_, rfl, rfl⟩, by rw [List.append_nil]; exact hH, hF, ⟨_, rfl⟩, hWm, hsame⟩
          · rename_i hr0
            cases hv0
            obtain ⟨fs, hr, hrun, hended, hWm, hsame⟩ := X.leave (v := some (.int (x &&& 1))) (fun q => by rw [hret, hr0] at q; cases q) hlk
            exact ⟨_, _, locs, [], retN X hx (t := .boolean) (by rw [hret, hr0]) (by simp) (dec hby) hr, hrun, hended, ⟨_, rfl, rfl⟩, by rw [List.append_nil]; exact hH, hF, ⟨_, rfl⟩, hWm, hsame⟩
          · cases hv0
        · cases h
      · cases h
    · -- lreturn
      split at h
      · rename_i x
        split at h
        · rename_i hr0
          cases h
          obtain rfl : len = 1 := by simpa [lenOk] using hlenOk
          intro p e R s m args below meth c T locs cells slots X cx k1 k2 ρ A Sc hL hLl hS hH hF
          obtain ⟨hx, hZ, hby, hml, hown, hnm, hret, hlk, -, -⟩ := cx
          obtain ⟨Sa, rfl, ha⟩ := hS.long
          obtain rfl : Sa = [] := ha
          obtain ⟨fs, hr, hrun, hended, hWm, hsame⟩ := X.leave (v := some (.long x)) (fun q => by rw [hret, hr0] at q; cases q) hlk
          exact ⟨_, _, locs, [], X.lreturnOut hx (by rw [hret, hr0]) (dec hby) hr, hrun, hended, ⟨_, rfl, rfl⟩, by rw [List.append_nil]; exact hH, hF, ⟨_, rfl⟩, hWm, hsame⟩
        · cases h
      · cases h
    · -- return
      split at h
      · split at h
        · rename_i hr0
          cases h
          obtain rfl : len = 1 := by simpa [lenOk] using hlenOk
          intro p e R s m args below meth c T locs cells slots X cx k1 k2 ρ A Sc hL hLl hS hH hF
          obtain ⟨hx, hZ, hby, hml, hown, hnm, hret, hlk, -, -⟩ := cx
          obtain rfl : Sc = [] := hS
          obtain ⟨fs, hr, hrun, hended, hWm, hsame⟩ := X.leave (v := none) (fun _ => rfl) hlk
          exact ⟨_, _, locs, [], X.returnOut hx (by rw [hret, hr0]) (dec hby) hr, hrun, hended, rfl, by rw [List.append_nil]; exact hH, hF, ⟨_, rfl⟩, hWm, hsame⟩
        · cases h
      · cases h
    · -- a call, or a plain step
      split at h
      · rename_i hinv
        split at h
        · -- Object.<init>
          rename_i hb1
          subst hb1
          have hk : ∃ k x S1, i = .invokespecial k ∧ S = .ref x :: S1 ∧ (if 1 ≤ d.rf ∧ catSum S1 + 12 ≤ d.rw then exe P n mi (pc + 3) (forget er L) S1 H else none) = some (v, H', kc, ks) := by
            split at h
            · exact ⟨_, _, _, rfl, rfl, h⟩
            · cases h
          clear h
          obtain ⟨k, x, S1, rfl, rfl, h⟩ := hk
          · split at h
            · rename_i hroom
              have m3 := ih mi (pc + 3) _ S1 H v H' kc ks h d hmi
              obtain rfl : len = 3 := by simpa [lenOk] using hlenOk
              have hWi : ∀ w ∈ iWords P d (pc, .invokespecial k, 3, er, a, -1), w.before a0 Z = true := fun w q => hW w (in_wordsOf hdm hit q)
              have hWi' : ∀ w ∈ [Jvm.Cond.methodLink d.name.cls k Lib.objectInit, .instanceMethod Lib.objectInit, .code Lib.objectInit ⟨#[0xb1]⟩ 1 none], w.before a0 Z = true := hWi
              intro p e R s m args below meth c T locs cells slots X cx k1 k2 ρ A Sc hL hLl hS hH hF
              have cx0 := cx
              obtain ⟨hx, hZ, hby, hml, hown, hnm, hret, hlk, hrf, hrw⟩ := cx
              obtain ⟨ad, Sa, -, rfl, ha⟩ := hS.ref
              obtain ⟨T2, X2, e2, st2⟩ := initO X hx hZ hown (hWi' _ (by simp)) (hWi' _ (by simp)) (hWi' _ (by simp)) rfl (g := mkF m pc A (.ref ad :: Sa)) rfl (by rw [hml]; exact hL.1.trans hLl) rfl (dec hby) (by omega) (W := catSum S1) (by show 2 * 0 + _ ≤ _; rw [ha.cat]; omega) (by omega)
              have := m3 p e R s m args below meth c T2 locs cells slots X2 cx0 k1 k2 ρ A Sa (hL.forget er) (by rw [forget_len]; exact hLl) ha (by rw [e2]; exact hH) hF
              exact Done.step (t := []) (by rw [List.append_nil]; exact this) st2
            · cases h
        · rename_i hb1
          split at h
          · cases h
          rename_i y hy
          split at h
          · cases h
          rename_i as rest hao
          split at h
          · rename_i hcond
            simp only [Bool.and_eq_true, decide_eq_true_eq] at hcond
            obtain ⟨⟨⟨⟨hj, hik⟩, hrecv⟩, hroom⟩, hent⟩ := hcond
            split at h
            · rename_i v1 H1 c1 s1 hcal
              obtain ⟨c0, s0, hcon, rfl, rfl⟩ := res_ext (α := Unit) h
              have m3 := ih mi (pc + 3) _ _ H1 v H' c0 s0 hcon d hmi
              intro p e R s m args below meth c T locs cells slots X cx k1 k2 ρ A Sc hL hLl hS hH hF
              have cx0 := cx
              obtain ⟨hx, hZ, hby, hml, hown, hnm, hret, hlk, hrf, hrw⟩ := cx
              have hym : y ∈ P.mth := List.mem_of_getElem? hy
              have hyc := mChk_of hP hym
              simp only [mChk, Bool.and_eq_true, decide_eq_true_eq] at hyc
              obtain ⟨⟨⟨⟨⟨⟨yc1, yc2⟩, yc3⟩, yc4⟩, yc5⟩, yc6⟩, yc7⟩ := hyc
              simp only [fitsRoom, Bool.and_eq_true, decide_eq_true_eq] at hroom
              obtain ⟨hn, has, hrest⟩ := argsOf_spec hao
              have hnc : nargs y ≤ Sc.length := by rw [hS.len]; exact hn
              have hSa : SR ρ as (Sc.take (nargs y)).reverse := by rw [has]; exact (hS.take _).rev
              have hSr : SR ρ rest (Sc.drop (nargs y)) := by rw [hrest]; exact hS.drop _
              have hsplit : Sc = (Sc.take (nargs y)).reverse.reverse ++ Sc.drop (nargs y) := by rw [List.reverse_reverse, List.take_append_drop]
              obtain ⟨ws, hws⟩ : ∃ ws, ws = (Sc.take (nargs y)).reverse := ⟨_, rfl⟩
              obtain ⟨rc, hrc⟩ : ∃ rc, rc = Sc.drop (nargs y) := ⟨_, rfl⟩
              have hwl : ws.length = nargs y := by rw [hws]; simp; omega
              rw [← hws] at hSa hsplit
              rw [← hrc] at hSr hsplit
              have wcode := hW (.code y.name y.bytes y.maxL y.ret) (in_wordsM hy hj (List.mem_cons_self ..))
              have winit := hW (.initialized y.name.cls) (in_wordsM hy hj (List.mem_cons_of_mem _ (List.mem_cons_self ..)))
              have wmore : ∀ w ∈ (if y.kind = 0 then [Jvm.Cond.static y.name] else if y.kind = 1 then [.instanceMethod y.name] else if y.kind = 2 then [.instanceMethod y.name, .privateMethod y.name] else [.declares y.name, .selects y.name.cls y.name y.name, .instanceMethod y.name]), w.before a0 Z = true := fun w q => hW w (in_wordsM hy hj (List.mem_cons_of_mem _ (List.mem_cons_of_mem _ q)))
              have hMH : y.name.cls ≠ "java/lang/invoke/MethodHandle" ∧ y.name.cls ≠ "java/lang/invoke/VarHandle" := ⟨yc5, yc6⟩
              have back := backOf (W := catSum rest) (len := 3) (R := R) (p := p) (e := e) (below := below) (s := s) (args := args) (met_of ih hy yc1 hcal hSa hent hH [] ({ frames := y.rf, cells := c1, slots := s1, locals := y.rw } : Room) (Nat.le_refl _) (Nat.le_refl _) (Nat.le_refl _) (Nat.le_refl _)) hZ wcode winit (by show y.rf + 1 ≤ _; omega) (by show _ + y.rw ≤ _; omega)
              have hWW : 2 * (mkF m pc A Sc).monitorRoom + (rc.map fun v => v.category).sum ≤ catSum rest := by show 2 * 0 + _ ≤ _; rw [hSr.cat]; omega
              have hpar : ∀ sig, parseMethodDescriptor y.name.desc = some sig → sig.parameters.length = y.npar := fun sig q => by
                unfold sigChk at yc2
                rw [q] at yc2
                simpa using yc2
              have fin : ∀ (v1' : Option Value) (T2 : State) (Lc : List Loc), Stand p l e R s m args below meth c T2 (locs ++ Lc) (cells + c1) (slots + s1) → QQ P Z n0 ρ v1 H1 v1' T2.heap Lc →
                  (∀ target, Steps p.tables e below (T2.setTop (mkF m (pc + 3) A (v1'.toList ++ rc))) target → Steps p.tables e below (T.setTop (mkF m pc A Sc)) target) →
                  Done P Z n0 p e below s ρ v H' (cells + (c0 + c1)) (slots + (s0 + s1)) (T.setTop (mkF m pc A Sc)) := by
                intro v1' T2 Lc X2 hq st2
                obtain ⟨hF2, t, hov, hH2⟩ := hq
                have := m3 p e R s m args below meth c T2 (locs ++ Lc) _ _ X2 cx0 (by omega) (by omega) (ρ ++ t) A (v1'.toList ++ rc) (hL.forget er).mono (by rw [forget_len]; exact hLl) (hov.list.app hSr.mono) hH2 (hF.app hF2)
                have q1 : cells + c1 + c0 = cells + (c0 + c1) := by omega
                have q2 : slots + s1 + s0 = slots + (s0 + s1) := by omega
                rw [q1, q2] at this
                exact this.step st2
              have hcR : cells + c1 ≤ R.cells := by omega
              have hsR : slots + s1 ≤ R.slots := by omega
              cases i with
              | invokestatic k =>
                obtain rfl : len = 3 := by simpa [lenOk] using hlenOk
                have hk0 : y.kind = 0 := by simpa [invKind] using hik
                have wl := hW (.methodLink d.name.cls k y.name) (in_wordsOf hdm hit (by show _ ∈ mLink P d k a b; unfold mLink; rw [if_neg hb1, hy]; exact List.mem_singleton.mpr rfl))
                have wst := wmore (.static y.name) (by rw [if_pos hk0]; exact List.mem_singleton.mpr rfl)
                have hna : nargs y = y.npar := by simp [nargs, hk0]
                obtain ⟨v1', _, ⟨T2, L2, k2', n2⟩, -, X2, ⟨Lc, hQ, l2, y2, z2⟩, st2⟩ := Jvm.LawKit.callS X hx (y := y.name) hown (mvT hZ wl) (mvT hZ wst) (mvT hZ winit) (mvT hZ wcode) hMH back (g := mkF m pc A Sc) rfl (by rw [hml]; exact hL.1.trans hLl) (argsL := ws) (rest := rc) (fun sig q => by rw [hpar sig q, hwl, hna]) hsplit hWW (dec hby) (fun _ _ => ⟨rfl, rfl, hcR, hsR⟩)
                dsimp only [Pt.U, Pt.locs, Pt.cells, Pt.slots] at X2 l2 y2 z2 st2 hQ
                subst l2 y2 z2
                exact fin v1' T2 Lc X2 hQ st2
              | invokespecial k =>
                obtain rfl : len = 3 := by simpa [lenOk] using hlenOk
                have hk1 : y.kind = 1 := by simpa [invKind] using hik
                have wl := hW (.methodLink d.name.cls k y.name) (in_wordsOf hdm hit (by show _ ∈ mLink P d k a b; unfold mLink; rw [if_neg hb1, hy]; exact List.mem_singleton.mpr rfl))
                have wst := wmore (.instanceMethod y.name) (by rw [if_neg (by omega), if_pos hk1]; exact List.mem_singleton.mpr rfl)
                have hna : nargs y = y.npar + 1 := by simp [nargs, hk1]
                simp [hk1] at yc7
                have wcode' : (Jvm.Cond.code y.name y.bytes y.maxL none).before a0 Z = true := by rw [← yc7.2]; exact wcode
                unfold recvOk at hrecv
                rw [if_neg (by omega)] at hrecv
                split at hrecv
                · rename_i o as'
                  obtain ⟨ad, ws', g1, rfl, ha'⟩ := hSa.ref
                  have hst : Sc = ws'.reverse ++ .ref ad :: rc := by rw [hsplit]; simp
                  obtain ⟨v1', _, ⟨T2, L2, k2', n2⟩, -, X2, ⟨Lc, hQ, l2, y2, z2⟩, st2⟩ := X.specialBack hx (y := y.name) yc7.1 hown (mvT hZ wl) (mvT hZ wst) (mvT hZ wcode') hMH back (g := mkF m pc A Sc) rfl (by rw [hml]; exact hL.1.trans hLl) (Steps.refl _) (a := ad) (argsL := ws') (rest := rc) (fun sig q => by rw [hpar sig q]; simp [hna] at hwl; omega) hst hWW (dec hby) (fun _ _ => ⟨rfl, rfl, hcR, hsR⟩)
                  dsimp only [Pt.U, Pt.locs, Pt.cells, Pt.slots] at X2 l2 y2 z2 st2 hQ
                  subst l2 y2 z2
                  exact fin v1' T2 Lc X2 hQ fun t z => st2.trans z
                · cases hrecv
              | invokevirtual k =>
                obtain rfl : len = 3 := by simpa [lenOk] using hlenOk
                have wl := hW (.methodLink d.name.cls k y.name) (in_wordsOf hdm hit (by show _ ∈ mLink P d k a b; unfold mLink; rw [if_neg hb1, hy]; exact List.mem_singleton.mpr rfl))
                have hk23 : y.kind = 2 ∨ y.kind = 3 := by simpa [invKind] using hik
                have hk0 : ¬ y.kind = 0 := by omega
                have hk1 : ¬ y.kind = 1 := by omega
                have hna : nargs y = y.npar + 1 := by simp [nargs, hk0]
                unfold recvOk at hrecv
                rw [if_neg hk0] at hrecv
                split at hrecv
                · rename_i o as'
                  obtain ⟨ad, ws', g1, rfl, ha'⟩ := hSa.ref
                  have hst : Sc = ws'.reverse ++ .ref ad :: rc := by rw [hsplit]; simp
                  split at hrecv
                  · rename_i c0 fs hc0
                    obtain rfl : c0 = y.cid := by simpa using hrecv
                    obtain ⟨ad', g2, cd, q1, q2, q3, q4⟩ := hH.at hc0
                    rw [g1] at g2; cases g2
                    have hcd := cid_of hP hym q1
                    have hcm : cd ∈ P.cls := List.mem_of_getElem? q1
                    rw [hcd] at q2
                    by_cases hk2 : y.kind = 2
                    · have w1 := wmore (.instanceMethod y.name) (by rw [if_neg hk0, if_neg hk1, if_pos hk2]; simp)
                      have w2 := wmore (.privateMethod y.name) (by rw [if_neg hk0, if_neg hk1, if_pos hk2]; simp)
                      have w3 := hW (.instantiable cd.1 cd.2.1) (in_wordsC hcm (List.mem_cons_self ..))
                      rw [hcd] at w3
                      obtain ⟨cI, kI, i1, i2, i3, i4, -⟩ := Cond.instantiable_spec (mvT hZ w3 (args := args) : (Jvm.Cond.instantiable y.name.cls cd.2.1).before args s = true)
                      have hsel := selects_self_of_private (args := args) i1 i2 (by simp at i4; exact i4.1) (Cond.privateMethod_at (mvP hZ w2 (args := #[]))) (mvT hZ w1) hMH
                      obtain ⟨cq, hq1, hq2⟩ := q2.cell
                      obtain ⟨v1', _, ⟨T2, L2, k2', n2⟩, -, X2, ⟨Lc, hQ, l2, y2, z2⟩, st2⟩ := X.privateBack hx (y := y.name) hown (mvT hZ wl) (mvT hZ w1) hsel (Cond.privateMethod_at (mvP hZ w2 (args := #[]))) (mvT hZ wcode) hMH back (g := mkF m pc A Sc) rfl (by rw [hml]; exact hL.1.trans hLl) (Steps.refl _) (a := ad) hq1 hq2 (argsL := ws') (rest := rc) (fun sig q => by rw [hpar sig q]; simp [hna] at hwl; omega) hst hWW (dec hby) (fun _ _ => ⟨rfl, rfl, hcR, hsR⟩)
                      dsimp only [Pt.U, Pt.locs, Pt.cells, Pt.slots] at X2 l2 y2 z2 st2 hQ
                      subst l2 y2 z2
                      exact fin v1' T2 Lc X2 hQ fun t z => st2.trans z
                    · have w1 := wmore (.declares y.name) (by rw [if_neg hk0, if_neg hk1, if_neg hk2]; simp)
                      have w2 := wmore (.selects y.name.cls y.name y.name) (by rw [if_neg hk0, if_neg hk1, if_neg hk2]; simp)
                      have w3 := wmore (.instanceMethod y.name) (by rw [if_neg hk0, if_neg hk1, if_neg hk2]; simp)
                      obtain ⟨cq, kq, qa, qb, qc⟩ := isOf hZ rfl q2
                      obtain ⟨v1', _, ⟨T2, L2, k2', n2⟩, -, X2, ⟨Lc, hQ, l2, y2, z2⟩, st2⟩ := X.virtualBack hx (y := y.name) (z := y.name) hown (mvT hZ wl) (mvT hZ w1) (notFace_of_selects (args := #[]) (mvT hZ w2)) (mvT hZ w2) (mvT hZ w3) hMH back qa qc (g := mkF m pc A Sc) rfl (by rw [hml]; exact hL.1.trans hLl) (Steps.refl _) (argsL := ws') (rest := rc) (fun sig q => by rw [hpar sig q]; simp [hna] at hwl; omega) hst hWW (dec hby) (fun _ _ => ⟨rfl, rfl, hcR, hsR⟩)
                      dsimp only [Pt.U, Pt.locs, Pt.cells, Pt.slots] at X2 l2 y2 z2 st2 hQ
                      subst l2 y2 z2
                      exact fin v1' T2 Lc X2 hQ fun t z => st2.trans z
                  · cases hrecv
                · cases hrecv
              | _ => simp [isInv] at hinv
            · cases h
          · cases h
      · split at h
        · split at h
          · rename_i S1 H1 k1' hxN
            obtain ⟨c0, s0, hcon, rfl, rfl⟩ := res_ext (α := Unit) h
            have m3 := ih mi (pc + len) _ S1 H1 v H' c0 s0 hcon d hmi
            intro p e R s m args below meth c T locs cells slots X cx k1 k2 ρ A Sc hL hLl hS hH hF
            have cx0 := cx
            obtain ⟨hx, hZ, hby, hml, hown, hnm, hret, hlk, hrf, hrw⟩ := cx
            obtain ⟨T2, ad, Sc2, X2, hS2, hH2, st2⟩ := stepN (A := A) X hx hZ hown hP hW hdm hit (dec hby) hlenOk hS hH hxN (by omega) (by omega)
            have := m3 p e R s m args below meth c T2 locs _ _ X2 cx0 (by omega) (by omega) (ρ ++ [ad]) A Sc2 (hL.forget er).mono (by rw [forget_len]; exact hLl) hS2 hH2 hF
            have q1 : cells + 1 + c0 = cells + (c0 + 1) := by omega
            have q2 : slots + k1' + s0 = slots + (s0 + k1') := by omega
            rw [q1, q2] at this
            exact this.step st2
          · cases h
        · split at h
          · rename_i L1 S1 H1 hxI
            have m3 := ih mi (pc + len) L1 S1 H1 v H' kc ks h d hmi
            intro p e R s m args below meth c T locs cells slots X cx k1 k2 ρ A Sc hL hLl hS hH hF
            have cx0 := cx
            obtain ⟨hx, hZ, hby, hml, hown, hnm, hret, hlk, hrf, hrw⟩ := cx
            obtain ⟨T2, locs2, A2, Sc2, X2, x3, hL2, hS2, hH2, hF2, st2⟩ := stepX X hx hZ hown hnm hP hW hdm hit (dec hby) hlenOk (hL.forget er) hS hH hF hxI
            have := m3 p e R s m args below meth c T2 locs2 cells slots X2 cx0 k1 k2 ρ A2 Sc2 hL2 (by rw [x3, forget_len]; exact hLl) hS2 hH2 hF2
            exact Done.step (t := []) (by rw [List.append_nil]; exact this) st2
          · cases h
end Sound
end Jvm.Own
namespace Jvm.Own
open Jvm Jvm.ClassFile Sem Op Lib Jvm.Free Jvm.Stand Jvm.LawKit Jvm.RoadKit Bundle
/-! Runs of the plain machine, rule by rule -/
def OEnds (P : PD) (mi pc : Nat) (L : List Slot) (S : List Value) (H : AHeap) (r : Res) : Prop := ∃ n0, ∀ n, n0 ≤ n → exe P n mi pc L S H = some r
def plainI : Instr → Bool
  | .goto _ => false
  | .if_icmp _ _ => false
  | .ifCond _ _ => false
  | .ifnonnull _ => false
  | .ireturn => false
  | .lreturn => false
  | .return_ => false
  | .invokestatic _ => false
  | .invokespecial _ => false
  | .invokevirtual _ => false
  | .new _ => false
  | .newarray _ => false
  | _ => true
section Rules
variable {P : PD} {mi pc len a q : Nat} {er : List Bool} {b : Int} {i : Instr} {d y : MD} {L L' : List Slot} {S S' as rest : List Value} {H H' H1 : AHeap} {r : Res} {kc ks : Nat} {v : Option Value}
theorem OEnds.up (h : ∀ n, exe P n mi q L' S' H' = some r → exe P (n + 1) mi pc L S H = some r) (E : OEnds P mi q L' S' H' r) : OEnds P mi pc L S H r := by
  obtain ⟨n0, E⟩ := E
  refine ⟨n0 + 1, fun n hn => ?_⟩
  obtain ⟨k, rfl⟩ : ∃ k, n = k + 1 := ⟨n - 1, by omega⟩
  exact h k (E k (by omega))
theorem OEnds.plain (hm : P.mth[mi]? = some d) (hf : fetch d.code pc = some (i, len, er, a, b)) (hp : plainI i = true) (hx : xI P (d.name.name == "<init>") d.cid i a b (forget er L) S H = some (L', S', H')) (E : OEnds P mi (pc + len) L' S' H' r) : OEnds P mi pc L S H r := by
  refine E.up fun n h => ?_
  unfold exe
  rw [hm]
  simp only
  rw [hf]
  simp only
  split
  all_goals first | (simp [plainI] at hp; done) | skip
  have h1 : ¬ isInv i = true := by
    cases i <;> first | (simp [plainI] at hp; done) | simp [isInv]
  have h2 : ¬ isNew i = true := by
    cases i <;> first | (simp [plainI] at hp; done) | simp [isNew]
  rw [if_neg h1, if_neg h2, hx]
  exact h
theorem OEnds.goto {o : Int} (hm : P.mth[mi]? = some d) (hf : fetch d.code pc = some (.goto o, len, er, a, b)) (ht : tgt pc o = some q) (E : OEnds P mi q (forget er L) S H r) : OEnds P mi pc L S H r := by
  refine E.up fun n h => ?_
  unfold exe
  rw [hm]
  simp only
  rw [hf]
  simp only
  rw [ht]
  exact h
theorem OEnds.icmpT {o : Int} {cd : ClassFile.Cond} {x z : Int32} (hm : P.mth[mi]? = some d) (hf : fetch d.code pc = some (.if_icmp cd o, len, er, a, b)) (ht : tgt pc o = some q) (hc : if_icmp.holds cd x z = true) (E : OEnds P mi q (forget er L) S H r) : OEnds P mi pc L (.int z :: .int x :: S) H r := by
  refine E.up fun n h => ?_
  unfold exe
  rw [hm]
  simp only
  rw [hf]
  simp only
  rw [if_pos hc, ht]
  exact h
theorem OEnds.icmpF {o : Int} {cd : ClassFile.Cond} {x z : Int32} (hm : P.mth[mi]? = some d) (hf : fetch d.code pc = some (.if_icmp cd o, len, er, a, b)) (hc : if_icmp.holds cd x z = false) (E : OEnds P mi (pc + 3) (forget er L) S H r) : OEnds P mi pc L (.int z :: .int x :: S) H r := by
  refine E.up fun n h => ?_
  unfold exe
  rw [hm]
  simp only
  rw [hf]
  simp only
  rw [if_neg (by rw [hc]; exact Bool.false_ne_true)]
  exact h
theorem OEnds.ifT {o : Int} {cd : ClassFile.Cond} {x : Int32} (hm : P.mth[mi]? = some d) (hf : fetch d.code pc = some (.ifCond cd o, len, er, a, b)) (ht : tgt pc o = some q) (hc : if_icmp.holds cd x 0 = true) (E : OEnds P mi q (forget er L) S H r) : OEnds P mi pc L (.int x :: S) H r := by
  refine E.up fun n h => ?_
  unfold exe
  rw [hm]
  simp only
  rw [hf]
  simp only
  rw [if_pos ((if0 cd x).trans hc), ht]
  exact h
theorem OEnds.ifF {o : Int} {cd : ClassFile.Cond} {x : Int32} (hm : P.mth[mi]? = some d) (hf : fetch d.code pc = some (.ifCond cd o, len, er, a, b)) (hc : if_icmp.holds cd x 0 = false) (E : OEnds P mi (pc + 3) (forget er L) S H r) : OEnds P mi pc L (.int x :: S) H r := by
  refine E.up fun n h => ?_
  unfold exe
  rw [hm]
  simp only
  rw [hf]
  simp only
  rw [if_neg (by rw [if0 cd x, hc]; exact Bool.false_ne_true)]
  exact h
theorem OEnds.nonnull {o : Int} {x : Nat} (hm : P.mth[mi]? = some d) (hf : fetch d.code pc = some (.ifnonnull o, len, er, a, b)) (ht : tgt pc o = some q) (E : OEnds P mi q (forget er L) S H r) : OEnds P mi pc L (.ref x :: S) H r := by
  refine E.up fun n h => ?_
  unfold exe
  rw [hm]
  simp only
  rw [hf]
  simp only
  rw [ht]
  exact h
theorem OEnds.iret {x : Int32} {u : Value} (hm : P.mth[mi]? = some d) (hf : fetch d.code pc = some (.ireturn, len, er, a, b)) (hv : retV d.ret x = some u) : OEnds P mi pc L [.int x] H (some u, H, 0, 0) := by
  refine ⟨1, fun n hn => ?_⟩
  obtain ⟨k, rfl⟩ : ∃ k, n = k + 1 := ⟨n - 1, by omega⟩
  unfold exe
  rw [hm]
  simp only
  rw [hf]
  simp only
  rw [hv]
theorem OEnds.lret {x : Int64} (hm : P.mth[mi]? = some d) (hf : fetch d.code pc = some (.lreturn, len, er, a, b)) (hv : d.ret = some .long) : OEnds P mi pc L [.long x] H (some (.long x), H, 0, 0) := by
  refine ⟨1, fun n hn => ?_⟩
  obtain ⟨k, rfl⟩ : ∃ k, n = k + 1 := ⟨n - 1, by omega⟩
  unfold exe
  rw [hm]
  simp only
  rw [hf]
  simp only
  rw [if_pos hv]
theorem OEnds.vret (hm : P.mth[mi]? = some d) (hf : fetch d.code pc = some (.return_, len, er, a, b)) (hv : d.ret = none) : OEnds P mi pc L [] H (none, H, 0, 0) := by
  refine ⟨1, fun n hn => ?_⟩
  obtain ⟨k, rfl⟩ : ∃ k, n = k + 1 := ⟨n - 1, by omega⟩
  unfold exe
  rw [hm]
  simp only
  rw [hf]
  simp only
  rw [if_pos hv]
theorem OEnds.oinit {k x : Nat} (hm : P.mth[mi]? = some d) (hf : fetch d.code pc = some (.invokespecial k, len, er, a, -1)) (hr : 1 ≤ d.rf ∧ catSum S + 12 ≤ d.rw) (E : OEnds P mi (pc + 3) (forget er L) S H r) : OEnds P mi pc L (.ref x :: S) H r := by
  refine E.up fun n h => ?_
  unfold exe
  rw [hm]
  simp only
  rw [hf]
  simp only [isInv, if_true]
  rw [if_pos hr]
  exact h
theorem OEnds.call (hm : P.mth[mi]? = some d) (hf : fetch d.code pc = some (i, len, er, a, b)) (hi : isInv i = true) (hb : ¬ b = -1) (hy : P.mth[a]? = some y) (hao : argsOf (nargs y) S = some (as, rest))
    (hc : (decide (0 < a) && invKind i y.kind && recvOk P H y as && fitsRoom d y rest && decide ((entA as).length ≤ y.maxL)) = true) (E1 : OEnds P a 0 (entL as y.maxL) [] H (v, H1, kc, ks)) (E2 : OEnds P mi (pc + 3) (forget er L) (v.toList ++ rest) H1 r) : OEnds P mi pc L S H (addR r kc ks) := by
  obtain ⟨n1, E1⟩ := E1
  obtain ⟨n2, E2⟩ := E2
  refine ⟨n1 + n2 + 1, fun n hn => ?_⟩
  obtain ⟨k, rfl⟩ : ∃ k, n = k + 1 := ⟨n - 1, by omega⟩
  have e1 := E1 k (by omega)
  have e2 := E2 k (by omega)
  unfold exe
  rw [hm]
  simp only
  rw [hf]
  simp only
  split
  all_goals first | (simp [isInv] at hi; done) | skip
  rw [if_pos hi, if_neg hb, hy]
  simp only
  rw [hao]
  simp only
  rw [if_pos hc, e1]
  simp only
  rw [e2]
  rfl
theorem OEnds.call0 (hm : P.mth[mi]? = some d) (hf : fetch d.code pc = some (i, len, er, a, b)) (hi : isInv i = true) (hb : ¬ b = -1) (hy : P.mth[a]? = some y) (hao : argsOf (nargs y) S = some (as, rest))
    (hc : (decide (0 < a) && invKind i y.kind && recvOk P H y as && fitsRoom d y rest && decide ((entA as).length ≤ y.maxL)) = true) (E1 : OEnds P a 0 (entL as y.maxL) [] H (v, H1, 0, 0)) (E2 : OEnds P mi (pc + 3) (forget er L) (v.toList ++ rest) H1 r) : OEnds P mi pc L S H r :=
  OEnds.call (r := r) hm hf hi hb hy hao hc E1 E2
theorem OEnds.made (hm : P.mth[mi]? = some d) (hf : fetch d.code pc = some (i, len, er, a, b)) (hi : isNew i = true) (hx : xN P i a S H = some (S', H', ks)) (E : OEnds P mi (pc + len) (forget er L) S' H' r) : OEnds P mi pc L S H (addR r 1 ks) := by
  obtain ⟨n0, E⟩ := E
  refine ⟨n0 + 1, fun n hn => ?_⟩
  obtain ⟨k, rfl⟩ : ∃ k, n = k + 1 := ⟨n - 1, by omega⟩
  have e1 := E k (by omega)
  unfold exe
  rw [hm]
  simp only
  rw [hf]
  simp only
  split
  all_goals first | (simp [isNew] at hi; done) | skip
  have h1 : ¬ isInv i = true := by
    cases i <;> first | (simp [isNew] at hi; done) | simp [isInv]
  rw [if_neg h1, if_pos hi, hx]
  simp only
  rw [e1]
  rfl
end Rules
/-- k plain instructions and jumps in one go -/
def adv (P : PD) (d : MD) : Nat → Nat → List Slot → List Value → AHeap → Option (Nat × List Slot × List Value × AHeap)
  | 0, pc, L, S, H => some (pc, L, S, H)
  | k + 1, pc, L, S, H => match fetch d.code pc with
    | some (i, len, er, a, b) => match i with
      | .goto o => match tgt pc o with
        | some q => adv P d k q (forget er L) S H
        | none => none
      | i => if plainI i = true then match xI P (d.name.name == "<init>") d.cid i a b (forget er L) S H with
          | some (L', S', H') => adv P d k (pc + len) L' S' H'
          | none => none
        else none
    | none => none
theorem OEnds.adv {P : PD} {mi : Nat} {d : MD} (hm : P.mth[mi]? = some d) {r : Res} : ∀ (k : Nat) {pc pc' : Nat} {L L' : List Slot} {S S' : List Value} {H H' : AHeap}, adv P d k pc L S H = some (pc', L', S', H') → OEnds P mi pc' L' S' H' r → OEnds P mi pc L S H r
  | 0, _, _, _, _, _, _, _, _, h, E => by
    unfold Own.adv at h
    cases h
    exact E
  | k + 1, pc, pc', L, L', S, S', H, H', h, E => by
    unfold Own.adv at h
    split at h
    · rename_i it i len er a b hf
      split at h
      · rename_i o
        split at h
        · rename_i q hq
          exact OEnds.goto hm hf hq (OEnds.adv hm k h E)
        · cases h
      · split at h
        · rename_i hp
          split at h
          · rename_i L1 S1 H1 hx
            exact OEnds.plain hm hf hp hx (OEnds.adv hm k h E)
          · cases h
        · cases h
    · cases h
theorem x_iaload {P : PD} {ini : Bool} {cid a o : Nat} {b : Int} {L : List Slot} {S : List Value} {H : AHeap} {A : List Int32} {j x : Int32} (h : H[o]? = some (.inr (.inl (false, A)))) (hx : rdA A j = some x) : xI P ini cid .iaload a b L (.int j :: .ref o :: S) H = some (L, .int x :: S, H) := by simp [xI, h, hx]
theorem x_baload {P : PD} {ini : Bool} {cid a o : Nat} {b : Int} {L : List Slot} {S : List Value} {H : AHeap} {A : List Int32} {j x : Int32} (h : H[o]? = some (.inr (.inl (true, A)))) (hx : rdA A j = some x) : xI P ini cid .baload a b L (.int j :: .ref o :: S) H = some (L, .int x :: S, H) := by simp [xI, h, hx]
theorem x_laload {P : PD} {ini : Bool} {cid a o : Nat} {b : Int} {L : List Slot} {S : List Value} {H : AHeap} {A : List Int64} {j : Int32} {x : Int64} (h : H[o]? = some (.inr (.inr A))) (hx : rdA A j = some x) : xI P ini cid .laload a b L (.int j :: .ref o :: S) H = some (L, .long x :: S, H) := by simp [xI, h, hx]
theorem x_iastore {P : PD} {ini : Bool} {cid a o : Nat} {b : Int} {L : List Slot} {S : List Value} {H : AHeap} {A A' : List Int32} {j x : Int32} (h : H[o]? = some (.inr (.inl (false, A)))) (hn : P.nr ≤ o) (hx : wrA A j x = some A') : xI P ini cid .iastore a b L (.int x :: .int j :: .ref o :: S) H = some (L, S, H.set o (.inr (.inl (false, A')))) := by simp [xI, h, hx, hn]
theorem x_bastore {P : PD} {ini : Bool} {cid a o : Nat} {b : Int} {L : List Slot} {S : List Value} {H : AHeap} {A A' : List Int32} {j x : Int32} (h : H[o]? = some (.inr (.inl (true, A)))) (hn : P.nr ≤ o) (hx : wrA A j (x &&& 1) = some A') : xI P ini cid .bastore a b L (.int x :: .int j :: .ref o :: S) H = some (L, S, H.set o (.inr (.inl (true, A')))) := by simp [xI, h, hx, hn]
theorem x_lastore {P : PD} {ini : Bool} {cid a o : Nat} {b : Int} {L : List Slot} {S : List Value} {H : AHeap} {A A' : List Int64} {j : Int32} {x : Int64} (h : H[o]? = some (.inr (.inr A))) (hn : P.nr ≤ o) (hx : wrA A j x = some A') : xI P ini cid .lastore a b L (.long x :: .int j :: .ref o :: S) H = some (L, S, H.set o (.inr (.inr A'))) := by simp [xI, h, hx, hn]
theorem x_irem {P : PD} {ini : Bool} {cid a : Nat} {b : Int} {L : List Slot} {S : List Value} {H : AHeap} {x y : Int32} (h : ¬ y = 0) : xI P ini cid .irem a b L (.int y :: .int x :: S) H = some (L, .int (x % y) :: S, H) := by simp [xI, h]
theorem x_idiv {P : PD} {ini : Bool} {cid a : Nat} {b : Int} {L : List Slot} {S : List Value} {H : AHeap} {x y : Int32} (h : ¬ y = 0) : xI P ini cid .idiv a b L (.int y :: .int x :: S) H = some (L, .int (x / y) :: S, H) := by simp [xI, h]
theorem x_lrem {P : PD} {ini : Bool} {cid a : Nat} {b : Int} {L : List Slot} {S : List Value} {H : AHeap} {x y : Int64} (h : ¬ y = 0) : xI P ini cid .lrem a b L (.long y :: .long x :: S) H = some (L, .long (x % y) :: S, H) := by simp [xI, h]
theorem x_ldiv {P : PD} {ini : Bool} {cid a : Nat} {b : Int} {L : List Slot} {S : List Value} {H : AHeap} {x y : Int64} (h : ¬ y = 0) : xI P ini cid .ldiv a b L (.long y :: .long x :: S) H = some (L, .long (x / y) :: S, H) := by simp [xI, h]
theorem c_lt {x y : Int64} : XT.cmpL x y < 0 ↔ x < y := by
  unfold XT.cmpL; split <;> (try split) <;> simp_all [Int64.lt_iff_toInt_lt, ← Int64.toInt_inj] <;> omega
theorem c_gt {x y : Int64} : 0 < XT.cmpL x y ↔ y < x := by
  unfold XT.cmpL; split <;> (try split) <;> simp_all [Int64.lt_iff_toInt_lt, ← Int64.toInt_inj] <;> omega
theorem c_eq {x y : Int64} : XT.cmpL x y = 0 ↔ x = y := by
  unfold XT.cmpL; split <;> (try split) <;> simp_all [Int64.lt_iff_toInt_lt, ← Int64.toInt_inj] <;> omega
end Jvm.Own
namespace Jvm.Own
open Jvm Jvm.ClassFile Sem Op Lib Jvm.Free Jvm.Stand Jvm.LawKit Jvm.RoadKit Bundle
theorem bnd {α β : Type} {o : Option α} {f : α → Option β} {b : β} (h : o.bind f = some b) : ∃ a, o = some a ∧ f a = some b := Option.bind_eq_some_iff.mp h
theorem x_putZ {P : PD} {ini : Bool} {k cid a o : Nat} {b : Int} {L : List Slot} {S : List Value} {H : AHeap} {fs : List Value} {nm ds : String} {x : Int32} (h : H[o]? = some (.inl (cid, fs))) (hn : P.nr ≤ o) (hf : ((P.cls[cid]?).bind fun cd => cd.2.2[a]?) = some (nm, ds, .boolean, false)) (hx : x = 0 ∨ x = 1) :
    xI P ini cid (.putfield k) a b L (.int x :: .ref o :: S) H = some (L, S, H.set o (.inl (cid, fs.set a (.int x)))) := by
  rcases hx with rfl | rfl <;> simp [xI, h, hn, hf, putOk]
section Rules
variable {P : PD} {mi pc len a q : Nat} {er : List Bool} {b : Int} {i : Instr} {d y : MD} {L L' : List Slot} {S S' as rest : List Value} {H H' H1 : AHeap} {r : Res} {kc ks : Nat} {v : Option Value}
theorem OEnds.made1 {w : Option Value} {Hf : AHeap} (hm : P.mth[mi]? = some d) (hf : fetch d.code pc = some (i, len, er, a, b)) (hi : isNew i = true) (hx : xN P i a S H = some (S', H', ks)) {c0 s0 c1 s1 : Nat} (hr : (c1, s1) = (c0 + 1, s0 + ks)) (E : OEnds P mi (pc + len) (forget er L) S' H' (w, Hf, c0, s0)) : OEnds P mi pc L S H (w, Hf, c1, s1) := by
  cases hr
  exact OEnds.made (r := (w, Hf, c0, s0)) hm hf hi hx E
/-! The same, of a run whose end is told by a property -/
def OEndsQ (P : PD) (mi pc : Nat) (L : List Slot) (S : List Value) (H : AHeap) (Q : Res → Prop) : Prop := ∃ r, OEnds P mi pc L S H r ∧ Q r
variable {Q : Res → Prop}
theorem OEndsQ.plain (hm : P.mth[mi]? = some d) (hf : fetch d.code pc = some (i, len, er, a, b)) (hp : plainI i = true) (hx : xI P (d.name.name == "<init>") d.cid i a b (forget er L) S H = some (L', S', H')) (E : OEndsQ P mi (pc + len) L' S' H' Q) : OEndsQ P mi pc L S H Q := by
  obtain ⟨r, E, hq⟩ := E; exact ⟨r, OEnds.plain hm hf hp hx E, hq⟩
theorem OEndsQ.icmpT {o : Int} {cd : ClassFile.Cond} {x z : Int32} (hm : P.mth[mi]? = some d) (hf : fetch d.code pc = some (.if_icmp cd o, len, er, a, b)) (ht : tgt pc o = some q) (hc : if_icmp.holds cd x z = true) (E : OEndsQ P mi q (forget er L) S H Q) : OEndsQ P mi pc L (.int z :: .int x :: S) H Q := by
  obtain ⟨r, E, hq⟩ := E; exact ⟨r, OEnds.icmpT hm hf ht hc E, hq⟩
theorem OEndsQ.icmpF {o : Int} {cd : ClassFile.Cond} {x z : Int32} (hm : P.mth[mi]? = some d) (hf : fetch d.code pc = some (.if_icmp cd o, len, er, a, b)) (hc : if_icmp.holds cd x z = false) (E : OEndsQ P mi (pc + 3) (forget er L) S H Q) : OEndsQ P mi pc L (.int z :: .int x :: S) H Q := by
  obtain ⟨r, E, hq⟩ := E; exact ⟨r, OEnds.icmpF hm hf hc E, hq⟩
theorem OEndsQ.ifT {o : Int} {cd : ClassFile.Cond} {x : Int32} (hm : P.mth[mi]? = some d) (hf : fetch d.code pc = some (.ifCond cd o, len, er, a, b)) (ht : tgt pc o = some q) (hc : if_icmp.holds cd x 0 = true) (E : OEndsQ P mi q (forget er L) S H Q) : OEndsQ P mi pc L (.int x :: S) H Q := by
  obtain ⟨r, E, hq⟩ := E; exact ⟨r, OEnds.ifT hm hf ht hc E, hq⟩
theorem OEndsQ.ifF {o : Int} {cd : ClassFile.Cond} {x : Int32} (hm : P.mth[mi]? = some d) (hf : fetch d.code pc = some (.ifCond cd o, len, er, a, b)) (hc : if_icmp.holds cd x 0 = false) (E : OEndsQ P mi (pc + 3) (forget er L) S H Q) : OEndsQ P mi pc L (.int x :: S) H Q := by
  obtain ⟨r, E, hq⟩ := E; exact ⟨r, OEnds.ifF hm hf hc E, hq⟩
theorem OEndsQ.nonnull {o : Int} {x : Nat} (hm : P.mth[mi]? = some d) (hf : fetch d.code pc = some (.ifnonnull o, len, er, a, b)) (ht : tgt pc o = some q) (E : OEndsQ P mi q (forget er L) S H Q) : OEndsQ P mi pc L (.ref x :: S) H Q := by
  obtain ⟨r, E, hq⟩ := E; exact ⟨r, OEnds.nonnull hm hf ht E, hq⟩
theorem OEndsQ.call0 (hm : P.mth[mi]? = some d) (hf : fetch d.code pc = some (i, len, er, a, b)) (hi : isInv i = true) (hb : ¬ b = -1) (hy : P.mth[a]? = some y) (hao : argsOf (nargs y) S = some (as, rest))
    (hc : (decide (0 < a) && invKind i y.kind && recvOk P H y as && fitsRoom d y rest && decide ((entA as).length ≤ y.maxL)) = true) (E1 : OEnds P a 0 (entL as y.maxL) [] H (v, H1, 0, 0)) (E2 : OEndsQ P mi (pc + 3) (forget er L) (v.toList ++ rest) H1 Q) : OEndsQ P mi pc L S H Q := by
  obtain ⟨r, E, hq⟩ := E2; exact ⟨r, OEnds.call0 hm hf hi hb hy hao hc E1 E, hq⟩
theorem OEndsQ.adv (hm : P.mth[mi]? = some d) (k : Nat) {pc' : Nat} (h : adv P d k pc L S H = some (pc', L', S', H')) (E : OEndsQ P mi pc' L' S' H' Q) : OEndsQ P mi pc L S H Q := by
  obtain ⟨r, E, hq⟩ := E; exact ⟨r, OEnds.adv hm k h E, hq⟩
/-- what a law's run ends with: its answer, and at the most so many cells and slots made -/
def LawQ (x : Int32) (kc ks : Nat) (r : Res) : Prop := r.1 = some (.int x) ∧ r.2.2.1 ≤ kc ∧ r.2.2.2 ≤ ks
theorem OEndsQ.iret {x u : Int32} (hm : P.mth[mi]? = some d) (hf : fetch d.code pc = some (.ireturn, len, er, a, b)) (hv : retV d.ret x = some (.int u)) : OEndsQ P mi pc L [.int x] H (LawQ u kc ks) :=
  ⟨_, OEnds.iret hm hf hv, rfl, Nat.zero_le _, Nat.zero_le _⟩
theorem OEndsQ.weak {x : Int32} {c0 s0 : Nat} (h1 : c0 ≤ kc) (h2 : s0 ≤ ks) (E : OEndsQ P mi pc L S H (LawQ x c0 s0)) : OEndsQ P mi pc L S H (LawQ x kc ks) := by
  obtain ⟨r, E, q1, q2, q3⟩ := E; exact ⟨r, E, q1, Nat.le_trans q2 h1, Nat.le_trans q3 h2⟩
theorem OEndsQ.made {x : Int32} {c0 s0 c1 s1 : Nat} (hm : P.mth[mi]? = some d) (hf : fetch d.code pc = some (i, len, er, a, b)) (hi : isNew i = true) (hx : xN P i a S H = some (S', H', ks)) (h1 : c0 + 1 ≤ c1) (h2 : s0 + ks ≤ s1) (E : OEndsQ P mi (pc + len) (forget er L) S' H' (LawQ x c0 s0)) : OEndsQ P mi pc L S H (LawQ x c1 s1) := by
  obtain ⟨⟨v, Hf, k, n⟩, E, q1, q2, q3⟩ := E
  dsimp only at q1 q2 q3
  exact ⟨_, OEnds.made hm hf hi hx E, q1, by show k + 1 ≤ c1; omega, by show n + ks ≤ s1; omega⟩
theorem OEndsQ.callN {x : Int32} {c0 s0 c1 s1 : Nat} (hm : P.mth[mi]? = some d) (hf : fetch d.code pc = some (i, len, er, a, b)) (hi : isInv i = true) (hb : ¬ b = -1) (hy : P.mth[a]? = some y) (hao : argsOf (nargs y) S = some (as, rest))
    (hc : (decide (0 < a) && invKind i y.kind && recvOk P H y as && fitsRoom d y rest && decide ((entA as).length ≤ y.maxL)) = true) (E1 : OEnds P a 0 (entL as y.maxL) [] H (v, H1, kc, ks)) (h1 : c0 + kc ≤ c1) (h2 : s0 + ks ≤ s1) (E2 : OEndsQ P mi (pc + 3) (forget er L) (v.toList ++ rest) H1 (LawQ x c0 s0)) : OEndsQ P mi pc L S H (LawQ x c1 s1) := by
  obtain ⟨⟨v, Hf, k, n⟩, E, q1, q2, q3⟩ := E2
  dsimp only at q1 q2 q3
  exact ⟨_, OEnds.call hm hf hi hb hy hao hc E1 E, q1, by show k + kc ≤ c1; omega, by show n + ks ≤ s1; omega⟩
end Rules
/-! From the machine to the claim -/
theorem law_met {P : PD} {Z : State} {a0 : Array Value} {l : Launch} {y : MD} {as ws : List Value} {H : AHeap} {ρ : List Addr} {n0 kc ks : Nat} {h : Heap} (hP : chk P = true) (hW : ∀ w ∈ wordsOf P, w.before a0 Z = true) (hy : P.mth[0]? = some y)
    (E : OEndsQ P 0 0 (entL as y.maxL) [] H (LawQ 1 kc ks)) (hS : SR ρ as ws) (hlen : (entA as).length ≤ y.maxL) (hH : HR P Z n0 h ρ H) (w0 : List Jvm.Cond) (rm : Room) (r1 : y.rf ≤ rm.frames) (r2 : y.rw ≤ rm.locals) (r3 : kc ≤ rm.cells) (r4 : ks ≤ rm.slots) :
    MetFree l y.name (head1 (Jvm.Cond.code y.name y.bytes y.maxL y.ret :: w0) rm) (fun a U => a = ws.toArray ∧ Z.Warmed39 U.vm ∧ U.heap = h) (fun _ _ _ _ _ => True)
      (fun _ U o U' => ∃ L, o = .returned (some (.int 1)) ∧ Fr n0 L ∧ FrameEnd U o U' L kc ks) := by
  obtain ⟨⟨v, H1, c1, s1⟩, ⟨n, E⟩, q1, q2, q3⟩ := E
  dsimp only at q1 q2 q3
  subst q1
  have hpn : plainName y.name.cls = true := by
    have := mChk_of hP (List.mem_of_getElem? hy)
    simp only [mChk, Bool.and_eq_true] at this
    exact this.1.1.1.1.1.1
  have M := met_of (l := l) (n := n) (sound hP hW n) hy hpn (E n (Nat.le_refl _)) hS hlen hH w0 rm r1 r2 (Nat.le_trans q2 r3) (Nat.le_trans q3 r4)
  intro p e ha hc hk s m args below hf happ hp hK
  obtain ⟨n', o, h1, h2, h3, v', L, rfl, ⟨hF, t, ⟨u, rfl, hu⟩, -⟩, hq⟩ := M p e ha hc hk s m args below hf happ hp hK
  obtain rfl : u = .int 1 := hu
  exact ⟨n', _, h1, h2, h3, L, rfl, hF, hq.1, hq.2.1, hq.2.2.mono q2 q3⟩
end Jvm.Own
namespace Jvm.Own
open Jvm Jvm.ClassFile Sem Op Lib Jvm.Free Jvm.Stand Jvm.LawKit Jvm.RoadKit Bundle
/-- the law's script: an int array of at most 260 -/
theorem script_of {s : State} {ad : Addr} {cl : Cell} (hf : Fit s) (A : Arr s s.heap ad cl .int) (e0 : (Term.arg 0).eval #[.ref ad] s none [] s = some (.ref ad)) (hn : (Jvm.Cond.le (.length (.arg 0)) (.int 260)).value #[.ref ad] s none s [] = some true) :
    ∃ scr : List Int32, cl.slots.size = scr.length ∧ scr.length ≤ 260 ∧ ∀ (i : Nat) x, scr[i]? = some x → cl.slots[i]? = some (.int x) := by
  obtain ⟨u, v, g1, g2, -, -⟩ := cmp_v (Or.inr (Or.inr hn))
  obtain ⟨a', cl', z1, z2, z3⟩ := Term.length_spec g1
  have hat := A.fin (Vm.Alike.refl _)
  rw [e0] at z1
  cases z1
  rw [hat] at z2
  cases z2
  have hsz : cl.slots.size < 2 ^ 31 := by
    rcases Nat.lt_or_ge cl.slots.size (2 ^ 31) with q | q
    · exact q
    · exfalso
      simp [Term.eval, hat] at g1
      omega
  subst z3
  have hv : v = .int 260 := by simpa [Term.eval] using g2.symm
  subst hv
  have hle : cl.slots.size.toInt32 ≤ 260 := by
    simpa [Cond.value, g1, g2] using hn
  have hle' : cl.slots.size ≤ 260 := by
    rw [Int32.le_iff_toInt_le, len_toInt hsz] at hle
    have : (260 : Int32).toInt = 260 := rfl
    rw [this] at hle
    omega
  have key : ∀ i, i < cl.slots.size → ∃ x, cl.slots[i]? = some (.int x) := fun i hi => by
    have hj := idx_in hi hsz
    obtain ⟨v, e1, e2⟩ := elem_fit hf A hj
    have : i.toInt32.toNatClampNeg = i := by
      have h1 : i.toInt32.toInt = i := len_toInt (by omega)
      simp [Int32.toNatClampNeg, h1]
    rw [this] at e1
    obtain ⟨x, rfl⟩ := fit_I e2 (Or.inl rfl)
    exact ⟨x, e1⟩
  refine ⟨cl.slots.toList.map fun v => match v with | .int x => x | _ => 0, by simp, by simpa using hle', fun i x hx => ?_⟩
  rw [List.getElem?_map] at hx
  obtain ⟨v, h1, h2⟩ := Option.map_eq_some_iff.mp hx
  have h1' : cl.slots[i]? = some v := by simpa using h1
  obtain ⟨y, hy⟩ := key i (Array.getElem?_eq_some_iff.mp h1').1
  rw [h1'] at hy
  cases hy
  rw [h1']
  simp at h2
  rw [h2]
theorem hr_script {P : PD} {s : State} {ad : Addr} {cl : Cell} {scr : List Int32} (hnr : P.nr = 1) (A : Arr s s.heap ad cl .int) (h1 : cl.slots.size = scr.length) (h2 : scr.length ≤ 260) (h3 : ∀ (i : Nat) x, scr[i]? = some x → cl.slots[i]? = some (.int x)) : HR P s s.heap.size s.heap [ad] [.inr (.inl (false, scr))] := by
  refine ⟨Nat.le_refl _, rfl, fun i j a g1 g2 => ?_, fun k a g1 g2 => ?_, fun k a c g1 g2 => ?_⟩
  · match i, j, g1, g2 with
    | 0, 0, _, _ => rfl
    | i + 1, _, g1, _ => simp at g1
    | 0, j + 1, _, g2 => simp at g2
  · match k, g1, g2 with
    | 0, _, g2 => rw [hnr] at g2; omega
    | k + 1, g1, _ => simp at g1
  · match k, g1, g2 with
    | 0, g1, g2 =>
      simp at g1 g2
      subst g1 g2
      exact ⟨cl, A, h1, by omega, h3⟩
    | k + 1, g1, _ => simp at g1
end Jvm.Own
namespace Jvm.Own
open Jvm
/-! Ints in range, arrays -/
theorem ilt {a b : Int32} : a < b ↔ a.toInt < b.toInt := Int32.lt_iff_toInt_lt
theorem ile {a b : Int32} : a ≤ b ↔ a.toInt ≤ b.toInt := Int32.le_iff_toInt_le
theorem ieq {a b : Int32} : a = b ↔ a.toInt = b.toInt := Int32.toInt_inj.symm
theorem irng (a : Int32) : -2147483648 ≤ a.toInt ∧ a.toInt < 2147483648 := ⟨Int32.le_toInt a, Int32.toInt_lt a⟩
theorem iadd_i {a b : Int32} (h1 : -2147483648 ≤ a.toInt + b.toInt) (h2 : a.toInt + b.toInt < 2147483648) : (a + b).toInt = a.toInt + b.toInt := by
  rw [Int32.toInt_add]; exact Int.bmod_eq_of_le (by omega) (by omega)
theorem isub_i {a b : Int32} (h1 : -2147483648 ≤ a.toInt - b.toInt) (h2 : a.toInt - b.toInt < 2147483648) : (a - b).toInt = a.toInt - b.toInt := by
  rw [Int32.toInt_sub]; exact Int.bmod_eq_of_le (by omega) (by omega)
theorem imul_i {a b : Int32} (h1 : -2147483648 ≤ a.toInt * b.toInt) (h2 : a.toInt * b.toInt < 2147483648) : (a * b).toInt = a.toInt * b.toInt := by
  rw [Int32.toInt_mul]; exact Int.bmod_eq_of_le (by omega) (by omega)
theorem rdA_nn {α : Type} {L : List α} {j : Int32} (h0 : 0 ≤ j.toInt) : rdA L j = L[j.toInt.toNat]? := by
  unfold rdA
  rw [if_neg (by rw [ilt]; exact Int.not_lt.mpr h0)]
  rfl
theorem rdA_in {α : Type} {L : List α} {j : Int32} (h0 : 0 ≤ j.toInt) (h1 : j.toInt.toNat < L.length) : rdA L j = some L[j.toInt.toNat] := by
  rw [rdA_nn h0, List.getElem?_eq_getElem h1]
theorem wrA_in {α : Type} {L : List α} {j : Int32} {x : α} (h0 : 0 ≤ j.toInt) (h1 : j.toInt.toNat < L.length) : wrA L j x = some (L.set j.toInt.toNat x) := by
  unfold wrA
  rw [if_neg (by rw [ilt]; exact Int.not_lt.mpr h0)]
  exact if_pos h1
theorem rdA_rep {α : Type} {n : Nat} {x : α} {j : Int32} (h0 : 0 ≤ j.toInt) (h1 : j.toInt < n) : rdA (List.replicate n x) j = some x := by
  rw [rdA_nn h0, List.getElem?_replicate, if_pos (by omega)]
end Jvm.Own
namespace Jvm.Own
open Jvm
/-! Sums of ints with their wrap, for omega; runs that answer, and what they answer -/
theorem bmod32 (x : Int) : x.bmod (2 ^ 32) = (x + 2147483648) % 4294967296 - 2147483648 := by
  rw [Int.bmod_def]
  split <;> omega
theorem iadd_e (a b : Int32) : (a + b).toInt = (a.toInt + b.toInt + 2147483648) % 4294967296 - 2147483648 := by
  rw [Int32.toInt_add, bmod32]
theorem isub_e (a b : Int32) : (a - b).toInt = (a.toInt - b.toInt + 2147483648) % 4294967296 - 2147483648 := by
  rw [Int32.toInt_sub, bmod32]
theorem imul_e (a b : Int32) : (a * b).toInt = (a.toInt * b.toInt + 2147483648) % 4294967296 - 2147483648 := by
  rw [Int32.toInt_mul, bmod32]
theorem iscr {n : Nat} (h : n ≤ 260) : (n.toInt32).toInt = n := Int32.toInt_ofNat_of_lt (by omega)
def Tot {α : Type} (x : Option α) (P : α → Prop) : Prop := ∃ r, x = some r ∧ P r
theorem Tot.mk {α : Type} {P : α → Prop} {a : α} (h : P a) : Tot (some a) P := ⟨a, rfl, h⟩
theorem Tot.bind {α β : Type} {x : Option α} {f : α → Option β} {P : α → Prop} {Q : β → Prop} (h : Tot x P) (g : ∀ a, P a → Tot (f a) Q) : Tot (x.bind f) Q := by
  obtain ⟨r, e, p⟩ := h
  rw [e]
  exact g r p
theorem Tot.mono {α : Type} {x : Option α} {P Q : α → Prop} (h : Tot x P) (g : ∀ a, P a → Q a) : Tot x Q := by
  obtain ⟨r, e, p⟩ := h
  exact ⟨r, e, g r p⟩
theorem Tot.ite {α : Type} {c : Prop} [Decidable c] {a b : Option α} {Q : α → Prop} (h1 : c → Tot a Q) (h2 : ¬ c → Tot b Q) : Tot (if c then a else b) Q := by
  by_cases h : c
  · rw [if_pos h]; exact h1 h
  · rw [if_neg h]; exact h2 h
theorem Tot.rd {α β : Type} {L : List α} {j : Int32} {f : α → Option β} {Q : β → Prop} (h0 : 0 ≤ j.toInt) (h1 : j.toInt < L.length) (g : ∀ a, L[j.toInt.toNat]? = some a → Tot (f a) Q) : Tot ((rdA L j).bind f) Q := by
  have h2 : j.toInt.toNat < L.length := by omega
  rw [rdA_in h0 h2]
  exact g _ (List.getElem?_eq_getElem h2)
theorem Tot.wr {α β : Type} {L : List α} {j : Int32} {x : α} {f : List α → Option β} {Q : β → Prop} (h0 : 0 ≤ j.toInt) (h1 : j.toInt < L.length) (g : ∀ L' : List α, L' = L.set j.toInt.toNat x → L'.length = L.length → Tot (f L') Q) : Tot ((wrA L j x).bind f) Q := by
  rw [wrA_in h0 (by omega)]
  exact g _ rfl (by simp)
theorem Tot.eq {α : Type} {x : Option α} {a : α} (h : Tot x (fun r => r = a)) : x = some a := by
  obtain ⟨r, e, p⟩ := h
  rw [e, p]
theorem Tot.of {α : Type} {x : Option α} {a : α} {P : α → Prop} (e : x = some a) (p : P a) : Tot x P := ⟨a, e, p⟩
/-- a bit mask at 15, 31 .. -/
theorem iand_rng (x : Int32) (m : Int32) (h : 0 ≤ m.toInt) : 0 ≤ (x &&& m).toInt ∧ (x &&& m).toInt ≤ m.toInt := by
  have hm : m.toBitVec.msb = false := by
    rw [BitVec.msb_eq_toInt]; simpa using h
  have hx : (x &&& m).toBitVec.msb = false := by
    rw [Int32.toBitVec_and, BitVec.msb_and, hm, Bool.and_false]
  have e1 : m.toInt = (m.toBitVec.toNat : Int) := BitVec.toInt_eq_toNat_of_msb hm
  have e2 : (x &&& m).toInt = (((x &&& m).toBitVec).toNat : Int) := BitVec.toInt_eq_toNat_of_msb hx
  have e3 : ((x &&& m).toBitVec).toNat ≤ m.toBitVec.toNat := by
    rw [Int32.toBitVec_and, BitVec.toNat_and]; exact Nat.and_le_right
  omega
def gI (L : List Int32) (j : Int32) : Int32 := (rdA L j).getD 0
theorem rdg {L : List Int32} {j : Int32} (h0 : 0 ≤ j.toInt) (h1 : j.toInt < L.length) : rdA L j = some (gI L j) := by
  have h2 : j.toInt.toNat < L.length := by omega
  unfold gI
  rw [rdA_in h0 h2]
  (first | done | rfl | simp)
theorem gset {L : List Int32} {i j : Int32} {x : Int32} (hi : 0 ≤ i.toInt) (hl : i.toInt < L.length) (hj : 0 ≤ j.toInt) : gI (L.set i.toInt.toNat x) j = if i = j then x else gI L j := by
  unfold gI
  rw [rdA_nn hj, rdA_nn hj]
  by_cases h : i = j
  · subst h
    rw [if_pos rfl, List.getElem?_set_self (by omega)]
    (first | done | rfl | simp)
  · rw [if_neg h, List.getElem?_set_ne (by rw [ieq] at h; omega)]
theorem gext {A B : List Int32} (hl : A.length < 100000) (ha : A.length = B.length) (h : ∀ i : Int32, 0 ≤ i.toInt → i.toInt < A.length → gI A i = gI B i) : A = B := by
  apply List.ext_getElem ha
  intro k h1 h2
  have e : (Int32.ofNat k).toInt = k := Int32.toInt_ofNat_of_lt (by omega)
  have q := h (Int32.ofNat k) (by omega) (by omega)
  unfold gI at q
  rw [rdA_nn (by omega), rdA_nn (by omega), e] at q
  simpa [h1, h2] using q
theorem Tot.rdI {β : Type} {L : List Int32} {j : Int32} {f : Int32 → Option β} {Q : β → Prop} (h0 : 0 ≤ j.toInt) (h1 : j.toInt < L.length) (g : Tot (f (gI L j)) Q) : Tot ((rdA L j).bind f) Q := by
  rw [rdg h0 h1]
  exact g
theorem gI_rep {n : Nat} {x : Int32} {j : Int32} (h0 : 0 ≤ j.toInt) (h1 : j.toInt < n) : gI (List.replicate n x) j = x := by
  unfold gI
  rw [rdA_rep h0 h1]
  (first | done | rfl | simp)
/-! Longs -/
theorem lltI {a b : Int64} : a < b ↔ a.toInt < b.toInt := Int64.lt_iff_toInt_lt
theorem leqI {a b : Int64} : a = b ↔ a.toInt = b.toInt := Int64.toInt_inj.symm
theorem lrng (a : Int64) : -9223372036854775808 ≤ a.toInt ∧ a.toInt < 9223372036854775808 := ⟨Int64.le_toInt a, Int64.toInt_lt a⟩
theorem ladd_i {a b : Int64} (h1 : -9223372036854775808 ≤ a.toInt + b.toInt) (h2 : a.toInt + b.toInt < 9223372036854775808) : (a + b).toInt = a.toInt + b.toInt := by
  rw [Int64.toInt_add]; exact Int.bmod_eq_of_le (by omega) (by omega)
theorem lsub_i {a b : Int64} (h1 : -9223372036854775808 ≤ a.toInt - b.toInt) (h2 : a.toInt - b.toInt < 9223372036854775808) : (a - b).toInt = a.toInt - b.toInt := by
  rw [Int64.toInt_sub]; exact Int.bmod_eq_of_le (by omega) (by omega)
theorem lmul_i {a b : Int64} (h1 : -9223372036854775808 ≤ a.toInt * b.toInt) (h2 : a.toInt * b.toInt < 9223372036854775808) : (a * b).toInt = a.toInt * b.toInt := by
  rw [Int64.toInt_mul]; exact Int.bmod_eq_of_le (by omega) (by omega)
theorem lmod_i {a b : Int64} (h : 0 ≤ a.toInt) : (a % b).toInt = a.toInt % b.toInt := by
  rw [Int64.toInt_mod, Int.tmod_eq_emod_of_nonneg h]
theorem lback {a : Int64} (h1 : -2147483648 ≤ a.toInt) (h2 : a.toInt < 2147483648) : a.toInt32.toInt64 = a := by
  rw [leqI, Int32.toInt_toInt64, Int64.toInt_toInt32, bmod32]
  omega
theorem mulb {a b M : Int} (h0 : 0 ≤ a) (h1 : a ≤ M) (h2 : 0 ≤ b) (h3 : b ≤ M) : 0 ≤ a * b ∧ a * b ≤ M * M :=
  ⟨Int.mul_nonneg h0 h2, Int.mul_le_mul h1 h3 h2 (by omega)⟩
end Jvm.Own
namespace Jvm.Pilot.@@N@@
open Jvm Jvm.ClassFile Sem Op Lib Jvm.Free Jvm.Stand Jvm.LawKit Jvm.RoadKit Bundle Jvm.Own Jvm.Pilot.@@N@@.Jvm.D
def d_0 : MD := (x, code, maxLocals, ret, 0, 1, 999, 6, 97, [(0, .new 7, 3, [], 0, 0), (3, .dup, 1, [], 0, 0), (4, .iconst 2, 1, [], 0, 0), (5, .iconst 2, 1, [], 0, 0), (6, .iconst 1, 1, [], 0, 0), (7, .invokespecial 9, 3, [], 1, 0), (10, .astore_n 1, 1, [], 0, 0), (11, .iconst 0, 1, [], 0, 0), (12, .istore_n 2, 1, [], 0, 0), (13, .iconst 0, 1, [], 0, 0), (14, .istore_n 3, 1, [], 0, 0), (15, .lconst 0, 1, [], 0, 0), (16, .lstore 4, 2, [], 0, 0), (18, .iconst 0, 1, [], 0, 0), (19, .istore 6, 2, [], 0, 0), (21, .iconst (-1), 1, [], 0, 0), (22, .istore 7, 2, [], 0, 0), (24, .iconst 0, 1, [], 0, 0), (25, .istore 8, 2, [], 0, 0), (27, .iconst 0, 1, [], 0, 0), (28, .istore 9, 2, [], 0, 0), (30, .iconst 0, 1, [], 0, 0), (31, .istore 10, 2, [], 0, 0), (33, .iconst 0, 1, [], 0, 0), (34, .istore 11, 2, [], 0, 0), (36, .iload 11, 2, [false, false, false, false, false, false, false, false, false, false, false, false, true, true, true, true, true, true, true, true, true, true, true, true], 0, 0), (38, .iconst 4, 1, [], 0, 0), (39, .iadd, 1, [], 0, 0), (40, .aload_n 0, 1, [], 0, 0), (41, .arraylength, 1, [], 0, 0), (42, .if_icmp .ge 665, 3, [], 0, 0), (45, .aload_n 0, 1, [], 0, 0), (46, .iload 11, 2, [], 0, 0), (48, .iaload, 1, [], 0, 0), (49, .iconst 3, 1, [], 0, 0), (50, .iand, 1, [], 0, 0), (51, .istore 12, 2, [], 0, 0), (53, .aload_n 0, 1, [], 0, 0), (54, .iload 11, 2, [], 0, 0), (56, .iconst 1, 1, [], 0, 0), (57, .iadd, 1, [], 0, 0), (58, .iaload, 1, [], 0, 0), (59, .iconst 3, 1, [], 0, 0), (60, .iand, 1, [], 0, 0), (61, .istore 13, 2, [], 0, 0), (63, .aload_n 0, 1, [], 0, 0), (64, .iload 11, 2, [], 0, 0), (66, .iconst 2, 1, [], 0, 0), (67, .iadd, 1, [], 0, 0), (68, .iaload, 1, [], 0, 0), (69, .bipush 31, 2, [], 0, 0), (71, .iand, 1, [], 0, 0), (72, .istore 14, 2, [], 0, 0), (74, .aload_n 0, 1, [], 0, 0), (75, .iload 11, 2, [], 0, 0), (77, .iconst 3, 1, [], 0, 0), (78, .iadd, 1, [], 0, 0), (79, .iaload, 1, [], 0, 0), (80, .bipush 7, 2, [], 0, 0), (82, .iand, 1, [], 0, 0), (83, .iconst 1, 1, [], 0, 0), (84, .iadd, 1, [], 0, 0), (85, .istore 15, 2, [], 0, 0), (87, .aload_n 0, 1, [], 0, 0), (88, .iload 11, 2, [], 0, 0), (90, .iconst 4, 1, [], 0, 0), (91, .iadd, 1, [], 0, 0), (92, .iaload, 1, [], 0, 0), (93, .bipush 7, 2, [], 0, 0), (95, .iand, 1, [], 0, 0), (96, .istore 16, 2, [], 0, 0), (98, .iload_n 2, 1, [], 0, 0), (99, .iload 16, 2, [], 0, 0), (101, .iushr, 1, [], 0, 0), (102, .iconst 1, 1, [], 0, 0), (103, .iand, 1, [], 0, 0), (104, .ifCond .eq 7, 3, [], 0, 0), (107, .iconst 1, 1, [], 0, 0), (108, .goto 4, 3, [], 0, 0), (111, .iconst 0, 1, [], 0, 0), (112, .istore 17, 2, [false, false, false, false, false, false, false, false, false, false, false, false, false, false, false, false, false, true, true, true, true, true, true, true], 0, 0), (114, .iload 12, 2, [], 0, 0), (116, .ifCond .ne 160, 3, [], 0, 0), (119, .aload_n 1, 1, [], 0, 0), (120, .iload 13, 2, [], 0, 0), (122, .iload 14, 2, [], 0, 0), (124, .iload 15, 2, [], 0, 0), (126, .invokevirtual 12, 3, [], 24, 0), (129, .istore 18, 2, [], 0, 0), (131, .aload_n 1, 1, [], 0, 0), (132, .iload 13, 2, [], 0, 0), (134, .iload 14, 2, [], 0, 0), (136, .iload 15, 2, [], 0, 0), (138, .invokevirtual 16, 3, [], 31, 0), (141, .istore 19, 2, [], 0, 0), (143, .iload 18, 2, [], 0, 0), (145, .iload 19, 2, [], 0, 0), (147, .ifCond .lt 7, 3, [], 0, 0), (150, .iconst 1, 1, [], 0, 0), (151, .goto 4, 3, [], 0, 0), (154, .iconst 0, 1, [], 0, 0), (155, .if_icmp .eq 5, 3, [false, false, false, false, false, false, false, false, false, false, false, false, true, false, false, false, true, true, true, false, true, true, true, true], 0, 0), (158, .iconst 0, 1, [], 0, 0), (159, .ireturn, 1, [], 0, 0), (160, .iload 13, 2, [], 0, 0), (162, .iconst 3, 1, [], 0, 0), (163, .if_icmp .ne 11, 3, [], 0, 0), (166, .iload 19, 2, [], 0, 0), (168, .iconst (-1), 1, [], 0, 0), (169, .if_icmp .eq 104, 3, [], 0, 0), (172, .iconst 0, 1, [], 0, 0), (173, .ireturn, 1, [], 0, 0), (174, .iload 15, 2, [], 0, 0), (176, .bipush 32, 2, [], 0, 0), (178, .iload 14, 2, [], 0, 0), (180, .isub, 1, [], 0, 0), (181, .if_icmp .le 12, 3, [], 0, 0), (184, .iload 19, 2, [], 0, 0), (186, .bipush (-2), 2, [], 0, 0), (188, .if_icmp .eq 85, 3, [], 0, 0), (191, .iconst 0, 1, [], 0, 0), (192, .ireturn, 1, [], 0, 0), (193, .iload_n 3, 1, [], 0, 0), (194, .bipush 32, 2, [], 0, 0), (196, .if_icmp .ne 12, 3, [], 0, 0), (199, .iload 19, 2, [], 0, 0), (201, .bipush (-3), 2, [], 0, 0), (203, .if_icmp .eq 70, 3, [], 0, 0), (206, .iconst 0, 1, [], 0, 0), (207, .ireturn, 1, [], 0, 0), (208, .iload 19, 2, [], 0, 0), (210, .ifCond .lt 54, 3, [], 0, 0), (213, .iload 19, 2, [], 0, 0), (215, .iload_n 2, 1, [], 0, 0), (216, .invokestatic 20, 3, [], 36, 0), (219, .if_icmp .eq 5, 3, [], 0, 0), (222, .iconst 0, 1, [], 0, 0), (223, .ireturn, 1, [], 0, 0), (224, .iload_n 2, 1, [], 0, 0), (225, .iconst 1, 1, [], 0, 0), (226, .iload 19, 2, [], 0, 0), (228, .ishl, 1, [], 0, 0), (229, .ior, 1, [], 0, 0), (230, .istore_n 2, 1, [], 0, 0), (231, .iinc 3 1, 3, [], 0, 0), (234, .lload 4, 2, [], 0, 0), (236, .iload 15, 2, [], 0, 0), (238, .i2l, 1, [], 0, 0), (239, .ladd, 1, [], 0, 0), (240, .lstore 4, 2, [], 0, 0), (242, .iconst 0, 1, [], 0, 0), (243, .istore 6, 2, [], 0, 0), (245, .iload 19, 2, [], 0, 0), (247, .istore 7, 2, [], 0, 0), (249, .iload 13, 2, [], 0, 0), (251, .istore 8, 2, [], 0, 0), (253, .iload 14, 2, [], 0, 0), (255, .istore 9, 2, [], 0, 0), (257, .iload 15, 2, [], 0, 0), (259, .istore 10, 2, [], 0, 0), (261, .goto 12, 3, [], 0, 0), (264, .iload 19, 2, [], 0, 0), (266, .bipush (-4), 2, [], 0, 0), (268, .if_icmp .eq 5, 3, [], 0, 0), (271, .iconst 0, 1, [], 0, 0), (272, .ireturn, 1, [], 0, 0), (273, .goto 235, 3, [], 0, 0), (276, .iload 12, 2, [], 0, 0), (278, .iconst 1, 1, [], 0, 0), (279, .if_icmp .ne 125, 3, [], 0, 0), (282, .aload_n 1, 1, [], 0, 0), (283, .iload 16, 2, [], 0, 0), (285, .invokevirtual 26, 3, [], 38, 0), (288, .istore 18, 2, [], 0, 0), (290, .aload_n 1, 1, [], 0, 0), (291, .iload 16, 2, [], 0, 0), (293, .iload 13, 2, [], 0, 0), (295, .iload 14, 2, [], 0, 0), (297, .iload 15, 2, [], 0, 0), (299, .invokevirtual 29, 3, [], 41, 0), (302, .istore 19, 2, [], 0, 0), (304, .iload 17, 2, [], 0, 0), (306, .ifCond .ne 12, 3, [], 0, 0), (309, .iload 19, 2, [], 0, 0), (311, .bipush (-5), 2, [], 0, 0), (313, .if_icmp .eq 88, 3, [], 0, 0), (316, .iconst 0, 1, [], 0, 0), (317, .ireturn, 1, [], 0, 0), (318, .iload 13, 2, [], 0, 0), (320, .iconst 3, 1, [], 0, 0), (321, .if_icmp .ne 11, 3, [], 0, 0), (324, .iload 19, 2, [], 0, 0), (326, .iconst (-1), 1, [], 0, 0), (327, .if_icmp .eq 74, 3, [], 0, 0), (330, .iconst 0, 1, [], 0, 0), (331, .ireturn, 1, [], 0, 0), (332, .iload 15, 2, [], 0, 0), (334, .bipush 32, 2, [], 0, 0), (336, .iload 14, 2, [], 0, 0), (338, .isub, 1, [], 0, 0), (339, .if_icmp .le 12, 3, [], 0, 0), (342, .iload 19, 2, [], 0, 0), (344, .bipush (-2), 2, [], 0, 0), (346, .if_icmp .eq 55, 3, [], 0, 0), (349, .iconst 0, 1, [], 0, 0), (350, .ireturn, 1, [], 0, 0), (351, .iload 19, 2, [], 0, 0), (353, .ifCond .ne 39, 3, [], 0, 0), (356, .lload 4, 2, [], 0, 0), (358, .iload 15, 2, [], 0, 0), (360, .iload 18, 2, [], 0, 0), (362, .isub, 1, [], 0, 0), (363, .i2l, 1, [], 0, 0), (364, .ladd, 1, [], 0, 0), (365, .lstore 4, 2, [], 0, 0), (367, .iconst 0, 1, [], 0, 0), (368, .istore 6, 2, [], 0, 0), (370, .iload 16, 2, [], 0, 0), (372, .iload 7, 2, [], 0, 0), (374, .if_icmp .ne 27, 3, [], 0, 0), (377, .iload 13, 2, [], 0, 0), (379, .istore 8, 2, [], 0, 0), (381, .iload 14, 2, [], 0, 0), (383, .istore 9, 2, [], 0, 0), (385, .iload 15, 2, [], 0, 0), (387, .istore 10, 2, [], 0, 0), (389, .goto 12, 3, [], 0, 0), (392, .iload 19, 2, [], 0, 0), (394, .bipush (-4), 2, [], 0, 0), (396, .if_icmp .eq 5, 3, [], 0, 0), (399, .iconst 0, 1, [], 0, 0), (400, .ireturn, 1, [], 0, 0), (401, .goto 107, 3, [], 0, 0), (404, .iload 12, 2, [], 0, 0), (406, .iconst 2, 1, [], 0, 0), (407, .if_icmp .ne 79, 3, [], 0, 0), (410, .aload_n 1, 1, [], 0, 0), (411, .iload 16, 2, [], 0, 0), (413, .invokevirtual 26, 3, [], 38, 0), (416, .istore 18, 2, [], 0, 0), (418, .aload_n 1, 1, [], 0, 0), (419, .iload 16, 2, [], 0, 0), (421, .invokevirtual 33, 3, [], 39, 0), (424, .istore 19, 2, [], 0, 0), (426, .iload 17, 2, [], 0, 0), (428, .ifCond .eq 46, 3, [], 0, 0), (431, .iload 19, 2, [], 0, 0), (433, .ifCond .eq 5, 3, [], 0, 0), (436, .iconst 0, 1, [], 0, 0), (437, .ireturn, 1, [], 0, 0), (438, .iload_n 2, 1, [], 0, 0), (439, .iconst 1, 1, [], 0, 0), (440, .iload 16, 2, [], 0, 0), (442, .ishl, 1, [], 0, 0), (443, .iconst (-1), 1, [], 0, 0), (444, .ixor, 1, [], 0, 0), (445, .iand, 1, [], 0, 0), (446, .istore_n 2, 1, [], 0, 0), (447, .iinc 3 (-1), 3, [], 0, 0), (450, .lload 4, 2, [], 0, 0), (452, .iload 18, 2, [], 0, 0), (454, .i2l, 1, [], 0, 0), (455, .lsub, 1, [], 0, 0), (456, .lstore 4, 2, [], 0, 0), (458, .iconst 0, 1, [], 0, 0), (459, .istore 6, 2, [], 0, 0), (461, .iload 16, 2, [], 0, 0), (463, .iload 7, 2, [], 0, 0), (465, .if_icmp .ne 18, 3, [], 0, 0), (468, .iconst (-1), 1, [], 0, 0), (469, .istore 7, 2, [], 0, 0), (471, .goto 12, 3, [], 0, 0), (474, .iload 19, 2, [], 0, 0), (476, .bipush (-5), 2, [], 0, 0), (478, .if_icmp .eq 5, 3, [], 0, 0), (481, .iconst 0, 1, [], 0, 0), (482, .ireturn, 1, [], 0, 0), (483, .goto 25, 3, [], 0, 0), (486, .aload_n 1, 1, [], 0, 0), (487, .invokevirtual 36, 3, [], 7, 0), (490, .istore 18, 2, [], 0, 0), (492, .iload 18, 2, [], 0, 0), (494, .ifCond .lt 9, 3, [], 0, 0), (497, .iload 18, 2, [], 0, 0), (499, .iload_n 3, 1, [], 0, 0), (500, .if_icmp .le 5, 3, [], 0, 0), (503, .iconst 0, 1, [], 0, 0), (504, .ireturn, 1, [], 0, 0), (505, .iconst 1, 1, [], 0, 0), (506, .istore 6, 2, [], 0, 0), (508, .lconst 0, 1, [], 0, 0), (509, .lstore 18, 2, [false, false, false, false, false, false, false, false, false, false, false, false, false, false, false, false, false, false, true, true], 0, 0), (511, .iconst 0, 1, [], 0, 0), (512, .istore 20, 2, [], 0, 0), (514, .iload 20, 2, [false, false, false, false, false, false, false, false, false, false, false, false, true, true, true, true, true, true, false, false, false, true, true, true], 0, 0), (516, .bipush 32, 2, [], 0, 0), (518, .if_icmp .ge 112, 3, [], 0, 0), (521, .iload_n 2, 1, [], 0, 0), (522, .iload 20, 2, [], 0, 0), (524, .iushr, 1, [], 0, 0), (525, .iconst 1, 1, [], 0, 0), (526, .iand, 1, [], 0, 0), (527, .ifCond .eq 7, 3, [], 0, 0), (530, .iconst 1, 1, [], 0, 0), (531, .goto 4, 3, [], 0, 0), (534, .iconst 0, 1, [], 0, 0), (535, .istore 21, 2, [false, false, false, false, false, false, false, false, false, false, false, false, true, true, true, true, true, true, false, false, false, true, true, true], 0, 0), (537, .aload_n 1, 1, [], 0, 0), (538, .iload 20, 2, [], 0, 0), (540, .invokevirtual 40, 3, [], 10, 0), (543, .istore 22, 2, [], 0, 0), (545, .iload 21, 2, [], 0, 0), (547, .iload 22, 2, [], 0, 0), (549, .iconst (-1), 1, [], 0, 0), (550, .if_icmp .eq 7, 3, [], 0, 0), (553, .iconst 1, 1, [], 0, 0), (554, .goto 4, 3, [], 0, 0), (557, .iconst 0, 1, [], 0, 0), (558, .if_icmp .eq 5, 3, [false, false, false, false, false, false, false, false, false, false, false, false, true, true, true, true, true, true, false, false, false, true, true, true], 0, 0), (561, .iconst 0, 1, [], 0, 0), (562, .ireturn, 1, [], 0, 0), (563, .lload 18, 2, [], 0, 0), (565, .aload_n 1, 1, [], 0, 0), (566, .iconst 0, 1, [], 0, 0), (567, .iload 20, 2, [], 0, 0), (569, .invokevirtual 43, 3, [], 12, 0), (572, .i2l, 1, [], 0, 0), (573, .ladd, 1, [], 0, 0), (574, .lstore 18, 2, [false, false, false, false, false, false, false, false, false, false, false, false, false, false, false, false, false, false, true, true], 0, 0), (576, .lload 18, 2, [], 0, 0), (578, .aload_n 1, 1, [], 0, 0), (579, .iconst 1, 1, [], 0, 0), (580, .iload 20, 2, [], 0, 0), (582, .invokevirtual 43, 3, [], 12, 0), (585, .i2l, 1, [], 0, 0), (586, .ladd, 1, [], 0, 0), (587, .lstore 18, 2, [false, false, false, false, false, false, false, false, false, false, false, false, false, false, false, false, false, false, true, true], 0, 0), (589, .lload 18, 2, [], 0, 0), (591, .aload_n 1, 1, [], 0, 0), (592, .iconst 2, 1, [], 0, 0), (593, .iload 20, 2, [], 0, 0), (595, .invokevirtual 43, 3, [], 12, 0), (598, .i2l, 1, [], 0, 0), (599, .ladd, 1, [], 0, 0), (600, .lstore 18, 2, [false, false, false, false, false, false, false, false, false, false, false, false, false, false, false, false, false, false, true, true], 0, 0), (602, .aload_n 1, 1, [], 0, 0), (603, .iconst 0, 1, [], 0, 0), (604, .iload 20, 2, [], 0, 0), (606, .invokevirtual 47, 3, [], 17, 0), (609, .istore 23, 2, [], 0, 0), (611, .iload 23, 2, [], 0, 0), (613, .ifCond .lt 9, 3, [], 0, 0), (616, .iload 23, 2, [], 0, 0), (618, .iconst 5, 1, [], 0, 0), (619, .if_icmp .le 5, 3, [], 0, 0), (622, .iconst 0, 1, [], 0, 0), (623, .ireturn, 1, [], 0, 0), (624, .iinc 20 1, 3, [], 0, 0), (627, .goto (-113), 3, [], 0, 0), (630, .lload 18, 2, [false, false, false, false, false, false, false, false, false, false, false, false, true, true, true, true, true, true, false, false, true, true, true, true], 0, 0), (632, .lload 4, 2, [], 0, 0), (634, .lcmp, 1, [], 0, 0), (635, .ifCond .eq 5, 3, [], 0, 0), (638, .iconst 0, 1, [], 0, 0), (639, .ireturn, 1, [], 0, 0), (640, .aload_n 1, 1, [], 0, 0), (641, .invokevirtual 50, 3, [], 22, 0), (644, .iload_n 3, 1, [], 0, 0), (645, .if_icmp .eq 5, 3, [], 0, 0), (648, .iconst 0, 1, [], 0, 0), (649, .ireturn, 1, [], 0, 0), (650, .aload_n 1, 1, [], 0, 0), (651, .invokevirtual 53, 3, [], 23, 0), (654, .iload 6, 2, [], 0, 0), (656, .if_icmp .eq 5, 3, [], 0, 0), (659, .iconst 0, 1, [], 0, 0), (660, .ireturn, 1, [], 0, 0), (661, .iload 7, 2, [], 0, 0), (663, .ifCond .lt 38, 3, [], 0, 0), (666, .aload_n 1, 1, [], 0, 0), (667, .iload 7, 2, [], 0, 0), (669, .invokevirtual 40, 3, [], 10, 0), (672, .iload 8, 2, [], 0, 0), (674, .if_icmp .ne 25, 3, [], 0, 0), (677, .aload_n 1, 1, [], 0, 0), (678, .iload 7, 2, [], 0, 0), (680, .invokevirtual 57, 3, [], 37, 0), (683, .iload 9, 2, [], 0, 0), (685, .if_icmp .ne 14, 3, [], 0, 0), (688, .aload_n 1, 1, [], 0, 0), (689, .iload 7, 2, [], 0, 0), (691, .invokevirtual 26, 3, [], 38, 0), (694, .iload 10, 2, [], 0, 0), (696, .if_icmp .eq 5, 3, [], 0, 0), (699, .iconst 0, 1, [], 0, 0), (700, .ireturn, 1, [], 0, 0), (701, .iinc 11 5, 3, [], 0, 0), (704, .goto (-668), 3, [], 0, 0), (707, .iconst 1, 1, [], 0, 0), (708, .ireturn, 1, [], 0, 0)])
def d_1 : MD := (⟨"RoomPlanner", "<init>", "(III)V"⟩, prog_1_method_1_code, 4, none, 1, 3, 0, 1, 15, [(0, .aload_n 0, 1, [], 0, 0), (1, .invokespecial 1, 3, [], 0, -1), (4, .aload_n 0, 1, [], 0, 0), (5, .iconst 3, 1, [], 0, 0), (6, .newarray .int, 2, [], 0, 0), (8, .putfield 7, 3, [], 0, 0), (11, .aload_n 0, 1, [], 0, 0), (12, .iconst 3, 1, [], 0, 0), (13, .newarray .int, 2, [], 0, 0), (15, .putfield 13, 3, [], 1, 0), (18, .aload_n 0, 1, [], 0, 0), (19, .iconst 3, 1, [], 0, 0), (20, .newarray .int, 2, [], 0, 0), (22, .putfield 16, 3, [], 2, 0), (25, .aload_n 0, 1, [], 0, 0), (26, .bipush 32, 2, [], 0, 0), (28, .newarray .boolean, 2, [], 0, 0), (30, .putfield 19, 3, [], 3, 0), (33, .aload_n 0, 1, [], 0, 0), (34, .bipush 32, 2, [], 0, 0), (36, .newarray .int, 2, [], 0, 0), (38, .putfield 23, 3, [], 4, 0), (41, .aload_n 0, 1, [], 0, 0), (42, .bipush 32, 2, [], 0, 0), (44, .newarray .int, 2, [], 0, 0), (46, .putfield 26, 3, [], 5, 0), (49, .aload_n 0, 1, [], 0, 0), (50, .bipush 32, 2, [], 0, 0), (52, .newarray .int, 2, [], 0, 0), (54, .putfield 29, 3, [], 6, 0), (57, .aload_n 0, 1, [], 0, 0), (58, .bipush 96, 2, [], 0, 0), (60, .newarray .int, 2, [], 0, 0), (62, .putfield 32, 3, [], 7, 0), (65, .aload_n 0, 1, [], 0, 0), (66, .bipush 96, 2, [], 0, 0), (68, .newarray .int, 2, [], 0, 0), (70, .putfield 35, 3, [], 8, 0), (73, .aload_n 0, 1, [], 0, 0), (74, .bipush 32, 2, [], 0, 0), (76, .newarray .int, 2, [], 0, 0), (78, .putfield 38, 3, [], 9, 0), (81, .aload_n 0, 1, [], 0, 0), (82, .sipush 768, 3, [], 0, 0), (85, .newarray .int, 2, [], 0, 0), (87, .putfield 41, 3, [], 10, 0), (90, .aload_n 0, 1, [], 0, 0), (91, .bipush 32, 2, [], 0, 0), (93, .newarray .int, 2, [], 0, 0), (95, .putfield 44, 3, [], 11, 0), (98, .aload_n 0, 1, [], 0, 0), (99, .getfield 7, 3, [], 0, 0), (102, .iconst 0, 1, [], 0, 0), (103, .aload_n 0, 1, [], 0, 0), (104, .iload_n 1, 1, [], 0, 0), (105, .invokevirtual 47, 3, [], 2, 0), (108, .iastore, 1, [], 0, 0), (109, .aload_n 0, 1, [], 0, 0), (110, .getfield 7, 3, [], 0, 0), (113, .iconst 1, 1, [], 0, 0), (114, .aload_n 0, 1, [], 0, 0), (115, .iload_n 2, 1, [], 0, 0), (116, .invokevirtual 47, 3, [], 2, 0), (119, .iastore, 1, [], 0, 0), (120, .aload_n 0, 1, [], 0, 0), (121, .getfield 7, 3, [], 0, 0), (124, .iconst 2, 1, [], 0, 0), (125, .aload_n 0, 1, [], 0, 0), (126, .iload_n 3, 1, [], 0, 0), (127, .invokevirtual 47, 3, [], 2, 0), (130, .iastore, 1, [], 0, 0), (131, .aload_n 0, 1, [], 0, 0), (132, .invokevirtual 51, 3, [], 3, 0), (135, .aload_n 0, 1, [], 0, 0), (136, .invokevirtual 54, 3, [], 4, 0), (139, .aload_n 0, 1, [], 0, 0), (140, .invokevirtual 57, 3, [], 5, 0), (143, .aload_n 0, 1, [], 0, 0), (144, .invokevirtual 60, 3, [], 6, 0), (147, .aload_n 0, 1, [], 0, 0), (148, .iconst 0, 1, [], 0, 0), (149, .putfield 63, 3, [], 15, 0), (152, .aload_n 0, 1, [], 0, 0), (153, .iconst 0, 1, [], 0, 0), (154, .putfield 67, 3, [], 16, 0), (157, .return_, 1, [], 0, 0)])
def d_2 : MD := (⟨"RoomPlanner", "clampRooms", "(I)I"⟩, prog_1_method_18_code, 2, some .int, 2, 1, 0, 0, 0, [(0, .iload_n 1, 1, [], 0, 0), (1, .ifCond .ge 5, 3, [], 0, 0), (4, .iconst 0, 1, [], 0, 0), (5, .ireturn, 1, [], 0, 0), (6, .iload_n 1, 1, [], 0, 0), (7, .bipush 8, 2, [], 0, 0), (9, .if_icmp .le 6, 3, [], 0, 0), (12, .bipush 8, 2, [], 0, 0), (14, .ireturn, 1, [], 0, 0), (15, .iload_n 1, 1, [], 0, 0), (16, .ireturn, 1, [], 0, 0)])
def d_3 : MD := (⟨"RoomPlanner", "computeRoomTables", "()V"⟩, prog_1_method_19_code, 4, none, 2, 0, 0, 0, 0, [(0, .aload_n 0, 1, [], 0, 0), (1, .getfield 7, 3, [], 0, 0), (4, .iconst 0, 1, [], 0, 0), (5, .iaload, 1, [], 0, 0), (6, .istore_n 1, 1, [], 0, 0), (7, .aload_n 0, 1, [], 0, 0), (8, .getfield 7, 3, [], 0, 0), (11, .iconst 1, 1, [], 0, 0), (12, .iaload, 1, [], 0, 0), (13, .istore_n 2, 1, [], 0, 0), (14, .aload_n 0, 1, [], 0, 0), (15, .getfield 7, 3, [], 0, 0), (18, .iconst 2, 1, [], 0, 0), (19, .iaload, 1, [], 0, 0), (20, .istore_n 3, 1, [], 0, 0), (21, .aload_n 0, 1, [], 0, 0), (22, .getfield 13, 3, [], 1, 0), (25, .iconst 2, 1, [], 0, 0), (26, .iload_n 3, 1, [], 0, 0), (27, .iastore, 1, [], 0, 0), (28, .aload_n 0, 1, [], 0, 0), (29, .getfield 13, 3, [], 1, 0), (32, .iconst 1, 1, [], 0, 0), (33, .iload_n 2, 1, [], 0, 0), (34, .iload_n 3, 1, [], 0, 0), (35, .iadd, 1, [], 0, 0), (36, .iastore, 1, [], 0, 0), (37, .aload_n 0, 1, [], 0, 0), (38, .getfield 13, 3, [], 1, 0), (41, .iconst 0, 1, [], 0, 0), (42, .iload_n 1, 1, [], 0, 0), (43, .iload_n 2, 1, [], 0, 0), (44, .iadd, 1, [], 0, 0), (45, .iload_n 3, 1, [], 0, 0), (46, .iadd, 1, [], 0, 0), (47, .iastore, 1, [], 0, 0), (48, .aload_n 0, 1, [], 0, 0), (49, .getfield 16, 3, [], 2, 0), (52, .iconst 0, 1, [], 0, 0), (53, .iconst 0, 1, [], 0, 0), (54, .iastore, 1, [], 0, 0), (55, .aload_n 0, 1, [], 0, 0), (56, .getfield 16, 3, [], 2, 0), (59, .iconst 1, 1, [], 0, 0), (60, .iload_n 1, 1, [], 0, 0), (61, .iastore, 1, [], 0, 0), (62, .aload_n 0, 1, [], 0, 0), (63, .getfield 16, 3, [], 2, 0), (66, .iconst 2, 1, [], 0, 0), (67, .iload_n 1, 1, [], 0, 0), (68, .iload_n 2, 1, [], 0, 0), (69, .iadd, 1, [], 0, 0), (70, .iastore, 1, [], 0, 0), (71, .aload_n 0, 1, [], 0, 0), (72, .iload_n 1, 1, [], 0, 0), (73, .iload_n 2, 1, [], 0, 0), (74, .iadd, 1, [], 0, 0), (75, .iload_n 3, 1, [], 0, 0), (76, .iadd, 1, [], 0, 0), (77, .putfield 142, 3, [], 12, 0), (80, .return_, 1, [], 0, 0)])
def d_4 : MD := (⟨"RoomPlanner", "resetStays", "()V"⟩, prog_1_method_28_code, 2, none, 2, 0, 0, 0, 0, [(0, .iconst 0, 1, [], 0, 0), (1, .istore_n 1, 1, [], 0, 0), (2, .iload_n 1, 1, [], 0, 0), (3, .bipush 32, 2, [], 0, 0), (5, .if_icmp .ge 37, 3, [], 0, 0), (8, .aload_n 0, 1, [], 0, 0), (9, .getfield 19, 3, [], 3, 0), (12, .iload_n 1, 1, [], 0, 0), (13, .iconst 0, 1, [], 0, 0), (14, .bastore, 1, [], 0, 0), (15, .aload_n 0, 1, [], 0, 0), (16, .getfield 23, 3, [], 4, 0), (19, .iload_n 1, 1, [], 0, 0), (20, .iconst 0, 1, [], 0, 0), (21, .iastore, 1, [], 0, 0), (22, .aload_n 0, 1, [], 0, 0), (23, .getfield 26, 3, [], 5, 0), (26, .iload_n 1, 1, [], 0, 0), (27, .iconst 0, 1, [], 0, 0), (28, .iastore, 1, [], 0, 0), (29, .aload_n 0, 1, [], 0, 0), (30, .getfield 29, 3, [], 6, 0), (33, .iload_n 1, 1, [], 0, 0), (34, .iconst 0, 1, [], 0, 0), (35, .iastore, 1, [], 0, 0), (36, .iinc 1 1, 3, [], 0, 0), (39, .goto (-37), 3, [], 0, 0), (42, .aload_n 0, 1, [], 0, 0), (43, .iconst 0, 1, [], 0, 0), (44, .putfield 75, 3, [], 13, 0), (47, .return_, 1, [], 0, 0)])
def d_5 : MD := (⟨"RoomPlanner", "resetCounts", "()V"⟩, prog_1_method_35_code, 2, none, 2, 0, 0, 0, 0, [(0, .iconst 0, 1, [], 0, 0), (1, .istore_n 1, 1, [], 0, 0), (2, .iload_n 1, 1, [], 0, 0), (3, .bipush 96, 2, [], 0, 0), (5, .if_icmp .ge 23, 3, [], 0, 0), (8, .aload_n 0, 1, [], 0, 0), (9, .getfield 32, 3, [], 7, 0), (12, .iload_n 1, 1, [], 0, 0), (13, .iconst 0, 1, [], 0, 0), (14, .iastore, 1, [], 0, 0), (15, .aload_n 0, 1, [], 0, 0), (16, .getfield 35, 3, [], 8, 0), (19, .iload_n 1, 1, [], 0, 0), (20, .iconst 0, 1, [], 0, 0), (21, .iastore, 1, [], 0, 0), (22, .iinc 1 1, 3, [], 0, 0), (25, .goto (-23), 3, [], 0, 0), (28, .return_, 1, [], 0, 0)])
def d_6 : MD := (⟨"RoomPlanner", "clearPlan", "()V"⟩, prog_1_method_47_code, 2, none, 2, 0, 0, 0, 0, [(0, .iconst 0, 1, [], 0, 0), (1, .istore_n 1, 1, [], 0, 0), (2, .iload_n 1, 1, [], 0, 0), (3, .bipush 32, 2, [], 0, 0), (5, .if_icmp .ge 23, 3, [], 0, 0), (8, .aload_n 0, 1, [], 0, 0), (9, .getfield 38, 3, [], 9, 0), (12, .iload_n 1, 1, [], 0, 0), (13, .iconst (-1), 1, [], 0, 0), (14, .iastore, 1, [], 0, 0), (15, .aload_n 0, 1, [], 0, 0), (16, .getfield 44, 3, [], 11, 0), (19, .iload_n 1, 1, [], 0, 0), (20, .iconst 0, 1, [], 0, 0), (21, .iastore, 1, [], 0, 0), (22, .iinc 1 1, 3, [], 0, 0), (25, .goto (-23), 3, [], 0, 0), (28, .iconst 0, 1, [], 0, 0), (29, .istore_n 1, 1, [], 0, 0), (30, .iload_n 1, 1, [], 0, 0), (31, .sipush 768, 3, [], 0, 0), (34, .if_icmp .ge 16, 3, [], 0, 0), (37, .aload_n 0, 1, [], 0, 0), (38, .getfield 41, 3, [], 10, 0), (41, .iload_n 1, 1, [], 0, 0), (42, .iconst (-1), 1, [], 0, 0), (43, .iastore, 1, [], 0, 0), (44, .iinc 1 1, 3, [], 0, 0), (47, .goto (-17), 3, [], 0, 0), (50, .aload_n 0, 1, [], 0, 0), (51, .iconst 0, 1, [], 0, 0), (52, .putfield 127, 3, [], 14, 0), (55, .return_, 1, [], 0, 0)])
def d_7 : MD := (⟨"RoomPlanner", "assign", "()I"⟩, prog_1_method_13_code, 5, some .int, 3, 0, 0, 4, 63, [(0, .aload_n 0, 1, [], 0, 0), (1, .invokevirtual 90, 3, [], 8, 0), (4, .aload_n 0, 1, [], 0, 0), (5, .invokevirtual 60, 3, [], 6, 0), (8, .aload_n 0, 1, [], 0, 0), (9, .invokevirtual 124, 3, [], 9, 0), (12, .iconst 0, 1, [], 0, 0), (13, .istore_n 1, 1, [], 0, 0), (14, .iconst 0, 1, [], 0, 0), (15, .istore_n 2, 1, [], 0, 0), (16, .iload_n 2, 1, [false, false, false, true, true], 0, 0), (17, .aload_n 0, 1, [], 0, 0), (18, .getfield 127, 3, [], 14, 0), (21, .if_icmp .ge 37, 3, [], 0, 0), (24, .iload_n 2, 1, [], 0, 0), (25, .bipush 32, 2, [], 0, 0), (27, .if_icmp .ge 31, 3, [], 0, 0), (30, .aload_n 0, 1, [], 0, 0), (31, .getfield 44, 3, [], 11, 0), (34, .iload_n 2, 1, [], 0, 0), (35, .iaload, 1, [], 0, 0), (36, .istore_n 3, 1, [], 0, 0), (37, .aload_n 0, 1, [], 0, 0), (38, .iload_n 3, 1, [], 0, 0), (39, .invokevirtual 130, 3, [], 43, 0), (42, .istore 4, 2, [], 0, 0), (44, .iload 4, 2, [], 0, 0), (46, .ifCond .ne 6, 3, [], 0, 0), (49, .iinc 1 1, 3, [], 0, 0), (52, .iinc 2 1, 3, [], 0, 0), (55, .goto (-39), 3, [], 0, 0), (58, .aload_n 0, 1, [false, false, true, true, true], 0, 0), (59, .iload_n 1, 1, [], 0, 0), (60, .putfield 67, 3, [], 16, 0), (63, .aload_n 0, 1, [], 0, 0), (64, .iconst 1, 1, [], 0, 0), (65, .putfield 63, 3, [], 15, 0), (68, .iload_n 1, 1, [], 0, 0), (69, .ireturn, 1, [], 0, 0)])
def d_8 : MD := (⟨"RoomPlanner", "discardPlan", "()V"⟩, prog_1_method_46_code, 1, none, 2, 0, 0, 0, 0, [(0, .aload_n 0, 1, [], 0, 0), (1, .iconst 0, 1, [], 0, 0), (2, .putfield 63, 3, [], 15, 0), (5, .return_, 1, [], 0, 0)])
def d_9 : MD := (⟨"RoomPlanner", "buildOrder", "()V"⟩, prog_1_method_50_code, 3, none, 2, 0, 0, 1, 13, [(0, .aload_n 0, 1, [], 0, 0), (1, .iconst 0, 1, [], 0, 0), (2, .putfield 127, 3, [], 14, 0), (5, .iconst 0, 1, [], 0, 0), (6, .istore_n 1, 1, [], 0, 0), (7, .iload_n 1, 1, [false, false, true], 0, 0), (8, .bipush 32, 2, [], 0, 0), (10, .if_icmp .ge 47, 3, [], 0, 0), (13, .iconst 0, 1, [], 0, 0), (14, .istore_n 2, 1, [], 0, 0), (15, .iload_n 2, 1, [], 0, 0), (16, .bipush 32, 2, [], 0, 0), (18, .if_icmp .ge 33, 3, [], 0, 0), (21, .aload_n 0, 1, [], 0, 0), (22, .getfield 19, 3, [], 3, 0), (25, .iload_n 2, 1, [], 0, 0), (26, .baload, 1, [], 0, 0), (27, .ifCond .eq 18, 3, [], 0, 0), (30, .aload_n 0, 1, [], 0, 0), (31, .getfield 26, 3, [], 5, 0), (34, .iload_n 2, 1, [], 0, 0), (35, .iaload, 1, [], 0, 0), (36, .iload_n 1, 1, [], 0, 0), (37, .if_icmp .ne 8, 3, [], 0, 0), (40, .aload_n 0, 1, [], 0, 0), (41, .iload_n 2, 1, [], 0, 0), (42, .invokevirtual 177, 3, [], 42, 0), (45, .iinc 2 1, 3, [], 0, 0), (48, .goto (-33), 3, [], 0, 0), (51, .iinc 1 1, 3, [], 0, 0), (54, .goto (-47), 3, [], 0, 0), (57, .return_, 1, [], 0, 0)])
def d_10 : MD := (⟨"RoomPlanner", "stayType", "(I)I"⟩, prog_1_method_9_code, 2, some .int, 3, 1, 0, 1, 13, [(0, .aload_n 0, 1, [], 0, 0), (1, .iload_n 1, 1, [], 0, 0), (2, .invokevirtual 93, 3, [], 11, 0), (5, .ifCond .ne 5, 3, [], 0, 0), (8, .iconst (-1), 1, [], 0, 0), (9, .ireturn, 1, [], 0, 0), (10, .aload_n 0, 1, [], 0, 0), (11, .getfield 23, 3, [], 4, 0), (14, .iload_n 1, 1, [], 0, 0), (15, .iaload, 1, [], 0, 0), (16, .ireturn, 1, [], 0, 0)])
def d_11 : MD := (⟨"RoomPlanner", "isActiveStay", "(I)Z"⟩, prog_1_method_26_code, 2, some .boolean, 2, 1, 0, 0, 0, [(0, .iload_n 1, 1, [], 0, 0), (1, .ifCond .lt 9, 3, [], 0, 0), (4, .iload_n 1, 1, [], 0, 0), (5, .bipush 32, 2, [], 0, 0), (7, .if_icmp .lt 5, 3, [], 0, 0), (10, .iconst 0, 1, [], 0, 0), (11, .ireturn, 1, [], 0, 0), (12, .aload_n 0, 1, [], 0, 0), (13, .getfield 19, 3, [], 3, 0), (16, .iload_n 1, 1, [], 0, 0), (17, .baload, 1, [], 0, 0), (18, .ireturn, 1, [], 0, 0)])
def d_12 : MD := (⟨"RoomPlanner", "occupancy", "(II)I"⟩, prog_1_method_8_code, 3, some .int, 3, 2, 0, 2, 29, [(0, .aload_n 0, 1, [], 0, 0), (1, .iload_n 1, 1, [], 0, 0), (2, .invokevirtual 108, 3, [], 13, 0), (5, .ifCond .ne 5, 3, [], 0, 0), (8, .iconst (-1), 1, [], 0, 0), (9, .ireturn, 1, [], 0, 0), (10, .aload_n 0, 1, [], 0, 0), (11, .iload_n 2, 1, [], 0, 0), (12, .invokevirtual 111, 3, [], 14, 0), (15, .ifCond .ne 6, 3, [], 0, 0), (18, .bipush (-2), 2, [], 0, 0), (20, .ireturn, 1, [], 0, 0), (21, .aload_n 0, 1, [], 0, 0), (22, .iload_n 1, 1, [], 0, 0), (23, .iload_n 2, 1, [], 0, 0), (24, .invokevirtual 121, 3, [], 15, 0), (27, .ireturn, 1, [], 0, 0)])
def d_13 : MD := (⟨"RoomPlanner", "isValidType", "(I)Z"⟩, prog_1_method_23_code, 2, some .boolean, 2, 1, 0, 0, 0, [(0, .iload_n 1, 1, [], 0, 0), (1, .ifCond .lt 12, 3, [], 0, 0), (4, .iload_n 1, 1, [], 0, 0), (5, .iconst 3, 1, [], 0, 0), (6, .if_icmp .ge 7, 3, [], 0, 0), (9, .iconst 1, 1, [], 0, 0), (10, .goto 4, 3, [], 0, 0), (13, .iconst 0, 1, [], 0, 0), (14, .ireturn, 1, [], 0, 0)])
def d_14 : MD := (⟨"RoomPlanner", "isValidNight", "(I)Z"⟩, prog_1_method_24_code, 2, some .boolean, 2, 1, 0, 0, 0, [(0, .iload_n 1, 1, [], 0, 0), (1, .ifCond .lt 13, 3, [], 0, 0), (4, .iload_n 1, 1, [], 0, 0), (5, .bipush 32, 2, [], 0, 0), (7, .if_icmp .ge 7, 3, [], 0, 0), (10, .iconst 1, 1, [], 0, 0), (11, .goto 4, 3, [], 0, 0), (14, .iconst 0, 1, [], 0, 0), (15, .ireturn, 1, [], 0, 0)])
def d_15 : MD := (⟨"RoomPlanner", "exactAt", "(II)I"⟩, prog_1_method_37_code, 3, some .int, 2, 2, 0, 1, 15, [(0, .aload_n 0, 1, [], 0, 0), (1, .iload_n 1, 1, [], 0, 0), (2, .invokevirtual 108, 3, [], 13, 0), (5, .ifCond .eq 11, 3, [], 0, 0), (8, .aload_n 0, 1, [], 0, 0), (9, .iload_n 2, 1, [], 0, 0), (10, .invokevirtual 111, 3, [], 14, 0), (13, .ifCond .ne 5, 3, [], 0, 0), (16, .iconst 0, 1, [], 0, 0), (17, .ireturn, 1, [], 0, 0), (18, .aload_n 0, 1, [], 0, 0), (19, .getfield 32, 3, [], 7, 0), (22, .aload_n 0, 1, [], 0, 0), (23, .iload_n 1, 1, [], 0, 0), (24, .iload_n 2, 1, [], 0, 0), (25, .invokevirtual 149, 3, [], 16, 0), (28, .iaload, 1, [], 0, 0), (29, .ireturn, 1, [], 0, 0)])
def d_16 : MD := (⟨"RoomPlanner", "countIndex", "(II)I"⟩, prog_1_method_36_code, 3, some .int, 2, 2, 0, 0, 0, [(0, .iload_n 1, 1, [], 0, 0), (1, .bipush 32, 2, [], 0, 0), (3, .imul, 1, [], 0, 0), (4, .iload_n 2, 1, [], 0, 0), (5, .iadd, 1, [], 0, 0), (6, .ireturn, 1, [], 0, 0)])
def d_17 : MD := (⟨"RoomPlanner", "available", "(II)I"⟩, prog_1_method_7_code, 3, some .int, 3, 2, 0, 4, 62, [(0, .aload_n 0, 1, [], 0, 0), (1, .iload_n 1, 1, [], 0, 0), (2, .invokevirtual 108, 3, [], 13, 0), (5, .ifCond .ne 5, 3, [], 0, 0), (8, .iconst (-1), 1, [], 0, 0), (9, .ireturn, 1, [], 0, 0), (10, .aload_n 0, 1, [], 0, 0), (11, .iload_n 2, 1, [], 0, 0), (12, .invokevirtual 111, 3, [], 14, 0), (15, .ifCond .ne 6, 3, [], 0, 0), (18, .bipush (-2), 2, [], 0, 0), (20, .ireturn, 1, [], 0, 0), (21, .aload_n 0, 1, [], 0, 0), (22, .iload_n 1, 1, [], 0, 0), (23, .iload_n 2, 1, [], 0, 0), (24, .invokevirtual 118, 3, [], 18, 0), (27, .ireturn, 1, [], 0, 0)])
def d_18 : MD := (⟨"RoomPlanner", "minSlack", "(II)I"⟩, prog_1_method_41_code, 6, some .int, 2, 2, 0, 3, 45, [(0, .aload_n 0, 1, [], 0, 0), (1, .iconst 0, 1, [], 0, 0), (2, .iload_n 2, 1, [], 0, 0), (3, .invokevirtual 161, 3, [], 19, 0), (6, .istore_n 3, 1, [], 0, 0), (7, .iconst 1, 1, [], 0, 0), (8, .istore 4, 2, [], 0, 0), (10, .iload 4, 2, [false, false, false, false, false, true], 0, 0), (12, .iload_n 1, 1, [], 0, 0), (13, .if_icmp .gt 33, 3, [], 0, 0), (16, .iload 4, 2, [], 0, 0), (18, .iconst 3, 1, [], 0, 0), (19, .if_icmp .ge 27, 3, [], 0, 0), (22, .aload_n 0, 1, [], 0, 0), (23, .iload 4, 2, [], 0, 0), (25, .iload_n 2, 1, [], 0, 0), (26, .invokevirtual 161, 3, [], 19, 0), (29, .istore 5, 2, [], 0, 0), (31, .iload 5, 2, [], 0, 0), (33, .iload_n 3, 1, [], 0, 0), (34, .if_icmp .ge 6, 3, [], 0, 0), (37, .iload 5, 2, [], 0, 0), (39, .istore_n 3, 1, [], 0, 0), (40, .iinc 4 1, 3, [], 0, 0), (43, .goto (-33), 3, [], 0, 0), (46, .iload_n 3, 1, [true, true, true, false, true, true], 0, 0), (47, .ifCond .ge 5, 3, [], 0, 0), (50, .iconst 0, 1, [], 0, 0), (51, .ireturn, 1, [], 0, 0), (52, .iload_n 3, 1, [], 0, 0), (53, .ireturn, 1, [], 0, 0)])
def d_19 : MD := (⟨"RoomPlanner", "slackOf", "(II)I"⟩, prog_1_method_40_code, 5, some .int, 2, 2, 0, 2, 29, [(0, .aload_n 0, 1, [], 0, 0), (1, .iload_n 1, 1, [], 0, 0), (2, .invokevirtual 155, 3, [], 20, 0), (5, .istore_n 3, 1, [], 0, 0), (6, .aload_n 0, 1, [], 0, 0), (7, .iload_n 1, 1, [], 0, 0), (8, .iload_n 2, 1, [], 0, 0), (9, .invokevirtual 158, 3, [], 21, 0), (12, .istore 4, 2, [], 0, 0), (14, .iload_n 3, 1, [], 0, 0), (15, .iload 4, 2, [], 0, 0), (17, .isub, 1, [], 0, 0), (18, .ireturn, 1, [], 0, 0)])
def d_20 : MD := (⟨"RoomPlanner", "roomsFrom", "(I)I"⟩, prog_1_method_22_code, 2, some .int, 2, 1, 0, 1, 13, [(0, .aload_n 0, 1, [], 0, 0), (1, .iload_n 1, 1, [], 0, 0), (2, .invokevirtual 108, 3, [], 13, 0), (5, .ifCond .ne 5, 3, [], 0, 0), (8, .iconst 0, 1, [], 0, 0), (9, .ireturn, 1, [], 0, 0), (10, .aload_n 0, 1, [], 0, 0), (11, .getfield 13, 3, [], 1, 0), (14, .iload_n 1, 1, [], 0, 0), (15, .iaload, 1, [], 0, 0), (16, .ireturn, 1, [], 0, 0)])
def d_21 : MD := (⟨"RoomPlanner", "atLeastAt", "(II)I"⟩, prog_1_method_38_code, 3, some .int, 2, 2, 0, 1, 15, [(0, .aload_n 0, 1, [], 0, 0), (1, .iload_n 1, 1, [], 0, 0), (2, .invokevirtual 108, 3, [], 13, 0), (5, .ifCond .eq 11, 3, [], 0, 0), (8, .aload_n 0, 1, [], 0, 0), (9, .iload_n 2, 1, [], 0, 0), (10, .invokevirtual 111, 3, [], 14, 0), (13, .ifCond .ne 5, 3, [], 0, 0), (16, .iconst 0, 1, [], 0, 0), (17, .ireturn, 1, [], 0, 0), (18, .aload_n 0, 1, [], 0, 0), (19, .getfield 35, 3, [], 8, 0), (22, .aload_n 0, 1, [], 0, 0), (23, .iload_n 1, 1, [], 0, 0), (24, .iload_n 2, 1, [], 0, 0), (25, .invokevirtual 149, 3, [], 16, 0), (28, .iaload, 1, [], 0, 0), (29, .ireturn, 1, [], 0, 0)])
def d_22 : MD := (⟨"RoomPlanner", "activeCount", "()I"⟩, prog_1_method_12_code, 1, some .int, 3, 0, 0, 0, 0, [(0, .aload_n 0, 1, [], 0, 0), (1, .getfield 75, 3, [], 13, 0), (4, .ireturn, 1, [], 0, 0)])
def d_23 : MD := (⟨"RoomPlanner", "isAssigned", "()Z"⟩, prog_1_method_14_code, 1, some .boolean, 3, 0, 0, 0, 0, [(0, .aload_n 0, 1, [], 0, 0), (1, .getfield 63, 3, [], 15, 0), (4, .ireturn, 1, [], 0, 0)])
def d_24 : MD := (⟨"RoomPlanner", "canBook", "(III)Z"⟩, prog_1_method_5_code, 4, some .boolean, 3, 3, 0, 5, 80, [(0, .aload_n 0, 1, [], 0, 0), (1, .iload_n 1, 1, [], 0, 0), (2, .iload_n 2, 1, [], 0, 0), (3, .iload_n 3, 1, [], 0, 0), (4, .invokevirtual 71, 3, [], 25, 0), (7, .ifCond .eq 5, 3, [], 0, 0), (10, .iconst 0, 1, [], 0, 0), (11, .ireturn, 1, [], 0, 0), (12, .aload_n 0, 1, [], 0, 0), (13, .getfield 75, 3, [], 13, 0), (16, .bipush 32, 2, [], 0, 0), (18, .if_icmp .lt 5, 3, [], 0, 0), (21, .iconst 0, 1, [], 0, 0), (22, .ireturn, 1, [], 0, 0), (23, .aload_n 0, 1, [], 0, 0), (24, .iconst (-1), 1, [], 0, 0), (25, .iload_n 1, 1, [], 0, 0), (26, .iload_n 2, 1, [], 0, 0), (27, .iload_n 3, 1, [], 0, 0), (28, .invokevirtual 78, 3, [], 27, 0), (31, .ireturn, 1, [], 0, 0)])
def d_25 : MD := (⟨"RoomPlanner", "requestError", "(III)I"⟩, prog_1_method_27_code, 4, some .int, 2, 3, 0, 1, 14, [(0, .aload_n 0, 1, [], 0, 0), (1, .iload_n 1, 1, [], 0, 0), (2, .invokevirtual 108, 3, [], 13, 0), (5, .ifCond .ne 5, 3, [], 0, 0), (8, .iconst (-1), 1, [], 0, 0), (9, .ireturn, 1, [], 0, 0), (10, .aload_n 0, 1, [], 0, 0), (11, .iload_n 2, 1, [], 0, 0), (12, .invokevirtual 111, 3, [], 14, 0), (15, .ifCond .ne 6, 3, [], 0, 0), (18, .bipush (-2), 2, [], 0, 0), (20, .ireturn, 1, [], 0, 0), (21, .aload_n 0, 1, [], 0, 0), (22, .iload_n 2, 1, [], 0, 0), (23, .iload_n 3, 1, [], 0, 0), (24, .invokevirtual 145, 3, [], 26, 0), (27, .ifCond .ne 6, 3, [], 0, 0), (30, .bipush (-2), 2, [], 0, 0), (32, .ireturn, 1, [], 0, 0), (33, .iconst 0, 1, [], 0, 0), (34, .ireturn, 1, [], 0, 0)])
def d_26 : MD := (⟨"RoomPlanner", "isValidLength", "(II)Z"⟩, prog_1_method_25_code, 3, some .boolean, 2, 2, 0, 0, 0, [(0, .iload_n 2, 1, [], 0, 0), (1, .iconst 1, 1, [], 0, 0), (2, .if_icmp .ge 5, 3, [], 0, 0), (5, .iconst 0, 1, [], 0, 0), (6, .ireturn, 1, [], 0, 0), (7, .iload_n 2, 1, [], 0, 0), (8, .bipush 32, 2, [], 0, 0), (10, .iload_n 1, 1, [], 0, 0), (11, .isub, 1, [], 0, 0), (12, .if_icmp .gt 7, 3, [], 0, 0), (15, .iconst 1, 1, [], 0, 0), (16, .goto 4, 3, [], 0, 0), (19, .iconst 0, 1, [], 0, 0), (20, .ireturn, 1, [], 0, 0)])
def d_27 : MD := (⟨"RoomPlanner", "fitsWith", "(IIII)Z"⟩, prog_1_method_44_code, 7, some .boolean, 2, 4, 0, 4, 62, [(0, .aload_n 0, 1, [], 0, 0), (1, .iload_n 3, 1, [], 0, 0), (2, .iload 4, 2, [], 0, 0), (4, .invokevirtual 152, 3, [], 28, 0), (7, .istore 5, 2, [], 0, 0), (9, .iload_n 3, 1, [], 0, 0), (10, .istore 6, 2, [], 0, 0), (12, .iload 6, 2, [false, false, false, true, true], 0, 0), (14, .ifCond .lt 29, 3, [], 0, 0), (17, .iload 6, 2, [], 0, 0), (19, .iload 5, 2, [], 0, 0), (21, .if_icmp .ge 22, 3, [], 0, 0), (24, .aload_n 0, 1, [], 0, 0), (25, .iload_n 1, 1, [], 0, 0), (26, .iload_n 2, 1, [], 0, 0), (27, .iload 6, 2, [], 0, 0), (29, .invokevirtual 170, 3, [], 29, 0), (32, .ifCond .ne 5, 3, [], 0, 0), (35, .iconst 0, 1, [], 0, 0), (36, .ireturn, 1, [], 0, 0), (37, .iinc 6 1, 3, [], 0, 0), (40, .goto (-28), 3, [], 0, 0), (43, .iconst 1, 1, [], 0, 0), (44, .ireturn, 1, [], 0, 0)])
def d_28 : MD := (⟨"RoomPlanner", "endOf", "(II)I"⟩, prog_1_method_34_code, 4, some .int, 2, 2, 0, 0, 0, [(0, .iload_n 1, 1, [], 0, 0), (1, .iload_n 2, 1, [], 0, 0), (2, .iadd, 1, [], 0, 0), (3, .istore_n 3, 1, [], 0, 0), (4, .iload_n 3, 1, [], 0, 0), (5, .bipush 32, 2, [], 0, 0), (7, .if_icmp .le 6, 3, [], 0, 0), (10, .bipush 32, 2, [], 0, 0), (12, .ireturn, 1, [], 0, 0), (13, .iload_n 3, 1, [], 0, 0), (14, .ireturn, 1, [], 0, 0)])
def d_29 : MD := (⟨"RoomPlanner", "nightFits", "(III)Z"⟩, prog_1_method_43_code, 8, some .boolean, 2, 3, 0, 3, 43, [(0, .iconst 0, 1, [], 0, 0), (1, .istore 4, 2, [], 0, 0), (3, .iload 4, 2, [false, false, false, false, false, true, true, true], 0, 0), (5, .iload_n 2, 1, [], 0, 0), (6, .if_icmp .gt 57, 3, [], 0, 0), (9, .iload 4, 2, [], 0, 0), (11, .iconst 3, 1, [], 0, 0), (12, .if_icmp .ge 51, 3, [], 0, 0), (15, .aload_n 0, 1, [], 0, 0), (16, .iload 4, 2, [], 0, 0), (18, .iload_n 3, 1, [], 0, 0), (19, .invokevirtual 158, 3, [], 21, 0), (22, .istore 5, 2, [], 0, 0), (24, .aload_n 0, 1, [], 0, 0), (25, .iload_n 1, 1, [], 0, 0), (26, .iload 4, 2, [], 0, 0), (28, .iload_n 3, 1, [], 0, 0), (29, .invokevirtual 167, 3, [], 30, 0), (32, .istore 6, 2, [], 0, 0), (34, .iload 5, 2, [], 0, 0), (36, .iload 6, 2, [], 0, 0), (38, .isub, 1, [], 0, 0), (39, .iconst 1, 1, [], 0, 0), (40, .iadd, 1, [], 0, 0), (41, .istore 7, 2, [], 0, 0), (43, .iload 7, 2, [], 0, 0), (45, .aload_n 0, 1, [], 0, 0), (46, .getfield 13, 3, [], 1, 0), (49, .iload 4, 2, [], 0, 0), (51, .iaload, 1, [], 0, 0), (52, .if_icmp .le 5, 3, [], 0, 0), (55, .iconst 0, 1, [], 0, 0), (56, .ireturn, 1, [], 0, 0), (57, .iinc 4 1, 3, [], 0, 0), (60, .goto (-57), 3, [], 0, 0), (63, .iconst 1, 1, [], 0, 0), (64, .ireturn, 1, [], 0, 0)])
def d_30 : MD := (⟨"RoomPlanner", "exclusion", "(III)I"⟩, prog_1_method_42_code, 4, some .int, 2, 3, 0, 2, 28, [(0, .aload_n 0, 1, [], 0, 0), (1, .iload_n 1, 1, [], 0, 0), (2, .invokevirtual 93, 3, [], 11, 0), (5, .ifCond .ne 5, 3, [], 0, 0), (8, .iconst 0, 1, [], 0, 0), (9, .ireturn, 1, [], 0, 0), (10, .aload_n 0, 1, [], 0, 0), (11, .getfield 23, 3, [], 4, 0), (14, .iload_n 1, 1, [], 0, 0), (15, .iaload, 1, [], 0, 0), (16, .iload_n 2, 1, [], 0, 0), (17, .if_icmp .ge 5, 3, [], 0, 0), (20, .iconst 0, 1, [], 0, 0), (21, .ireturn, 1, [], 0, 0), (22, .aload_n 0, 1, [], 0, 0), (23, .iload_n 1, 1, [], 0, 0), (24, .iload_n 3, 1, [], 0, 0), (25, .invokevirtual 164, 3, [], 48, 0), (28, .ifCond .eq 5, 3, [], 0, 0), (31, .iconst 1, 1, [], 0, 0), (32, .ireturn, 1, [], 0, 0), (33, .iconst 0, 1, [], 0, 0), (34, .ireturn, 1, [], 0, 0)])
def d_31 : MD := (⟨"RoomPlanner", "book", "(III)I"⟩, prog_1_method_2_code, 6, some .int, 3, 3, 0, 5, 80, [(0, .aload_n 0, 1, [], 0, 0), (1, .iload_n 1, 1, [], 0, 0), (2, .iload_n 2, 1, [], 0, 0), (3, .iload_n 3, 1, [], 0, 0), (4, .invokevirtual 71, 3, [], 25, 0), (7, .istore 4, 2, [], 0, 0), (9, .iload 4, 2, [], 0, 0), (11, .ifCond .eq 6, 3, [], 0, 0), (14, .iload 4, 2, [], 0, 0), (16, .ireturn, 1, [], 0, 0), (17, .aload_n 0, 1, [], 0, 0), (18, .getfield 75, 3, [], 13, 0), (21, .bipush 32, 2, [], 0, 0), (23, .if_icmp .lt 6, 3, [], 0, 0), (26, .bipush (-3), 2, [], 0, 0), (28, .ireturn, 1, [], 0, 0), (29, .aload_n 0, 1, [], 0, 0), (30, .iconst (-1), 1, [], 0, 0), (31, .iload_n 1, 1, [], 0, 0), (32, .iload_n 2, 1, [], 0, 0), (33, .iload_n 3, 1, [], 0, 0), (34, .invokevirtual 78, 3, [], 27, 0), (37, .ifCond .ne 6, 3, [], 0, 0), (40, .bipush (-4), 2, [], 0, 0), (42, .ireturn, 1, [], 0, 0), (43, .aload_n 0, 1, [], 0, 0), (44, .invokevirtual 82, 3, [], 32, 0), (47, .istore 5, 2, [], 0, 0), (49, .iload 5, 2, [], 0, 0), (51, .ifCond .ge 6, 3, [], 0, 0), (54, .bipush (-3), 2, [], 0, 0), (56, .ireturn, 1, [], 0, 0), (57, .aload_n 0, 1, [], 0, 0), (58, .iload 5, 2, [], 0, 0), (60, .iload_n 1, 1, [], 0, 0), (61, .iload_n 2, 1, [], 0, 0), (62, .iload_n 3, 1, [], 0, 0), (63, .invokevirtual 86, 3, [], 33, 0), (66, .aload_n 0, 1, [], 0, 0), (67, .invokevirtual 90, 3, [], 8, 0), (70, .iload 5, 2, [], 0, 0), (72, .ireturn, 1, [], 0, 0)])
def d_32 : MD := (⟨"RoomPlanner", "lowestInactiveSlot", "()I"⟩, prog_1_method_29_code, 2, some .int, 2, 0, 0, 0, 0, [(0, .iconst 0, 1, [], 0, 0), (1, .istore_n 1, 1, [], 0, 0), (2, .iload_n 1, 1, [], 0, 0), (3, .bipush 32, 2, [], 0, 0), (5, .if_icmp .ge 20, 3, [], 0, 0), (8, .aload_n 0, 1, [], 0, 0), (9, .getfield 19, 3, [], 3, 0), (12, .iload_n 1, 1, [], 0, 0), (13, .baload, 1, [], 0, 0), (14, .ifCond .ne 5, 3, [], 0, 0), (17, .iload_n 1, 1, [], 0, 0), (18, .ireturn, 1, [], 0, 0), (19, .iinc 1 1, 3, [], 0, 0), (22, .goto (-20), 3, [], 0, 0), (25, .iconst (-1), 1, [], 0, 0), (26, .ireturn, 1, [], 0, 0)])
def d_33 : MD := (⟨"RoomPlanner", "activateStay", "(IIII)V"⟩, prog_1_method_31_code, 5, none, 2, 4, 0, 2, 34, [(0, .aload_n 0, 1, [], 0, 0), (1, .iload_n 1, 1, [], 0, 0), (2, .iload_n 2, 1, [], 0, 0), (3, .iload_n 3, 1, [], 0, 0), (4, .iload 4, 2, [], 0, 0), (6, .invokevirtual 101, 3, [], 34, 0), (9, .aload_n 0, 1, [], 0, 0), (10, .getfield 19, 3, [], 3, 0), (13, .iload_n 1, 1, [], 0, 0), (14, .iconst 1, 1, [], 0, 0), (15, .bastore, 1, [], 0, 0), (16, .aload_n 0, 1, [], 0, 0), (17, .dup, 1, [], 0, 0), (18, .getfield 75, 3, [], 13, 0), (21, .iconst 1, 1, [], 0, 0), (22, .iadd, 1, [], 0, 0), (23, .putfield 75, 3, [], 13, 0), (26, .aload_n 0, 1, [], 0, 0), (27, .iload_n 1, 1, [], 0, 0), (28, .iconst 1, 1, [], 0, 0), (29, .invokevirtual 97, 3, [], 35, 0), (32, .return_, 1, [], 0, 0)])
def d_34 : MD := (⟨"RoomPlanner", "storeStay", "(IIII)V"⟩, prog_1_method_30_code, 5, none, 2, 4, 0, 0, 0, [(0, .aload_n 0, 1, [], 0, 0), (1, .getfield 23, 3, [], 4, 0), (4, .iload_n 1, 1, [], 0, 0), (5, .iload_n 2, 1, [], 0, 0), (6, .iastore, 1, [], 0, 0), (7, .aload_n 0, 1, [], 0, 0), (8, .getfield 26, 3, [], 5, 0), (11, .iload_n 1, 1, [], 0, 0), (12, .iload_n 3, 1, [], 0, 0), (13, .iastore, 1, [], 0, 0), (14, .aload_n 0, 1, [], 0, 0), (15, .getfield 29, 3, [], 6, 0), (18, .iload_n 1, 1, [], 0, 0), (19, .iload 4, 2, [], 0, 0), (21, .iastore, 1, [], 0, 0), (22, .return_, 1, [], 0, 0)])
def d_35 : MD := (⟨"RoomPlanner", "adjustCoverage", "(II)V"⟩, prog_1_method_39_code, 8, none, 2, 2, 0, 1, 15, [(0, .iload_n 1, 1, [], 0, 0), (1, .ifCond .lt 9, 3, [], 0, 0), (4, .iload_n 1, 1, [], 0, 0), (5, .bipush 32, 2, [], 0, 0), (7, .if_icmp .lt 4, 3, [], 0, 0), (10, .return_, 1, [], 0, 0), (11, .aload_n 0, 1, [], 0, 0), (12, .getfield 23, 3, [], 4, 0), (15, .iload_n 1, 1, [], 0, 0), (16, .iaload, 1, [], 0, 0), (17, .istore_n 3, 1, [], 0, 0), (18, .aload_n 0, 1, [], 0, 0), (19, .iload_n 3, 1, [], 0, 0), (20, .invokevirtual 108, 3, [], 13, 0), (23, .ifCond .ne 4, 3, [], 0, 0), (26, .return_, 1, [], 0, 0), (27, .aload_n 0, 1, [], 0, 0), (28, .getfield 26, 3, [], 5, 0), (31, .iload_n 1, 1, [], 0, 0), (32, .iaload, 1, [], 0, 0), (33, .istore 4, 2, [], 0, 0), (35, .aload_n 0, 1, [], 0, 0), (36, .iload 4, 2, [], 0, 0), (38, .aload_n 0, 1, [], 0, 0), (39, .getfield 29, 3, [], 6, 0), (42, .iload_n 1, 1, [], 0, 0), (43, .iaload, 1, [], 0, 0), (44, .invokevirtual 152, 3, [], 28, 0), (47, .istore 5, 2, [], 0, 0), (49, .iload 4, 2, [], 0, 0), (51, .istore 6, 2, [], 0, 0), (53, .iload 6, 2, [false, true, false, false, true, false, false, true], 0, 0), (55, .ifCond .lt 64, 3, [], 0, 0), (58, .iload 6, 2, [], 0, 0), (60, .iload 5, 2, [], 0, 0), (62, .if_icmp .ge 57, 3, [], 0, 0), (65, .aload_n 0, 1, [], 0, 0), (66, .getfield 32, 3, [], 7, 0), (69, .aload_n 0, 1, [], 0, 0), (70, .iload_n 3, 1, [], 0, 0), (71, .iload 6, 2, [], 0, 0), (73, .invokevirtual 149, 3, [], 16, 0), (76, .dup2, 1, [], 0, 0), (77, .iaload, 1, [], 0, 0), (78, .iload_n 2, 1, [], 0, 0), (79, .iadd, 1, [], 0, 0), (80, .iastore, 1, [], 0, 0), (81, .iconst 0, 1, [], 0, 0), (82, .istore 7, 2, [], 0, 0), (84, .iload 7, 2, [false, true, false, false, true], 0, 0), (86, .iload_n 3, 1, [], 0, 0), (87, .if_icmp .gt 26, 3, [], 0, 0), (90, .aload_n 0, 1, [], 0, 0), (91, .getfield 35, 3, [], 8, 0), (94, .aload_n 0, 1, [], 0, 0), (95, .iload 7, 2, [], 0, 0), (97, .iload 6, 2, [], 0, 0), (99, .invokevirtual 149, 3, [], 16, 0), (102, .dup2, 1, [], 0, 0), (103, .iaload, 1, [], 0, 0), (104, .iload_n 2, 1, [], 0, 0), (105, .iadd, 1, [], 0, 0), (106, .iastore, 1, [], 0, 0), (107, .iinc 7 1, 3, [], 0, 0), (110, .goto (-26), 3, [], 0, 0), (113, .iinc 6 1, 3, [], 0, 0), (116, .goto (-63), 3, [], 0, 0), (119, .return_, 1, [], 0, 0)])
def d_36 : MD := (⟨"RoomPlannerL6", "lowestFree", "(I)I"⟩, method_3_code, 2, some .int, 0, 1, 999, 0, 0, [(0, .iconst 0, 1, [], 0, 0), (1, .istore_n 1, 1, [], 0, 0), (2, .iload_n 1, 1, [], 0, 0), (3, .bipush 32, 2, [], 0, 0), (5, .if_icmp .ge 19, 3, [], 0, 0), (8, .iload_n 0, 1, [], 0, 0), (9, .iload_n 1, 1, [], 0, 0), (10, .iushr, 1, [], 0, 0), (11, .iconst 1, 1, [], 0, 0), (12, .iand, 1, [], 0, 0), (13, .ifCond .ne 5, 3, [], 0, 0), (16, .iload_n 1, 1, [], 0, 0), (17, .ireturn, 1, [], 0, 0), (18, .iinc 1 1, 3, [], 0, 0), (21, .goto (-19), 3, [], 0, 0), (24, .iconst (-1), 1, [], 0, 0), (25, .ireturn, 1, [], 0, 0)])
def d_37 : MD := (⟨"RoomPlanner", "stayArrive", "(I)I"⟩, prog_1_method_10_code, 2, some .int, 3, 1, 0, 1, 13, [(0, .aload_n 0, 1, [], 0, 0), (1, .iload_n 1, 1, [], 0, 0), (2, .invokevirtual 93, 3, [], 11, 0), (5, .ifCond .ne 5, 3, [], 0, 0), (8, .iconst (-1), 1, [], 0, 0), (9, .ireturn, 1, [], 0, 0), (10, .aload_n 0, 1, [], 0, 0), (11, .getfield 26, 3, [], 5, 0), (14, .iload_n 1, 1, [], 0, 0), (15, .iaload, 1, [], 0, 0), (16, .ireturn, 1, [], 0, 0)])
def d_38 : MD := (⟨"RoomPlanner", "stayNights", "(I)I"⟩, prog_1_method_11_code, 2, some .int, 3, 1, 0, 1, 13, [(0, .aload_n 0, 1, [], 0, 0), (1, .iload_n 1, 1, [], 0, 0), (2, .invokevirtual 93, 3, [], 11, 0), (5, .ifCond .ne 5, 3, [], 0, 0), (8, .iconst (-1), 1, [], 0, 0), (9, .ireturn, 1, [], 0, 0), (10, .aload_n 0, 1, [], 0, 0), (11, .getfield 29, 3, [], 6, 0), (14, .iload_n 1, 1, [], 0, 0), (15, .iaload, 1, [], 0, 0), (16, .ireturn, 1, [], 0, 0)])
def d_39 : MD := (⟨"RoomPlanner", "cancel", "(I)I"⟩, prog_1_method_4_code, 2, some .int, 3, 1, 0, 3, 47, [(0, .aload_n 0, 1, [], 0, 0), (1, .iload_n 1, 1, [], 0, 0), (2, .invokevirtual 93, 3, [], 11, 0), (5, .ifCond .ne 6, 3, [], 0, 0), (8, .bipush (-5), 2, [], 0, 0), (10, .ireturn, 1, [], 0, 0), (11, .aload_n 0, 1, [], 0, 0), (12, .iload_n 1, 1, [], 0, 0), (13, .invokevirtual 104, 3, [], 40, 0), (16, .aload_n 0, 1, [], 0, 0), (17, .invokevirtual 90, 3, [], 8, 0), (20, .iconst 0, 1, [], 0, 0), (21, .ireturn, 1, [], 0, 0)])
def d_40 : MD := (⟨"RoomPlanner", "deactivateStay", "(I)V"⟩, prog_1_method_32_code, 2, none, 2, 1, 0, 2, 34, [(0, .aload_n 0, 1, [], 0, 0), (1, .iload_n 1, 1, [], 0, 0), (2, .iconst (-1), 1, [], 0, 0), (3, .invokevirtual 97, 3, [], 35, 0), (6, .aload_n 0, 1, [], 0, 0), (7, .getfield 19, 3, [], 3, 0), (10, .iload_n 1, 1, [], 0, 0), (11, .iconst 0, 1, [], 0, 0), (12, .bastore, 1, [], 0, 0), (13, .aload_n 0, 1, [], 0, 0), (14, .iload_n 1, 1, [], 0, 0), (15, .iconst 0, 1, [], 0, 0), (16, .iconst 0, 1, [], 0, 0), (17, .iconst 0, 1, [], 0, 0), (18, .invokevirtual 101, 3, [], 34, 0), (21, .aload_n 0, 1, [], 0, 0), (22, .dup, 1, [], 0, 0), (23, .getfield 75, 3, [], 13, 0), (26, .iconst 1, 1, [], 0, 0), (27, .isub, 1, [], 0, 0), (28, .putfield 75, 3, [], 13, 0), (31, .return_, 1, [], 0, 0)])
def d_41 : MD := (⟨"RoomPlanner", "amend", "(IIII)I"⟩, prog_1_method_3_code, 6, some .int, 3, 4, 0, 5, 80, [(0, .aload_n 0, 1, [], 0, 0), (1, .iload_n 1, 1, [], 0, 0), (2, .invokevirtual 93, 3, [], 11, 0), (5, .ifCond .ne 6, 3, [], 0, 0), (8, .bipush (-5), 2, [], 0, 0), (10, .ireturn, 1, [], 0, 0), (11, .aload_n 0, 1, [], 0, 0), (12, .iload_n 2, 1, [], 0, 0), (13, .iload_n 3, 1, [], 0, 0), (14, .iload 4, 2, [], 0, 0), (16, .invokevirtual 71, 3, [], 25, 0), (19, .istore 5, 2, [], 0, 0), (21, .iload 5, 2, [], 0, 0), (23, .ifCond .eq 6, 3, [], 0, 0), (26, .iload 5, 2, [], 0, 0), (28, .ireturn, 1, [], 0, 0), (29, .aload_n 0, 1, [], 0, 0), (30, .iload_n 1, 1, [], 0, 0), (31, .iload_n 2, 1, [], 0, 0), (32, .iload_n 3, 1, [], 0, 0), (33, .iload 4, 2, [], 0, 0), (35, .invokevirtual 78, 3, [], 27, 0), (38, .ifCond .ne 6, 3, [], 0, 0), (41, .bipush (-4), 2, [], 0, 0), (43, .ireturn, 1, [], 0, 0), (44, .aload_n 0, 1, [], 0, 0), (45, .iload_n 1, 1, [], 0, 0), (46, .iconst (-1), 1, [], 0, 0), (47, .invokevirtual 97, 3, [], 35, 0), (50, .aload_n 0, 1, [], 0, 0), (51, .iload_n 1, 1, [], 0, 0), (52, .iload_n 2, 1, [], 0, 0), (53, .iload_n 3, 1, [], 0, 0), (54, .iload 4, 2, [], 0, 0), (56, .invokevirtual 101, 3, [], 34, 0), (59, .aload_n 0, 1, [], 0, 0), (60, .iload_n 1, 1, [], 0, 0), (61, .iconst 1, 1, [], 0, 0), (62, .invokevirtual 97, 3, [], 35, 0), (65, .aload_n 0, 1, [], 0, 0), (66, .invokevirtual 90, 3, [], 8, 0), (69, .iconst 0, 1, [], 0, 0), (70, .ireturn, 1, [], 0, 0)])
def d_42 : MD := (⟨"RoomPlanner", "appendToOrder", "(I)V"⟩, prog_1_method_51_code, 2, none, 2, 1, 0, 0, 0, [(0, .aload_n 0, 1, [], 0, 0), (1, .getfield 127, 3, [], 14, 0), (4, .ifCond .lt 12, 3, [], 0, 0), (7, .aload_n 0, 1, [], 0, 0), (8, .getfield 127, 3, [], 14, 0), (11, .bipush 32, 2, [], 0, 0), (13, .if_icmp .lt 4, 3, [], 0, 0), (16, .return_, 1, [], 0, 0), (17, .aload_n 0, 1, [], 0, 0), (18, .getfield 44, 3, [], 11, 0), (21, .aload_n 0, 1, [], 0, 0), (22, .getfield 127, 3, [], 14, 0), (25, .iload_n 1, 1, [], 0, 0), (26, .iastore, 1, [], 0, 0), (27, .aload_n 0, 1, [], 0, 0), (28, .dup, 1, [], 0, 0), (29, .getfield 127, 3, [], 14, 0), (32, .iconst 1, 1, [], 0, 0), (33, .iadd, 1, [], 0, 0), (34, .putfield 127, 3, [], 14, 0), (37, .return_, 1, [], 0, 0)])
def d_43 : MD := (⟨"RoomPlanner", "placeStay", "(I)Z"⟩, prog_1_method_52_code, 6, some .boolean, 2, 1, 0, 3, 46, [(0, .aload_n 0, 1, [], 0, 0), (1, .iload_n 1, 1, [], 0, 0), (2, .invokevirtual 93, 3, [], 11, 0), (5, .ifCond .ne 5, 3, [], 0, 0), (8, .iconst 0, 1, [], 0, 0), (9, .ireturn, 1, [], 0, 0), (10, .aload_n 0, 1, [], 0, 0), (11, .getfield 23, 3, [], 4, 0), (14, .iload_n 1, 1, [], 0, 0), (15, .iaload, 1, [], 0, 0), (16, .istore_n 2, 1, [], 0, 0), (17, .aload_n 0, 1, [], 0, 0), (18, .iload_n 2, 1, [], 0, 0), (19, .invokevirtual 108, 3, [], 13, 0), (22, .ifCond .ne 5, 3, [], 0, 0), (25, .iconst 0, 1, [], 0, 0), (26, .ireturn, 1, [], 0, 0), (27, .aload_n 0, 1, [], 0, 0), (28, .getfield 26, 3, [], 5, 0), (31, .iload_n 1, 1, [], 0, 0), (32, .iaload, 1, [], 0, 0), (33, .istore_n 3, 1, [], 0, 0), (34, .aload_n 0, 1, [], 0, 0), (35, .getfield 29, 3, [], 6, 0), (38, .iload_n 1, 1, [], 0, 0), (39, .iaload, 1, [], 0, 0), (40, .istore 4, 2, [], 0, 0), (42, .aload_n 0, 1, [], 0, 0), (43, .getfield 16, 3, [], 2, 0), (46, .iload_n 2, 1, [], 0, 0), (47, .iaload, 1, [], 0, 0), (48, .istore 5, 2, [], 0, 0), (50, .iload 5, 2, [false, false, true], 0, 0), (52, .aload_n 0, 1, [], 0, 0), (53, .getfield 142, 3, [], 12, 0), (56, .if_icmp .ge 48, 3, [], 0, 0), (59, .iload 5, 2, [], 0, 0), (61, .bipush 24, 2, [], 0, 0), (63, .if_icmp .ge 41, 3, [], 0, 0), (66, .aload_n 0, 1, [], 0, 0), (67, .iload 5, 2, [], 0, 0), (69, .iload_n 3, 1, [], 0, 0), (70, .iload 4, 2, [], 0, 0), (72, .invokevirtual 180, 3, [], 44, 0), (75, .ifCond .eq 23, 3, [], 0, 0), (78, .aload_n 0, 1, [false, false, true], 0, 0), (79, .iload 5, 2, [], 0, 0), (81, .iload_n 1, 1, [], 0, 0), (82, .iload_n 3, 1, [], 0, 0), (83, .iload 4, 2, [], 0, 0), (85, .invokevirtual 183, 3, [], 47, 0), (88, .aload_n 0, 1, [], 0, 0), (89, .getfield 38, 3, [], 9, 0), (92, .iload_n 1, 1, [], 0, 0), (93, .iload 5, 2, [], 0, 0), (95, .iastore, 1, [], 0, 0), (96, .iconst 1, 1, [], 0, 0), (97, .ireturn, 1, [], 0, 0), (98, .iinc 5 1, 3, [], 0, 0), (101, .goto (-51), 3, [], 0, 0), (104, .iconst 0, 1, [], 0, 0), (105, .ireturn, 1, [], 0, 0)])
def d_44 : MD := (⟨"RoomPlanner", "roomIsFree", "(III)Z"⟩, prog_1_method_53_code, 6, some .boolean, 2, 3, 0, 2, 29, [(0, .aload_n 0, 1, [], 0, 0), (1, .iload_n 2, 1, [], 0, 0), (2, .iload_n 3, 1, [], 0, 0), (3, .invokevirtual 152, 3, [], 28, 0), (6, .istore 4, 2, [], 0, 0), (8, .iload_n 2, 1, [], 0, 0), (9, .istore 5, 2, [], 0, 0), (11, .iload 5, 2, [false, false, true, true], 0, 0), (13, .ifCond .lt 29, 3, [], 0, 0), (16, .iload 5, 2, [], 0, 0), (18, .iload 4, 2, [], 0, 0), (20, .if_icmp .ge 22, 3, [], 0, 0), (23, .aload_n 0, 1, [], 0, 0), (24, .iload_n 1, 1, [], 0, 0), (25, .iload 5, 2, [], 0, 0), (27, .invokevirtual 136, 3, [], 45, 0), (30, .iconst (-1), 1, [], 0, 0), (31, .if_icmp .eq 5, 3, [], 0, 0), (34, .iconst 0, 1, [], 0, 0), (35, .ireturn, 1, [], 0, 0), (36, .iinc 5 1, 3, [], 0, 0), (39, .goto (-28), 3, [], 0, 0), (42, .iconst 1, 1, [], 0, 0), (43, .ireturn, 1, [], 0, 0)])
def d_45 : MD := (⟨"RoomPlanner", "gridAt", "(II)I"⟩, prog_1_method_49_code, 3, some .int, 2, 2, 0, 1, 15, [(0, .iload_n 1, 1, [], 0, 0), (1, .ifCond .lt 17, 3, [], 0, 0), (4, .iload_n 1, 1, [], 0, 0), (5, .bipush 24, 2, [], 0, 0), (7, .if_icmp .ge 11, 3, [], 0, 0), (10, .aload_n 0, 1, [], 0, 0), (11, .iload_n 2, 1, [], 0, 0), (12, .invokevirtual 111, 3, [], 14, 0), (15, .ifCond .ne 5, 3, [], 0, 0), (18, .iconst (-1), 1, [], 0, 0), (19, .ireturn, 1, [], 0, 0), (20, .aload_n 0, 1, [], 0, 0), (21, .getfield 41, 3, [], 10, 0), (24, .aload_n 0, 1, [], 0, 0), (25, .iload_n 1, 1, [], 0, 0), (26, .iload_n 2, 1, [], 0, 0), (27, .invokevirtual 174, 3, [], 46, 0), (30, .iaload, 1, [], 0, 0), (31, .ireturn, 1, [], 0, 0)])
def d_46 : MD := (⟨"RoomPlanner", "gridIndex", "(II)I"⟩, prog_1_method_48_code, 3, some .int, 2, 2, 0, 0, 0, [(0, .iload_n 1, 1, [], 0, 0), (1, .bipush 32, 2, [], 0, 0), (3, .imul, 1, [], 0, 0), (4, .iload_n 2, 1, [], 0, 0), (5, .iadd, 1, [], 0, 0), (6, .ireturn, 1, [], 0, 0)])
def d_47 : MD := (⟨"RoomPlanner", "markRoom", "(IIII)V"⟩, prog_1_method_54_code, 7, none, 2, 4, 0, 1, 15, [(0, .iload_n 1, 1, [], 0, 0), (1, .ifCond .lt 9, 3, [], 0, 0), (4, .iload_n 1, 1, [], 0, 0), (5, .bipush 24, 2, [], 0, 0), (7, .if_icmp .lt 4, 3, [], 0, 0), (10, .return_, 1, [], 0, 0), (11, .aload_n 0, 1, [], 0, 0), (12, .iload_n 3, 1, [], 0, 0), (13, .iload 4, 2, [], 0, 0), (15, .invokevirtual 152, 3, [], 28, 0), (18, .istore 5, 2, [], 0, 0), (20, .iload_n 3, 1, [], 0, 0), (21, .istore 6, 2, [], 0, 0), (23, .iload 6, 2, [false, false, false, true, true], 0, 0), (25, .ifCond .lt 29, 3, [], 0, 0), (28, .iload 6, 2, [], 0, 0), (30, .iload 5, 2, [], 0, 0), (32, .if_icmp .ge 22, 3, [], 0, 0), (35, .aload_n 0, 1, [], 0, 0), (36, .getfield 41, 3, [], 10, 0), (39, .aload_n 0, 1, [], 0, 0), (40, .iload_n 1, 1, [], 0, 0), (41, .iload 6, 2, [], 0, 0), (43, .invokevirtual 174, 3, [], 46, 0), (46, .iload_n 2, 1, [], 0, 0), (47, .iastore, 1, [], 0, 0), (48, .iinc 6 1, 3, [], 0, 0), (51, .goto (-28), 3, [], 0, 0), (54, .return_, 1, [], 0, 0)])
def d_48 : MD := (⟨"RoomPlanner", "coversNight", "(II)Z"⟩, prog_1_method_33_code, 4, some .boolean, 2, 2, 0, 1, 13, [(0, .aload_n 0, 1, [], 0, 0), (1, .iload_n 1, 1, [], 0, 0), (2, .invokevirtual 93, 3, [], 11, 0), (5, .ifCond .ne 5, 3, [], 0, 0), (8, .iconst 0, 1, [], 0, 0), (9, .ireturn, 1, [], 0, 0), (10, .aload_n 0, 1, [], 0, 0), (11, .getfield 26, 3, [], 5, 0), (14, .iload_n 1, 1, [], 0, 0), (15, .iaload, 1, [], 0, 0), (16, .istore_n 3, 1, [], 0, 0), (17, .iload_n 2, 1, [], 0, 0), (18, .iload_n 3, 1, [], 0, 0), (19, .if_icmp .lt 19, 3, [], 0, 0), (22, .iload_n 2, 1, [], 0, 0), (23, .iload_n 3, 1, [], 0, 0), (24, .isub, 1, [], 0, 0), (25, .aload_n 0, 1, [], 0, 0), (26, .getfield 29, 3, [], 6, 0), (29, .iload_n 1, 1, [], 0, 0), (30, .iaload, 1, [], 0, 0), (31, .if_icmp .ge 7, 3, [], 0, 0), (34, .iconst 1, 1, [], 0, 0), (35, .goto 4, 3, [], 0, 0), (38, .iconst 0, 1, [], 0, 0), (39, .ireturn, 1, [], 0, 0)])
def own_P : PD := ([("RoomPlanner", 17, [("roomsOfType", "[I", (.array .int), true), ("roomsAtLeast", "[I", (.array .int), true), ("firstRoomOfType", "[I", (.array .int), true), ("slotActive", "[Z", (.array .boolean), true), ("slotType", "[I", (.array .int), true), ("slotArrive", "[I", (.array .int), true), ("slotNights", "[I", (.array .int), true), ("exactCount", "[I", (.array .int), true), ("atLeastCount", "[I", (.array .int), true), ("planRoom", "[I", (.array .int), true), ("planGrid", "[I", (.array .int), true), ("planOrder", "[I", (.array .int), true), ("totalRooms", "I", .int, false), ("activeStays", "I", .int, false), ("planOrderLength", "I", .int, false), ("planCurrent", "Z", .boolean, false), ("planUnplaced", "I", .int, false)])], [d_0, d_1, d_2, d_3, d_4, d_5, d_6, d_7, d_8, d_9, d_10, d_11, d_12, d_13, d_14, d_15, d_16, d_17, d_18, d_19, d_20, d_21, d_22, d_23, d_24, d_25, d_26, d_27, d_28, d_29, d_30, d_31, d_32, d_33, d_34, d_35, d_36, d_37, d_38, d_39, d_40, d_41, d_42, d_43, d_44, d_45, d_46, d_47, d_48], 1)
theorem hm_0 : own_P.mth[0]? = some d_0 := rfl
theorem hm_1 : own_P.mth[1]? = some d_1 := rfl
theorem hm_2 : own_P.mth[2]? = some d_2 := rfl
theorem hm_3 : own_P.mth[3]? = some d_3 := rfl
theorem hm_4 : own_P.mth[4]? = some d_4 := rfl
theorem hm_5 : own_P.mth[5]? = some d_5 := rfl
theorem hm_6 : own_P.mth[6]? = some d_6 := rfl
theorem hm_7 : own_P.mth[7]? = some d_7 := rfl
theorem hm_8 : own_P.mth[8]? = some d_8 := rfl
theorem hm_9 : own_P.mth[9]? = some d_9 := rfl
theorem hm_10 : own_P.mth[10]? = some d_10 := rfl
theorem hm_11 : own_P.mth[11]? = some d_11 := rfl
theorem hm_12 : own_P.mth[12]? = some d_12 := rfl
theorem hm_13 : own_P.mth[13]? = some d_13 := rfl
theorem hm_14 : own_P.mth[14]? = some d_14 := rfl
theorem hm_15 : own_P.mth[15]? = some d_15 := rfl
theorem hm_16 : own_P.mth[16]? = some d_16 := rfl
theorem hm_17 : own_P.mth[17]? = some d_17 := rfl
theorem hm_18 : own_P.mth[18]? = some d_18 := rfl
theorem hm_19 : own_P.mth[19]? = some d_19 := rfl
theorem hm_20 : own_P.mth[20]? = some d_20 := rfl
theorem hm_21 : own_P.mth[21]? = some d_21 := rfl
theorem hm_22 : own_P.mth[22]? = some d_22 := rfl
theorem hm_23 : own_P.mth[23]? = some d_23 := rfl
theorem hm_24 : own_P.mth[24]? = some d_24 := rfl
theorem hm_25 : own_P.mth[25]? = some d_25 := rfl
theorem hm_26 : own_P.mth[26]? = some d_26 := rfl
theorem hm_27 : own_P.mth[27]? = some d_27 := rfl
theorem hm_28 : own_P.mth[28]? = some d_28 := rfl
theorem hm_29 : own_P.mth[29]? = some d_29 := rfl
theorem hm_30 : own_P.mth[30]? = some d_30 := rfl
theorem hm_31 : own_P.mth[31]? = some d_31 := rfl
theorem hm_32 : own_P.mth[32]? = some d_32 := rfl
theorem hm_33 : own_P.mth[33]? = some d_33 := rfl
theorem hm_34 : own_P.mth[34]? = some d_34 := rfl
theorem hm_35 : own_P.mth[35]? = some d_35 := rfl
theorem hm_36 : own_P.mth[36]? = some d_36 := rfl
theorem hm_37 : own_P.mth[37]? = some d_37 := rfl
theorem hm_38 : own_P.mth[38]? = some d_38 := rfl
theorem hm_39 : own_P.mth[39]? = some d_39 := rfl
theorem hm_40 : own_P.mth[40]? = some d_40 := rfl
theorem hm_41 : own_P.mth[41]? = some d_41 := rfl
theorem hm_42 : own_P.mth[42]? = some d_42 := rfl
theorem hm_43 : own_P.mth[43]? = some d_43 := rfl
theorem hm_44 : own_P.mth[44]? = some d_44 := rfl
theorem hm_45 : own_P.mth[45]? = some d_45 := rfl
theorem hm_46 : own_P.mth[46]? = some d_46 := rfl
theorem hm_47 : own_P.mth[47]? = some d_47 := rfl
theorem hm_48 : own_P.mth[48]? = some d_48 := rfl
set_option maxRecDepth 100000 in
theorem own_chk : chk own_P = true := by decide +kernel
def own_ix : List Nat := [1, 2, 11, 13, 15, 18, 20, 22, 24, 26, 28, 30, 32, 34, 44, 50, 60, 62, 64, 5, 2, 4, 38, 2, 36, 37, 42, 2, 40, 41, 48, 2, 46, 47, 54, 2, 52, 53, 58, 2, 56, 57, 69, 2, 66, 68, 67, 73, 2, 71, 72, 77, 2, 75, 76, 82, 2, 79, 81, 80, 86, 2, 84, 85, 91, 2, 88, 90, 89, 95, 2, 93, 94, 99, 2, 97, 98, 103, 2, 101, 102, 107, 2, 105, 106, 112, 2, 109, 111, 110, 116, 2, 114, 115, 120, 2, 118, 119, 124, 2, 122, 123, 128, 2, 126, 127, 133, 2, 130, 132, 131, 138, 2, 135, 137, 136, 143, 2, 140, 142, 141, 147, 2, 145, 146, 151, 2, 149, 150, 155, 2, 153, 154, 159, 2, 157, 158, 163, 2, 161, 162, 167, 2, 165, 166, 172, 2, 169, 171, 170, 176, 2, 174, 175, 180, 2, 178, 179, 184, 2, 182, 183, 188, 2, 186, 187, 192, 191, 190, 197, 2, 194, 196, 195, 202, 2, 199, 201, 200, 207, 2, 204, 206, 205, 211, 2, 209, 210, 216, 2, 213, 215, 214, 220, 2, 218, 219, 224, 2, 222, 223, 228, 2, 226, 227, 232, 2, 230, 231, 236, 2, 234, 235, 240, 2, 238, 239, 244, 2, 242, 243, 0, 3, 139, 168, 189, 198, 212, 198, 203, 65, 78, 87, 87, 87, 108, 129, 134, 78, 193, 198, 6, 7, 8, 9, 10, 9, 12, 9, 14, 16, 17, 9, 19, 9, 21, 9, 23, 9, 25, 9, 27, 9, 29, 9, 31, 9, 33, 10, 35, 10, 35, 10, 35, 39, 45, 51, 55, 61, 63, 10, 10, 10, 12, 12, 12, 14, 14, 14, 43, 17, 19, 21, 23, 49, 25, 27, 29, 33, 31, 59, 70, 55, 74, 59, 33, 221, 63, 61, 61, 59, 17, 21, 217, 83, 19, 17, 92, 96, 100, 92, 96, 25, 104, 92, 96, 113, 117, 117, 121, 125, 92, 12, 92, 96, 27, 104, 49, 61, 144, 49, 152, 92, 96, 148, 156, 160, 125, 164, 12, 83, 19, 241, 144, 49, 152, 173, 177, 70, 17, 181, 17, 49, 49, 185, 19, 21, 23, 19, 92, 21, 23, 156, 25, 104, 27, 104, 83, 21, 83, 23, 83, 208, 70, 185, 17, 181, 49, 49, 83, 144, 152, 185, 181, 185, 70, 59, 59, 33, 59, 59, 59, 83, 19, 92, 21, 23, 14, 43, 225, 237, 29, 156, 229, 96, 31, 233, 156, 31, 233, 83, 21, 23]
set_option maxRecDepth 100000 in
theorem own_words : (wordsOf own_P).map some = own_ix.map fun k => tables_1[k]? := rfl
theorem own_in : ∀ d ∈ wordsOf own_P, d ∈ tables_1 := fun d hd => by
  have h1 : some d ∈ (wordsOf own_P).map some := List.mem_map.mpr ⟨d, hd, rfl⟩
  rw [own_words] at h1
  obtain ⟨k, -, hk⟩ := List.mem_map.mp h1
  exact List.mem_of_getElem? hk
abbrev bk0 (s_roomsOfType : List Int32) (s_roomsAtLeast : List Int32) (s_firstRoomOfType : List Int32) (s_slotActive : List Int32) (s_slotType : List Int32) (s_slotArrive : List Int32) (s_slotNights : List Int32) (s_exactCount : List Int32) (s_atLeastCount : List Int32) (s_planRoom : List Int32) (s_planGrid : List Int32) (s_planOrder : List Int32) (s_totalRooms : Int32) (s_activeStays : Int32) (s_planOrderLength : Int32) (s_planCurrent : Int32) (s_planUnplaced : Int32) (po : List ACell) : List ACell := .inl (0, [.ref 2, .ref 3, .ref 4, .ref 5, .ref 6, .ref 7, .ref 8, .ref 9, .ref 10, .ref 11, .ref 12, .ref 13, .int s_totalRooms, .int s_activeStays, .int s_planOrderLength, .int s_planCurrent, .int s_planUnplaced]) :: .inr (.inl (false, s_roomsOfType)) :: .inr (.inl (false, s_roomsAtLeast)) :: .inr (.inl (false, s_firstRoomOfType)) :: .inr (.inl (true, s_slotActive)) :: .inr (.inl (false, s_slotType)) :: .inr (.inl (false, s_slotArrive)) :: .inr (.inl (false, s_slotNights)) :: .inr (.inl (false, s_exactCount)) :: .inr (.inl (false, s_atLeastCount)) :: .inr (.inl (false, s_planRoom)) :: .inr (.inl (false, s_planGrid)) :: .inr (.inl (false, s_planOrder)) :: po
def f_clampRooms (v1 : Int32) : Option (Int32) :=
  some (if v1 < (0 : Int32) then (0 : Int32) else (if (8 : Int32) < v1 then (8 : Int32) else v1))
def f_computeRoomTables (o_roomsOfType : List Int32) (o_roomsAtLeast : List Int32) (o_firstRoomOfType : List Int32) (o_totalRooms : Int32) : Option (List Int32 × List Int32 × Int32) :=
  (rdA o_roomsOfType (0 : Int32)).bind fun x1 =>
  (rdA o_roomsOfType (1 : Int32)).bind fun x2 =>
  (rdA o_roomsOfType (2 : Int32)).bind fun x3 =>
  (wrA o_roomsAtLeast (2 : Int32) x3).bind fun A4 =>
  (wrA A4 (1 : Int32) (x2 + x3)).bind fun A5 =>
  (wrA A5 (0 : Int32) ((x1 + x2) + x3)).bind fun A6 =>
  (wrA o_firstRoomOfType (0 : Int32) (0 : Int32)).bind fun A7 =>
  (wrA A7 (1 : Int32) x1).bind fun A8 =>
  (wrA A8 (2 : Int32) (x1 + x2)).bind fun A9 =>
  some (A6, A9, ((x1 + x2) + x3))
def f_resetStays_2 : Nat → List Int32 → List Int32 → List Int32 → List Int32 → Int32 → Int32 → Option (List Int32 × List Int32 × List Int32 × List Int32 × Int32)
  | 0, _, _, _, _, _, _ => none
  | n + 1, o_slotActive, o_slotType, o_slotArrive, o_slotNights, o_activeStays, v1 =>
    if v1 < (32 : Int32) then
      (wrA o_slotActive v1 (0 : Int32)).bind fun A10 =>
      (wrA o_slotType v1 (0 : Int32)).bind fun A11 =>
      (wrA o_slotArrive v1 (0 : Int32)).bind fun A12 =>
      (wrA o_slotNights v1 (0 : Int32)).bind fun A13 =>
      f_resetStays_2 n A10 A11 A12 A13 o_activeStays (v1 + (1 : Int32))
    else
      some (o_slotActive, o_slotType, o_slotArrive, o_slotNights, (0 : Int32))
def f_resetStays (o_slotActive : List Int32) (o_slotType : List Int32) (o_slotArrive : List Int32) (o_slotNights : List Int32) (o_activeStays : Int32) : Option (List Int32 × List Int32 × List Int32 × List Int32 × Int32) :=
  f_resetStays_2 100000 o_slotActive o_slotType o_slotArrive o_slotNights o_activeStays (0 : Int32)
def f_resetCounts_2 : Nat → List Int32 → List Int32 → Int32 → Option (List Int32 × List Int32)
  | 0, _, _, _ => none
  | n + 1, o_exactCount, o_atLeastCount, v1 =>
    if v1 < (96 : Int32) then
      (wrA o_exactCount v1 (0 : Int32)).bind fun A14 =>
      (wrA o_atLeastCount v1 (0 : Int32)).bind fun A15 =>
      f_resetCounts_2 n A14 A15 (v1 + (1 : Int32))
    else
      some (o_exactCount, o_atLeastCount)
def f_resetCounts (o_exactCount : List Int32) (o_atLeastCount : List Int32) : Option (List Int32 × List Int32) :=
  f_resetCounts_2 100000 o_exactCount o_atLeastCount (0 : Int32)
def f_clearPlan_30 : Nat → List Int32 → List Int32 → List Int32 → Int32 → Int32 → Option (List Int32 × List Int32 × List Int32 × Int32)
  | 0, _, _, _, _, _ => none
  | n + 1, o_planRoom, o_planGrid, o_planOrder, o_planOrderLength, v1 =>
    if v1 < (768 : Int32) then
      (wrA o_planGrid v1 (-1 : Int32)).bind fun A18 =>
      f_clearPlan_30 n o_planRoom A18 o_planOrder o_planOrderLength (v1 + (1 : Int32))
    else
      some (o_planRoom, o_planGrid, o_planOrder, (0 : Int32))
def f_clearPlan_2 (k30 : List Int32 → List Int32 → List Int32 → Int32 → Int32 → Option (List Int32 × List Int32 × List Int32 × Int32)) : Nat → List Int32 → List Int32 → List Int32 → Int32 → Int32 → Option (List Int32 × List Int32 × List Int32 × Int32)
  | 0, _, _, _, _, _ => none
  | n + 1, o_planRoom, o_planGrid, o_planOrder, o_planOrderLength, v1 =>
    if v1 < (32 : Int32) then
      (wrA o_planRoom v1 (-1 : Int32)).bind fun A16 =>
      (wrA o_planOrder v1 (0 : Int32)).bind fun A17 =>
      f_clearPlan_2 k30 n A16 o_planGrid A17 o_planOrderLength (v1 + (1 : Int32))
    else
      k30 o_planRoom o_planGrid o_planOrder o_planOrderLength (0 : Int32)
def f_clearPlan (o_planRoom : List Int32) (o_planGrid : List Int32) (o_planOrder : List Int32) (o_planOrderLength : Int32) : Option (List Int32 × List Int32 × List Int32 × Int32) :=
  f_clearPlan_2 (f_clearPlan_30 100000) 100000 o_planRoom o_planGrid o_planOrder o_planOrderLength (0 : Int32)
def f_init (v1 : Int32) (v2 : Int32) (v3 : Int32) : Option (List Int32 × List Int32 × List Int32 × List Int32 × List Int32 × List Int32 × List Int32 × List Int32 × List Int32 × List Int32 × List Int32 × List Int32 × Int32 × Int32 × Int32 × Int32 × Int32) :=
  (f_clampRooms v1).bind fun r19 =>
  (wrA (List.replicate 3 0) (0 : Int32) r19).bind fun A20 =>
  (f_clampRooms v2).bind fun r21 =>
  (wrA A20 (1 : Int32) r21).bind fun A22 =>
  (f_clampRooms v3).bind fun r23 =>
  (wrA A22 (2 : Int32) r23).bind fun A24 =>
  (f_computeRoomTables A24 (List.replicate 3 0) (List.replicate 3 0) (0 : Int32)).bind fun (s25, s26, s27) =>
  (f_resetStays (List.replicate 32 0) (List.replicate 32 0) (List.replicate 32 0) (List.replicate 32 0) (0 : Int32)).bind fun (s28, s29, s30, s31, s32) =>
  (f_resetCounts (List.replicate 96 0) (List.replicate 96 0)).bind fun (s33, s34) =>
  (f_clearPlan (List.replicate 32 0) (List.replicate 768 0) (List.replicate 32 0) (0 : Int32)).bind fun (s35, s36, s37, s38) =>
  some (A24, s25, s26, s28, s29, s30, s31, s33, s34, s35, s36, s37, s27, s32, s38, (0 : Int32), (0 : Int32))
def f_isValidType (v1 : Int32) : Option (Int32) :=
  some (if v1 < (0 : Int32) then (0 : Int32) else (if v1 < (3 : Int32) then (1 : Int32) else (0 : Int32)))
def f_isValidNight (v1 : Int32) : Option (Int32) :=
  some (if v1 < (0 : Int32) then (0 : Int32) else (if v1 < (32 : Int32) then (1 : Int32) else (0 : Int32)))
def f_isValidLength (v1 : Int32) (v2 : Int32) : Option (Int32) :=
  some (if v2 < (1 : Int32) then (0 : Int32) else (if ((32 : Int32) - v1) < v2 then (0 : Int32) else (1 : Int32)))
def f_requestError (v1 : Int32) (v2 : Int32) (v3 : Int32) : Option (Int32) :=
  (f_isValidType v1).bind fun r39 =>
  if r39 = (0 : Int32) then
    some (-1 : Int32)
  else
    (f_isValidNight v2).bind fun r40 =>
    if r40 = (0 : Int32) then
      some (-2 : Int32)
    else
      (f_isValidLength v2 v3).bind fun r41 =>
      some (if r41 = (0 : Int32) then (-2 : Int32) else (0 : Int32))
def f_endOf (v1 : Int32) (v2 : Int32) : Option (Int32) :=
  some (if (32 : Int32) < (v1 + v2) then (32 : Int32) else (v1 + v2))
def f_countIndex (v1 : Int32) (v2 : Int32) : Option (Int32) :=
  some ((v1 * (32 : Int32)) + v2)
def f_atLeastAt (o_atLeastCount : List Int32) (v1 : Int32) (v2 : Int32) : Option (Int32) :=
  (f_isValidType v1).bind fun r42 =>
  if r42 = (0 : Int32) then
    some (0 : Int32)
  else
    (f_isValidNight v2).bind fun r43 =>
    if r43 = (0 : Int32) then
      some (0 : Int32)
    else
      (f_countIndex v1 v2).bind fun r44 =>
      (rdA o_atLeastCount r44).bind fun x45 =>
      some x45
def f_isActiveStay (o_slotActive : List Int32) (v1 : Int32) : Option (Int32) :=
  if v1 < (0 : Int32) then
    some (0 : Int32)
  else
    if v1 < (32 : Int32) then
      (rdA o_slotActive v1).bind fun x46 =>
      some (x46 &&& 1)
    else
      some (0 : Int32)
def f_coversNight (o_slotActive : List Int32) (o_slotArrive : List Int32) (o_slotNights : List Int32) (v1 : Int32) (v2 : Int32) : Option (Int32) :=
  (f_isActiveStay o_slotActive v1).bind fun r47 =>
  if r47 = (0 : Int32) then
    some (0 : Int32)
  else
    (rdA o_slotArrive v1).bind fun x48 =>
    if v2 < x48 then
      some (0 : Int32)
    else
      (rdA o_slotNights v1).bind fun x49 =>
      some (if (v2 - x48) < x49 then (1 : Int32) else (0 : Int32))
def f_exclusion (o_slotActive : List Int32) (o_slotType : List Int32) (o_slotArrive : List Int32) (o_slotNights : List Int32) (v1 : Int32) (v2 : Int32) (v3 : Int32) : Option (Int32) :=
  (f_isActiveStay o_slotActive v1).bind fun r50 =>
  if r50 = (0 : Int32) then
    some (0 : Int32)
  else
    (rdA o_slotType v1).bind fun x51 =>
    if x51 < v2 then
      some (0 : Int32)
    else
      (f_coversNight o_slotActive o_slotArrive o_slotNights v1 v3).bind fun r52 =>
      some (if r52 = (0 : Int32) then (0 : Int32) else (1 : Int32))
def f_nightFits_3 (o_roomsAtLeast : List Int32) (o_slotActive : List Int32) (o_slotType : List Int32) (o_slotArrive : List Int32) (o_slotNights : List Int32) (o_atLeastCount : List Int32) : Nat → Int32 → Int32 → Int32 → Int32 → Option (Int32)
  | 0, _, _, _, _ => none
  | n + 1, v1, v2, v3, v4 =>
    if v2 < v4 then
      some (1 : Int32)
    else
      if v4 < (3 : Int32) then
        (f_atLeastAt o_atLeastCount v4 v3).bind fun r53 =>
        (f_exclusion o_slotActive o_slotType o_slotArrive o_slotNights v1 v4 v3).bind fun r54 =>
        (rdA o_roomsAtLeast v4).bind fun x55 =>
        if x55 < ((r53 - r54) + (1 : Int32)) then
          some (0 : Int32)
        else
          f_nightFits_3 o_roomsAtLeast o_slotActive o_slotType o_slotArrive o_slotNights o_atLeastCount n v1 v2 v3 (v4 + (1 : Int32))
      else
        some (1 : Int32)
def f_nightFits (o_roomsAtLeast : List Int32) (o_slotActive : List Int32) (o_slotType : List Int32) (o_slotArrive : List Int32) (o_slotNights : List Int32) (o_atLeastCount : List Int32) (v1 : Int32) (v2 : Int32) (v3 : Int32) : Option (Int32) :=
  f_nightFits_3 o_roomsAtLeast o_slotActive o_slotType o_slotArrive o_slotNights o_atLeastCount 100000 v1 v2 v3 (0 : Int32)
def f_fitsWith_12 (o_roomsAtLeast : List Int32) (o_slotActive : List Int32) (o_slotType : List Int32) (o_slotArrive : List Int32) (o_slotNights : List Int32) (o_atLeastCount : List Int32) : Nat → Int32 → Int32 → Int32 → Int32 → Option (Int32)
  | 0, _, _, _, _ => none
  | n + 1, v1, v2, v5, v6 =>
    if v6 < (0 : Int32) then
      some (1 : Int32)
    else
      if v6 < v5 then
        (f_nightFits o_roomsAtLeast o_slotActive o_slotType o_slotArrive o_slotNights o_atLeastCount v1 v2 v6).bind fun r57 =>
        if r57 = (0 : Int32) then
          some (0 : Int32)
        else
          f_fitsWith_12 o_roomsAtLeast o_slotActive o_slotType o_slotArrive o_slotNights o_atLeastCount n v1 v2 v5 (v6 + (1 : Int32))
      else
        some (1 : Int32)
def f_fitsWith (o_roomsAtLeast : List Int32) (o_slotActive : List Int32) (o_slotType : List Int32) (o_slotArrive : List Int32) (o_slotNights : List Int32) (o_atLeastCount : List Int32) (v1 : Int32) (v2 : Int32) (v3 : Int32) (v4 : Int32) : Option (Int32) :=
  (f_endOf v3 v4).bind fun r56 =>
  f_fitsWith_12 o_roomsAtLeast o_slotActive o_slotType o_slotArrive o_slotNights o_atLeastCount 100000 v1 v2 r56 v3
def f_canBook (o_roomsAtLeast : List Int32) (o_slotActive : List Int32) (o_slotType : List Int32) (o_slotArrive : List Int32) (o_slotNights : List Int32) (o_atLeastCount : List Int32) (o_activeStays : Int32) (v1 : Int32) (v2 : Int32) (v3 : Int32) : Option (Int32) :=
  (f_requestError v1 v2 v3).bind fun r58 =>
  if r58 = (0 : Int32) then
    if o_activeStays < (32 : Int32) then
      (f_fitsWith o_roomsAtLeast o_slotActive o_slotType o_slotArrive o_slotNights o_atLeastCount (-1 : Int32) v1 v2 v3).bind fun r59 =>
      some (r59 &&& 1)
    else
      some (0 : Int32)
  else
    some (0 : Int32)
def f_lowestInactiveSlot_2 (o_slotActive : List Int32) : Nat → Int32 → Option (Int32)
  | 0, _ => none
  | n + 1, v1 =>
    if v1 < (32 : Int32) then
      (rdA o_slotActive v1).bind fun x60 =>
      if x60 = (0 : Int32) then
        some v1
      else
        f_lowestInactiveSlot_2 o_slotActive n (v1 + (1 : Int32))
    else
      some (-1 : Int32)
def f_lowestInactiveSlot (o_slotActive : List Int32) : Option (Int32) :=
  f_lowestInactiveSlot_2 o_slotActive 100000 (0 : Int32)
def f_storeStay (o_slotType : List Int32) (o_slotArrive : List Int32) (o_slotNights : List Int32) (v1 : Int32) (v2 : Int32) (v3 : Int32) (v4 : Int32) : Option (List Int32 × List Int32 × List Int32) :=
  (wrA o_slotType v1 v2).bind fun A61 =>
  (wrA o_slotArrive v1 v3).bind fun A62 =>
  (wrA o_slotNights v1 v4).bind fun A63 =>
  some (A61, A62, A63)
def f_adjustCoverage_84 (k53 : List Int32 → List Int32 → Int32 → Int32 → Int32 → Int32 → Option (List Int32 × List Int32)) (o_slotType : List Int32) (o_slotArrive : List Int32) (o_slotNights : List Int32) : Nat → List Int32 → List Int32 → Int32 → Int32 → Int32 → Int32 → Int32 → Option (List Int32 × List Int32)
  | 0, _, _, _, _, _, _, _ => none
  | n + 1, o_exactCount, o_atLeastCount, v2, v3, v5, v6, v7 =>
    if v3 < v7 then
      k53 o_exactCount o_atLeastCount v2 v3 v5 (v6 + (1 : Int32))
    else
      (f_countIndex v7 v6).bind fun r72 =>
      (rdA o_atLeastCount r72).bind fun x73 =>
      (wrA o_atLeastCount r72 (x73 + v2)).bind fun A74 =>
      f_adjustCoverage_84 k53 o_slotType o_slotArrive o_slotNights n o_exactCount A74 v2 v3 v5 v6 (v7 + (1 : Int32))
def f_adjustCoverage_53 (o_slotType : List Int32) (o_slotArrive : List Int32) (o_slotNights : List Int32) : Nat → List Int32 → List Int32 → Int32 → Int32 → Int32 → Int32 → Option (List Int32 × List Int32)
  | 0, _, _, _, _, _, _ => none
  | n + 1, o_exactCount, o_atLeastCount, v2, v3, v5, v6 =>
    if v6 < (0 : Int32) then
      some (o_exactCount, o_atLeastCount)
    else
      if v6 < v5 then
        (f_countIndex v3 v6).bind fun r69 =>
        (rdA o_exactCount r69).bind fun x70 =>
        (wrA o_exactCount r69 (x70 + v2)).bind fun A71 =>
        f_adjustCoverage_84 (f_adjustCoverage_53 o_slotType o_slotArrive o_slotNights n) o_slotType o_slotArrive o_slotNights 100000 A71 o_atLeastCount v2 v3 v5 v6 (0 : Int32)
      else
        some (o_exactCount, o_atLeastCount)
def f_adjustCoverage (o_slotType : List Int32) (o_slotArrive : List Int32) (o_slotNights : List Int32) (o_exactCount : List Int32) (o_atLeastCount : List Int32) (v1 : Int32) (v2 : Int32) : Option (List Int32 × List Int32) :=
  if v1 < (0 : Int32) then
    some (o_exactCount, o_atLeastCount)
  else
    if v1 < (32 : Int32) then
      (rdA o_slotType v1).bind fun x64 =>
      (f_isValidType x64).bind fun r65 =>
      if r65 = (0 : Int32) then
        some (o_exactCount, o_atLeastCount)
      else
        (rdA o_slotArrive v1).bind fun x66 =>
        (rdA o_slotNights v1).bind fun x67 =>
        (f_endOf x66 x67).bind fun r68 =>
        f_adjustCoverage_53 o_slotType o_slotArrive o_slotNights 100000 o_exactCount o_atLeastCount v2 x64 r68 x66
    else
      some (o_exactCount, o_atLeastCount)
def f_activateStay (o_slotActive : List Int32) (o_slotType : List Int32) (o_slotArrive : List Int32) (o_slotNights : List Int32) (o_exactCount : List Int32) (o_atLeastCount : List Int32) (o_activeStays : Int32) (v1 : Int32) (v2 : Int32) (v3 : Int32) (v4 : Int32) : Option (List Int32 × List Int32 × List Int32 × List Int32 × List Int32 × List Int32 × Int32) :=
  (f_storeStay o_slotType o_slotArrive o_slotNights v1 v2 v3 v4).bind fun (s75, s76, s77) =>
  (wrA o_slotActive v1 (1 : Int32)).bind fun A78 =>
  (f_adjustCoverage s75 s76 s77 o_exactCount o_atLeastCount v1 (1 : Int32)).bind fun (s79, s80) =>
  some (A78, s75, s76, s77, s79, s80, (o_activeStays + (1 : Int32)))
def f_discardPlan (o_planCurrent : Int32) : Option (Int32) :=
  some (0 : Int32)
def f_book (o_roomsAtLeast : List Int32) (o_slotActive : List Int32) (o_slotType : List Int32) (o_slotArrive : List Int32) (o_slotNights : List Int32) (o_exactCount : List Int32) (o_atLeastCount : List Int32) (o_activeStays : Int32) (o_planCurrent : Int32) (v1 : Int32) (v2 : Int32) (v3 : Int32) : Option (Int32 × List Int32 × List Int32 × List Int32 × List Int32 × List Int32 × List Int32 × Int32 × Int32) :=
  (f_requestError v1 v2 v3).bind fun r81 =>
  if r81 = (0 : Int32) then
    if o_activeStays < (32 : Int32) then
      (f_fitsWith o_roomsAtLeast o_slotActive o_slotType o_slotArrive o_slotNights o_atLeastCount (-1 : Int32) v1 v2 v3).bind fun r82 =>
      if r82 = (0 : Int32) then
        some ((-4 : Int32), o_slotActive, o_slotType, o_slotArrive, o_slotNights, o_exactCount, o_atLeastCount, o_activeStays, o_planCurrent)
      else
        (f_lowestInactiveSlot o_slotActive).bind fun r83 =>
        if r83 < (0 : Int32) then
          some ((-3 : Int32), o_slotActive, o_slotType, o_slotArrive, o_slotNights, o_exactCount, o_atLeastCount, o_activeStays, o_planCurrent)
        else
          (f_activateStay o_slotActive o_slotType o_slotArrive o_slotNights o_exactCount o_atLeastCount o_activeStays r83 v1 v2 v3).bind fun (s84, s85, s86, s87, s88, s89, s90) =>
          (f_discardPlan o_planCurrent).bind fun s91 =>
          some (r83, s84, s85, s86, s87, s88, s89, s90, s91)
    else
      some ((-3 : Int32), o_slotActive, o_slotType, o_slotArrive, o_slotNights, o_exactCount, o_atLeastCount, o_activeStays, o_planCurrent)
  else
    some (r81, o_slotActive, o_slotType, o_slotArrive, o_slotNights, o_exactCount, o_atLeastCount, o_activeStays, o_planCurrent)
def f_L_lowestFree_2 : Nat → Int32 → Int32 → Option (Int32)
  | 0, _, _ => none
  | n + 1, v0, v1 =>
    if v1 < (32 : Int32) then
      if ((XT.ushr v0 v1) &&& (1 : Int32)) = (0 : Int32) then
        some v1
      else
        f_L_lowestFree_2 n v0 (v1 + (1 : Int32))
    else
      some (-1 : Int32)
def f_L_lowestFree (v0 : Int32) : Option (Int32) :=
  f_L_lowestFree_2 100000 v0 (0 : Int32)
def f_stayNights (o_slotActive : List Int32) (o_slotNights : List Int32) (v1 : Int32) : Option (Int32) :=
  (f_isActiveStay o_slotActive v1).bind fun r92 =>
  if r92 = (0 : Int32) then
    some (-1 : Int32)
  else
    (rdA o_slotNights v1).bind fun x93 =>
    some x93
def f_amend (o_roomsAtLeast : List Int32) (o_slotActive : List Int32) (o_slotType : List Int32) (o_slotArrive : List Int32) (o_slotNights : List Int32) (o_exactCount : List Int32) (o_atLeastCount : List Int32) (o_planCurrent : Int32) (v1 : Int32) (v2 : Int32) (v3 : Int32) (v4 : Int32) : Option (Int32 × List Int32 × List Int32 × List Int32 × List Int32 × List Int32 × Int32) :=
  (f_isActiveStay o_slotActive v1).bind fun r94 =>
  if r94 = (0 : Int32) then
    some ((-5 : Int32), o_slotType, o_slotArrive, o_slotNights, o_exactCount, o_atLeastCount, o_planCurrent)
  else
    (f_requestError v2 v3 v4).bind fun r95 =>
    if r95 = (0 : Int32) then
      (f_fitsWith o_roomsAtLeast o_slotActive o_slotType o_slotArrive o_slotNights o_atLeastCount v1 v2 v3 v4).bind fun r96 =>
      if r96 = (0 : Int32) then
        some ((-4 : Int32), o_slotType, o_slotArrive, o_slotNights, o_exactCount, o_atLeastCount, o_planCurrent)
      else
        (f_adjustCoverage o_slotType o_slotArrive o_slotNights o_exactCount o_atLeastCount v1 (-1 : Int32)).bind fun (s97, s98) =>
        (f_storeStay o_slotType o_slotArrive o_slotNights v1 v2 v3 v4).bind fun (s99, s100, s101) =>
        (f_adjustCoverage s99 s100 s101 s97 s98 v1 (1 : Int32)).bind fun (s102, s103) =>
        (f_discardPlan o_planCurrent).bind fun s104 =>
        some ((0 : Int32), s99, s100, s101, s102, s103, s104)
    else
      some (r95, o_slotType, o_slotArrive, o_slotNights, o_exactCount, o_atLeastCount, o_planCurrent)
def f_deactivateStay (o_slotActive : List Int32) (o_slotType : List Int32) (o_slotArrive : List Int32) (o_slotNights : List Int32) (o_exactCount : List Int32) (o_atLeastCount : List Int32) (o_activeStays : Int32) (v1 : Int32) : Option (List Int32 × List Int32 × List Int32 × List Int32 × List Int32 × List Int32 × Int32) :=
  (f_adjustCoverage o_slotType o_slotArrive o_slotNights o_exactCount o_atLeastCount v1 (-1 : Int32)).bind fun (s105, s106) =>
  (wrA o_slotActive v1 (0 : Int32)).bind fun A107 =>
  (f_storeStay o_slotType o_slotArrive o_slotNights v1 (0 : Int32) (0 : Int32) (0 : Int32)).bind fun (s108, s109, s110) =>
  some (A107, s108, s109, s110, s105, s106, (o_activeStays - (1 : Int32)))
def f_cancel (o_slotActive : List Int32) (o_slotType : List Int32) (o_slotArrive : List Int32) (o_slotNights : List Int32) (o_exactCount : List Int32) (o_atLeastCount : List Int32) (o_activeStays : Int32) (o_planCurrent : Int32) (v1 : Int32) : Option (Int32 × List Int32 × List Int32 × List Int32 × List Int32 × List Int32 × List Int32 × Int32 × Int32) :=
  (f_isActiveStay o_slotActive v1).bind fun r111 =>
  if r111 = (0 : Int32) then
    some ((-5 : Int32), o_slotActive, o_slotType, o_slotArrive, o_slotNights, o_exactCount, o_atLeastCount, o_activeStays, o_planCurrent)
  else
    (f_deactivateStay o_slotActive o_slotType o_slotArrive o_slotNights o_exactCount o_atLeastCount o_activeStays v1).bind fun (s112, s113, s114, s115, s116, s117, s118) =>
    (f_discardPlan o_planCurrent).bind fun s119 =>
    some ((0 : Int32), s112, s113, s114, s115, s116, s117, s118, s119)
def f_appendToOrder (o_planOrder : List Int32) (o_planOrderLength : Int32) (v1 : Int32) : Option (List Int32 × Int32) :=
  if o_planOrderLength < (0 : Int32) then
    some (o_planOrder, o_planOrderLength)
  else
    if o_planOrderLength < (32 : Int32) then
      (wrA o_planOrder o_planOrderLength v1).bind fun A120 =>
      some (A120, (o_planOrderLength + (1 : Int32)))
    else
      some (o_planOrder, o_planOrderLength)
def f_buildOrder_15 (k7 : List Int32 → Int32 → Int32 → Option (List Int32 × Int32)) (o_slotActive : List Int32) (o_slotArrive : List Int32) : Nat → List Int32 → Int32 → Int32 → Int32 → Option (List Int32 × Int32)
  | 0, _, _, _, _ => none
  | n + 1, o_planOrder, o_planOrderLength, v1, v2 =>
    if v2 < (32 : Int32) then
      (rdA o_slotActive v2).bind fun x121 =>
      if x121 = (0 : Int32) then
        f_buildOrder_15 k7 o_slotActive o_slotArrive n o_planOrder o_planOrderLength v1 (v2 + (1 : Int32))
      else
        (rdA o_slotArrive v2).bind fun x122 =>
        if x122 = v1 then
          (f_appendToOrder o_planOrder o_planOrderLength v2).bind fun (s123, s124) =>
          f_buildOrder_15 k7 o_slotActive o_slotArrive n s123 s124 v1 (v2 + (1 : Int32))
        else
          f_buildOrder_15 k7 o_slotActive o_slotArrive n o_planOrder o_planOrderLength v1 (v2 + (1 : Int32))
    else
      k7 o_planOrder o_planOrderLength (v1 + (1 : Int32))
def f_buildOrder_7 (o_slotActive : List Int32) (o_slotArrive : List Int32) : Nat → List Int32 → Int32 → Int32 → Option (List Int32 × Int32)
  | 0, _, _, _ => none
  | n + 1, o_planOrder, o_planOrderLength, v1 =>
    if v1 < (32 : Int32) then
      f_buildOrder_15 (f_buildOrder_7 o_slotActive o_slotArrive n) o_slotActive o_slotArrive 100000 o_planOrder o_planOrderLength v1 (0 : Int32)
    else
      some (o_planOrder, o_planOrderLength)
def f_buildOrder (o_slotActive : List Int32) (o_slotArrive : List Int32) (o_planOrder : List Int32) (o_planOrderLength : Int32) : Option (List Int32 × Int32) :=
  f_buildOrder_7 o_slotActive o_slotArrive 100000 o_planOrder (0 : Int32) (0 : Int32)
def f_gridIndex (v1 : Int32) (v2 : Int32) : Option (Int32) :=
  some ((v1 * (32 : Int32)) + v2)
def f_gridAt (o_planGrid : List Int32) (v1 : Int32) (v2 : Int32) : Option (Int32) :=
  if v1 < (0 : Int32) then
    some (-1 : Int32)
  else
    if v1 < (24 : Int32) then
      (f_isValidNight v2).bind fun r125 =>
      if r125 = (0 : Int32) then
        some (-1 : Int32)
      else
        (f_gridIndex v1 v2).bind fun r126 =>
        (rdA o_planGrid r126).bind fun x127 =>
        some x127
    else
      some (-1 : Int32)
def f_roomIsFree_11 (o_planGrid : List Int32) : Nat → Int32 → Int32 → Int32 → Option (Int32)
  | 0, _, _, _ => none
  | n + 1, v1, v4, v5 =>
    if v5 < (0 : Int32) then
      some (1 : Int32)
    else
      if v5 < v4 then
        (f_gridAt o_planGrid v1 v5).bind fun r129 =>
        if r129 = (-1 : Int32) then
          f_roomIsFree_11 o_planGrid n v1 v4 (v5 + (1 : Int32))
        else
          some (0 : Int32)
      else
        some (1 : Int32)
def f_roomIsFree (o_planGrid : List Int32) (v1 : Int32) (v2 : Int32) (v3 : Int32) : Option (Int32) :=
  (f_endOf v2 v3).bind fun r128 =>
  f_roomIsFree_11 o_planGrid 100000 v1 r128 v2
def f_markRoom_23 : Nat → List Int32 → Int32 → Int32 → Int32 → Int32 → Option (List Int32)
  | 0, _, _, _, _, _ => none
  | n + 1, o_planGrid, v1, v2, v5, v6 =>
    if v6 < (0 : Int32) then
      some o_planGrid
    else
      if v6 < v5 then
        (f_gridIndex v1 v6).bind fun r131 =>
        (wrA o_planGrid r131 v2).bind fun A132 =>
        f_markRoom_23 n A132 v1 v2 v5 (v6 + (1 : Int32))
      else
        some o_planGrid
def f_markRoom (o_planGrid : List Int32) (v1 : Int32) (v2 : Int32) (v3 : Int32) (v4 : Int32) : Option (List Int32) :=
  if v1 < (0 : Int32) then
    some o_planGrid
  else
    if v1 < (24 : Int32) then
      (f_endOf v3 v4).bind fun r130 =>
      f_markRoom_23 100000 o_planGrid v1 v2 r130 v3
    else
      some o_planGrid
def f_placeStay_78 (o_firstRoomOfType : List Int32) (o_slotActive : List Int32) (o_slotType : List Int32) (o_slotArrive : List Int32) (o_slotNights : List Int32) (o_totalRooms : Int32) (o_planRoom : List Int32) (o_planGrid : List Int32) (v1 : Int32) (v3 : Int32) (v4 : Int32) (v5 : Int32) : Option (Int32 × List Int32 × List Int32) :=
  (f_markRoom o_planGrid v5 v1 v3 v4).bind fun s140 =>
  (wrA o_planRoom v1 v5).bind fun A141 =>
  some ((1 : Int32), A141, s140)
def f_placeStay_50 (k78 : List Int32 → List Int32 → Int32 → Int32 → Int32 → Int32 → Option (Int32 × List Int32 × List Int32)) (o_firstRoomOfType : List Int32) (o_slotActive : List Int32) (o_slotType : List Int32) (o_slotArrive : List Int32) (o_slotNights : List Int32) (o_totalRooms : Int32) : Nat → List Int32 → List Int32 → Int32 → Int32 → Int32 → Int32 → Option (Int32 × List Int32 × List Int32)
  | 0, _, _, _, _, _, _ => none
  | n + 1, o_planRoom, o_planGrid, v1, v3, v4, v5 =>
    if v5 < o_totalRooms then
      if v5 < (24 : Int32) then
        (f_roomIsFree o_planGrid v5 v3 v4).bind fun r139 =>
        if r139 = (0 : Int32) then
          f_placeStay_50 k78 o_firstRoomOfType o_slotActive o_slotType o_slotArrive o_slotNights o_totalRooms n o_planRoom o_planGrid v1 v3 v4 (v5 + (1 : Int32))
        else
          k78 o_planRoom o_planGrid v1 v3 v4 v5
      else
        some ((0 : Int32), o_planRoom, o_planGrid)
    else
      some ((0 : Int32), o_planRoom, o_planGrid)
def f_placeStay (o_firstRoomOfType : List Int32) (o_slotActive : List Int32) (o_slotType : List Int32) (o_slotArrive : List Int32) (o_slotNights : List Int32) (o_totalRooms : Int32) (o_planRoom : List Int32) (o_planGrid : List Int32) (v1 : Int32) : Option (Int32 × List Int32 × List Int32) :=
  (f_isActiveStay o_slotActive v1).bind fun r133 =>
  if r133 = (0 : Int32) then
    some ((0 : Int32), o_planRoom, o_planGrid)
  else
    (rdA o_slotType v1).bind fun x134 =>
    (f_isValidType x134).bind fun r135 =>
    if r135 = (0 : Int32) then
      some ((0 : Int32), o_planRoom, o_planGrid)
    else
      (rdA o_slotArrive v1).bind fun x136 =>
      (rdA o_slotNights v1).bind fun x137 =>
      (rdA o_firstRoomOfType x134).bind fun x138 =>
      f_placeStay_50 (f_placeStay_78 o_firstRoomOfType o_slotActive o_slotType o_slotArrive o_slotNights o_totalRooms) o_firstRoomOfType o_slotActive o_slotType o_slotArrive o_slotNights o_totalRooms 100000 o_planRoom o_planGrid v1 x136 x137 x138
def f_assign_58 (o_firstRoomOfType : List Int32) (o_slotActive : List Int32) (o_slotType : List Int32) (o_slotArrive : List Int32) (o_slotNights : List Int32) (o_totalRooms : Int32) (o_planRoom : List Int32) (o_planGrid : List Int32) (o_planOrder : List Int32) (o_planOrderLength : Int32) (o_planCurrent : Int32) (o_planUnplaced : Int32) (v1 : Int32) : Option (Int32 × List Int32 × List Int32 × List Int32 × Int32 × Int32 × Int32) :=
  some (v1, o_planRoom, o_planGrid, o_planOrder, o_planOrderLength, (1 : Int32), v1)
def f_assign_16 (k58 : List Int32 → List Int32 → List Int32 → Int32 → Int32 → Int32 → Int32 → Option (Int32 × List Int32 × List Int32 × List Int32 × Int32 × Int32 × Int32)) (o_firstRoomOfType : List Int32) (o_slotActive : List Int32) (o_slotType : List Int32) (o_slotArrive : List Int32) (o_slotNights : List Int32) (o_totalRooms : Int32) : Nat → List Int32 → List Int32 → List Int32 → Int32 → Int32 → Int32 → Int32 → Int32 → Option (Int32 × List Int32 × List Int32 × List Int32 × Int32 × Int32 × Int32)
  | 0, _, _, _, _, _, _, _, _ => none
  | n + 1, o_planRoom, o_planGrid, o_planOrder, o_planOrderLength, o_planCurrent, o_planUnplaced, v1, v2 =>
    if v2 < o_planOrderLength then
      if v2 < (32 : Int32) then
        (rdA o_planOrder v2).bind fun x149 =>
        (f_placeStay o_firstRoomOfType o_slotActive o_slotType o_slotArrive o_slotNights o_totalRooms o_planRoom o_planGrid x149).bind fun (r150, s151, s152) =>
        f_assign_16 k58 o_firstRoomOfType o_slotActive o_slotType o_slotArrive o_slotNights o_totalRooms n s151 s152 o_planOrder o_planOrderLength o_planCurrent o_planUnplaced (if r150 = (0 : Int32) then (v1 + (1 : Int32)) else v1) (v2 + (1 : Int32))
      else
        k58 o_planRoom o_planGrid o_planOrder o_planOrderLength o_planCurrent o_planUnplaced v1
    else
      k58 o_planRoom o_planGrid o_planOrder o_planOrderLength o_planCurrent o_planUnplaced v1
def f_assign (o_firstRoomOfType : List Int32) (o_slotActive : List Int32) (o_slotType : List Int32) (o_slotArrive : List Int32) (o_slotNights : List Int32) (o_totalRooms : Int32) (o_planRoom : List Int32) (o_planGrid : List Int32) (o_planOrder : List Int32) (o_planOrderLength : Int32) (o_planCurrent : Int32) (o_planUnplaced : Int32) : Option (Int32 × List Int32 × List Int32 × List Int32 × Int32 × Int32 × Int32) :=
  (f_discardPlan o_planCurrent).bind fun s142 =>
  (f_clearPlan o_planRoom o_planGrid o_planOrder o_planOrderLength).bind fun (s143, s144, s145, s146) =>
  (f_buildOrder o_slotActive o_slotArrive s145 s146).bind fun (s147, s148) =>
  f_assign_16 (f_assign_58 o_firstRoomOfType o_slotActive o_slotType o_slotArrive o_slotNights o_totalRooms) o_firstRoomOfType o_slotActive o_slotType o_slotArrive o_slotNights o_totalRooms 100000 s143 s144 s147 s148 s142 o_planUnplaced (0 : Int32) (0 : Int32)
def f_stayType (o_slotActive : List Int32) (o_slotType : List Int32) (v1 : Int32) : Option (Int32) :=
  (f_isActiveStay o_slotActive v1).bind fun r153 =>
  if r153 = (0 : Int32) then
    some (-1 : Int32)
  else
    (rdA o_slotType v1).bind fun x154 =>
    some x154
def f_exactAt (o_exactCount : List Int32) (v1 : Int32) (v2 : Int32) : Option (Int32) :=
  (f_isValidType v1).bind fun r155 =>
  if r155 = (0 : Int32) then
    some (0 : Int32)
  else
    (f_isValidNight v2).bind fun r156 =>
    if r156 = (0 : Int32) then
      some (0 : Int32)
    else
      (f_countIndex v1 v2).bind fun r157 =>
      (rdA o_exactCount r157).bind fun x158 =>
      some x158
def f_occupancy (o_exactCount : List Int32) (v1 : Int32) (v2 : Int32) : Option (Int32) :=
  (f_isValidType v1).bind fun r159 =>
  if r159 = (0 : Int32) then
    some (-1 : Int32)
  else
    (f_isValidNight v2).bind fun r160 =>
    if r160 = (0 : Int32) then
      some (-2 : Int32)
    else
      (f_exactAt o_exactCount v1 v2).bind fun r161 =>
      some r161
def f_roomsFrom (o_roomsAtLeast : List Int32) (v1 : Int32) : Option (Int32) :=
  (f_isValidType v1).bind fun r162 =>
  if r162 = (0 : Int32) then
    some (0 : Int32)
  else
    (rdA o_roomsAtLeast v1).bind fun x163 =>
    some x163
def f_slackOf (o_roomsAtLeast : List Int32) (o_atLeastCount : List Int32) (v1 : Int32) (v2 : Int32) : Option (Int32) :=
  (f_roomsFrom o_roomsAtLeast v1).bind fun r164 =>
  (f_atLeastAt o_atLeastCount v1 v2).bind fun r165 =>
  some (r164 - r165)
def f_minSlack_46 (o_roomsAtLeast : List Int32) (o_atLeastCount : List Int32) (v3 : Int32) : Option (Int32) :=
  some (if v3 < (0 : Int32) then (0 : Int32) else v3)
def f_minSlack_10 (k46 : Int32 → Option (Int32)) (o_roomsAtLeast : List Int32) (o_atLeastCount : List Int32) : Nat → Int32 → Int32 → Int32 → Int32 → Option (Int32)
  | 0, _, _, _, _ => none
  | n + 1, v1, v2, v3, v4 =>
    if v1 < v4 then
      k46 v3
    else
      if v4 < (3 : Int32) then
        (f_slackOf o_roomsAtLeast o_atLeastCount v4 v2).bind fun r167 =>
        f_minSlack_10 k46 o_roomsAtLeast o_atLeastCount n v1 v2 (if r167 < v3 then r167 else v3) (v4 + (1 : Int32))
      else
        k46 v3
def f_minSlack (o_roomsAtLeast : List Int32) (o_atLeastCount : List Int32) (v1 : Int32) (v2 : Int32) : Option (Int32) :=
  (f_slackOf o_roomsAtLeast o_atLeastCount (0 : Int32) v2).bind fun r166 =>
  f_minSlack_10 (f_minSlack_46 o_roomsAtLeast o_atLeastCount) o_roomsAtLeast o_atLeastCount 100000 v1 v2 r166 (1 : Int32)
def f_available (o_roomsAtLeast : List Int32) (o_atLeastCount : List Int32) (v1 : Int32) (v2 : Int32) : Option (Int32) :=
  (f_isValidType v1).bind fun r168 =>
  if r168 = (0 : Int32) then
    some (-1 : Int32)
  else
    (f_isValidNight v2).bind fun r169 =>
    if r169 = (0 : Int32) then
      some (-2 : Int32)
    else
      (f_minSlack o_roomsAtLeast o_atLeastCount v1 v2).bind fun r170 =>
      some r170
def f_activeCount (o_activeStays : Int32) : Option (Int32) :=
  some o_activeStays
def f_isAssigned (o_planCurrent : Int32) : Option (Int32) :=
  some (o_planCurrent &&& 1)
def f_stayArrive (o_slotActive : List Int32) (o_slotArrive : List Int32) (v1 : Int32) : Option (Int32) :=
  (f_isActiveStay o_slotActive v1).bind fun r171 =>
  if r171 = (0 : Int32) then
    some (-1 : Int32)
  else
    (rdA o_slotArrive v1).bind fun x172 =>
    some x172
def f_L_law_630 (kb : List Int32 → List Int32 → List Int32 → List Int32 → List Int32 → List Int32 → List Int32 → List Int32 → List Int32 → List Int32 → List Int32 → Int32 → Int32 → Int32 → Int32 → Int32 → Int32 → Int32 → Int64 → Int32 → Int32 → Int32 → Int32 → Int32 → Int32 → Option (Int32)) (scr : List Int32) (n0_roomsAtLeast : List Int32) (n0_firstRoomOfType : List Int32) (n0_slotActive : List Int32) (n0_slotType : List Int32) (n0_slotArrive : List Int32) (n0_slotNights : List Int32) (n0_exactCount : List Int32) (n0_atLeastCount : List Int32) (n0_planRoom : List Int32) (n0_planGrid : List Int32) (n0_planOrder : List Int32) (n0_totalRooms : Int32) (n0_activeStays : Int32) (n0_planOrderLength : Int32) (n0_planCurrent : Int32) (n0_planUnplaced : Int32) (v2 : Int32) (v3 : Int32) (v4 : Int64) (v6 : Int32) (v7 : Int32) (v8 : Int32) (v9 : Int32) (v10 : Int32) (v11 : Int32) (v18 : Int64) : Option (Int32) :=
  if v18 = v4 then
    (f_activeCount n0_activeStays).bind fun r236 =>
    if r236 = v3 then
      (f_isAssigned n0_planCurrent).bind fun r237 =>
      if r237 = v6 then
        if v7 < (0 : Int32) then
          kb n0_roomsAtLeast n0_firstRoomOfType n0_slotActive n0_slotType n0_slotArrive n0_slotNights n0_exactCount n0_atLeastCount n0_planRoom n0_planGrid n0_planOrder n0_totalRooms n0_activeStays n0_planOrderLength n0_planCurrent n0_planUnplaced v2 v3 v4 v6 v7 v8 v9 v10 (v11 + (5 : Int32))
        else
          (f_stayType n0_slotActive n0_slotType v7).bind fun r238 =>
          if r238 = v8 then
            (f_stayArrive n0_slotActive n0_slotArrive v7).bind fun r239 =>
            if r239 = v9 then
              (f_stayNights n0_slotActive n0_slotNights v7).bind fun r240 =>
              if r240 = v10 then
                kb n0_roomsAtLeast n0_firstRoomOfType n0_slotActive n0_slotType n0_slotArrive n0_slotNights n0_exactCount n0_atLeastCount n0_planRoom n0_planGrid n0_planOrder n0_totalRooms n0_activeStays n0_planOrderLength n0_planCurrent n0_planUnplaced v2 v3 v4 v6 v7 v8 v9 v10 (v11 + (5 : Int32))
              else
                some (0 : Int32)
            else
              some (0 : Int32)
          else
            some (0 : Int32)
      else
        some (0 : Int32)
    else
      some (0 : Int32)
  else
    some (0 : Int32)
def f_L_law_558 (kb : List Int32 → List Int32 → List Int32 → List Int32 → List Int32 → List Int32 → List Int32 → List Int32 → List Int32 → List Int32 → List Int32 → Int32 → Int32 → Int32 → Int32 → Int32 → Int32 → Int32 → Int64 → Int32 → Int32 → Int32 → Int32 → Int32 → Int32 → Int64 → Int32 → Option (Int32)) (k630 : List Int32 → List Int32 → List Int32 → List Int32 → List Int32 → List Int32 → List Int32 → List Int32 → List Int32 → List Int32 → List Int32 → Int32 → Int32 → Int32 → Int32 → Int32 → Int32 → Int32 → Int64 → Int32 → Int32 → Int32 → Int32 → Int32 → Int32 → Int64 → Option (Int32)) (scr : List Int32) (n0_roomsAtLeast : List Int32) (n0_firstRoomOfType : List Int32) (n0_slotActive : List Int32) (n0_slotType : List Int32) (n0_slotArrive : List Int32) (n0_slotNights : List Int32) (n0_exactCount : List Int32) (n0_atLeastCount : List Int32) (n0_planRoom : List Int32) (n0_planGrid : List Int32) (n0_planOrder : List Int32) (n0_totalRooms : Int32) (n0_activeStays : Int32) (n0_planOrderLength : Int32) (n0_planCurrent : Int32) (n0_planUnplaced : Int32) (v2 : Int32) (v3 : Int32) (v4 : Int64) (v6 : Int32) (v7 : Int32) (v8 : Int32) (v9 : Int32) (v10 : Int32) (v11 : Int32) (v18 : Int64) (v20 : Int32) (t0 : Int32) (t1 : Int32) : Option (Int32) :=
  if t1 = t0 then
    (f_occupancy n0_exactCount (0 : Int32) v20).bind fun r232 =>
    (f_occupancy n0_exactCount (1 : Int32) v20).bind fun r233 =>
    (f_occupancy n0_exactCount (2 : Int32) v20).bind fun r234 =>
    (f_available n0_roomsAtLeast n0_atLeastCount (0 : Int32) v20).bind fun r235 =>
    if r235 < (0 : Int32) then
      some (0 : Int32)
    else
      if (5 : Int32) < r235 then
        some (0 : Int32)
      else
        kb n0_roomsAtLeast n0_firstRoomOfType n0_slotActive n0_slotType n0_slotArrive n0_slotNights n0_exactCount n0_atLeastCount n0_planRoom n0_planGrid n0_planOrder n0_totalRooms n0_activeStays n0_planOrderLength n0_planCurrent n0_planUnplaced v2 v3 v4 v6 v7 v8 v9 v10 v11 (((v18 + r232.toInt64) + r233.toInt64) + r234.toInt64) (v20 + (1 : Int32))
  else
    some (0 : Int32)
def f_L_law_535 (kb : List Int32 → List Int32 → List Int32 → List Int32 → List Int32 → List Int32 → List Int32 → List Int32 → List Int32 → List Int32 → List Int32 → Int32 → Int32 → Int32 → Int32 → Int32 → Int32 → Int32 → Int64 → Int32 → Int32 → Int32 → Int32 → Int32 → Int32 → Int64 → Int32 → Option (Int32)) (k630 : List Int32 → List Int32 → List Int32 → List Int32 → List Int32 → List Int32 → List Int32 → List Int32 → List Int32 → List Int32 → List Int32 → Int32 → Int32 → Int32 → Int32 → Int32 → Int32 → Int32 → Int64 → Int32 → Int32 → Int32 → Int32 → Int32 → Int32 → Int64 → Option (Int32)) (scr : List Int32) (n0_roomsAtLeast : List Int32) (n0_firstRoomOfType : List Int32) (n0_slotActive : List Int32) (n0_slotType : List Int32) (n0_slotArrive : List Int32) (n0_slotNights : List Int32) (n0_exactCount : List Int32) (n0_atLeastCount : List Int32) (n0_planRoom : List Int32) (n0_planGrid : List Int32) (n0_planOrder : List Int32) (n0_totalRooms : Int32) (n0_activeStays : Int32) (n0_planOrderLength : Int32) (n0_planCurrent : Int32) (n0_planUnplaced : Int32) (v2 : Int32) (v3 : Int32) (v4 : Int64) (v6 : Int32) (v7 : Int32) (v8 : Int32) (v9 : Int32) (v10 : Int32) (v11 : Int32) (v18 : Int64) (v20 : Int32) (t0 : Int32) : Option (Int32) :=
  (f_stayType n0_slotActive n0_slotType v20).bind fun r231 =>
  f_L_law_558 kb k630 scr n0_roomsAtLeast n0_firstRoomOfType n0_slotActive n0_slotType n0_slotArrive n0_slotNights n0_exactCount n0_atLeastCount n0_planRoom n0_planGrid n0_planOrder n0_totalRooms n0_activeStays n0_planOrderLength n0_planCurrent n0_planUnplaced v2 v3 v4 v6 v7 v8 v9 v10 v11 v18 v20 (if r231 = (-1 : Int32) then (0 : Int32) else (1 : Int32)) t0
def f_L_law_514 (k630 : List Int32 → List Int32 → List Int32 → List Int32 → List Int32 → List Int32 → List Int32 → List Int32 → List Int32 → List Int32 → List Int32 → Int32 → Int32 → Int32 → Int32 → Int32 → Int32 → Int32 → Int64 → Int32 → Int32 → Int32 → Int32 → Int32 → Int32 → Int64 → Option (Int32)) (scr : List Int32) : Nat → List Int32 → List Int32 → List Int32 → List Int32 → List Int32 → List Int32 → List Int32 → List Int32 → List Int32 → List Int32 → List Int32 → Int32 → Int32 → Int32 → Int32 → Int32 → Int32 → Int32 → Int64 → Int32 → Int32 → Int32 → Int32 → Int32 → Int32 → Int64 → Int32 → Option (Int32)
  | 0, _, _, _, _, _, _, _, _, _, _, _, _, _, _, _, _, _, _, _, _, _, _, _, _, _, _, _ => none
  | n + 1, n0_roomsAtLeast, n0_firstRoomOfType, n0_slotActive, n0_slotType, n0_slotArrive, n0_slotNights, n0_exactCount, n0_atLeastCount, n0_planRoom, n0_planGrid, n0_planOrder, n0_totalRooms, n0_activeStays, n0_planOrderLength, n0_planCurrent, n0_planUnplaced, v2, v3, v4, v6, v7, v8, v9, v10, v11, v18, v20 =>
    if v20 < (32 : Int32) then
      f_L_law_535 (f_L_law_514 k630 scr n) k630 scr n0_roomsAtLeast n0_firstRoomOfType n0_slotActive n0_slotType n0_slotArrive n0_slotNights n0_exactCount n0_atLeastCount n0_planRoom n0_planGrid n0_planOrder n0_totalRooms n0_activeStays n0_planOrderLength n0_planCurrent n0_planUnplaced v2 v3 v4 v6 v7 v8 v9 v10 v11 v18 v20 (if ((XT.ushr v2 v20) &&& (1 : Int32)) = (0 : Int32) then (0 : Int32) else (1 : Int32))
    else
      k630 n0_roomsAtLeast n0_firstRoomOfType n0_slotActive n0_slotType n0_slotArrive n0_slotNights n0_exactCount n0_atLeastCount n0_planRoom n0_planGrid n0_planOrder n0_totalRooms n0_activeStays n0_planOrderLength n0_planCurrent n0_planUnplaced v2 v3 v4 v6 v7 v8 v9 v10 v11 v18
def f_L_law_155 (kb : List Int32 → List Int32 → List Int32 → List Int32 → List Int32 → List Int32 → List Int32 → List Int32 → List Int32 → List Int32 → List Int32 → Int32 → Int32 → Int32 → Int32 → Int32 → Int32 → Int32 → Int64 → Int32 → Int32 → Int32 → Int32 → Int32 → Int32 → Option (Int32)) (scr : List Int32) (n0_roomsAtLeast : List Int32) (n0_firstRoomOfType : List Int32) (n0_slotActive : List Int32) (n0_slotType : List Int32) (n0_slotArrive : List Int32) (n0_slotNights : List Int32) (n0_exactCount : List Int32) (n0_atLeastCount : List Int32) (n0_planRoom : List Int32) (n0_planGrid : List Int32) (n0_planOrder : List Int32) (n0_totalRooms : Int32) (n0_activeStays : Int32) (n0_planOrderLength : Int32) (n0_planCurrent : Int32) (n0_planUnplaced : Int32) (v2 : Int32) (v3 : Int32) (v4 : Int64) (v6 : Int32) (v7 : Int32) (v8 : Int32) (v9 : Int32) (v10 : Int32) (v11 : Int32) (v13 : Int32) (v14 : Int32) (v15 : Int32) (v19 : Int32) (t0 : Int32) (t1 : Int32) : Option (Int32) :=
  if t1 = t0 then
    if v13 = (3 : Int32) then
      if v19 = (-1 : Int32) then
        f_L_law_514 (f_L_law_630 kb scr) scr 100000 n0_roomsAtLeast n0_firstRoomOfType n0_slotActive n0_slotType n0_slotArrive n0_slotNights n0_exactCount n0_atLeastCount n0_planRoom n0_planGrid n0_planOrder n0_totalRooms n0_activeStays n0_planOrderLength n0_planCurrent n0_planUnplaced v2 v3 v4 v6 v7 v8 v9 v10 v11 (0 : Int64) (0 : Int32)
      else
        some (0 : Int32)
    else
      if ((32 : Int32) - v14) < v15 then
        if v19 = (-2 : Int32) then
          f_L_law_514 (f_L_law_630 kb scr) scr 100000 n0_roomsAtLeast n0_firstRoomOfType n0_slotActive n0_slotType n0_slotArrive n0_slotNights n0_exactCount n0_atLeastCount n0_planRoom n0_planGrid n0_planOrder n0_totalRooms n0_activeStays n0_planOrderLength n0_planCurrent n0_planUnplaced v2 v3 v4 v6 v7 v8 v9 v10 v11 (0 : Int64) (0 : Int32)
        else
          some (0 : Int32)
      else
        if v3 = (32 : Int32) then
          if v19 = (-3 : Int32) then
            f_L_law_514 (f_L_law_630 kb scr) scr 100000 n0_roomsAtLeast n0_firstRoomOfType n0_slotActive n0_slotType n0_slotArrive n0_slotNights n0_exactCount n0_atLeastCount n0_planRoom n0_planGrid n0_planOrder n0_totalRooms n0_activeStays n0_planOrderLength n0_planCurrent n0_planUnplaced v2 v3 v4 v6 v7 v8 v9 v10 v11 (0 : Int64) (0 : Int32)
          else
            some (0 : Int32)
        else
          if v19 < (0 : Int32) then
            if v19 = (-4 : Int32) then
              f_L_law_514 (f_L_law_630 kb scr) scr 100000 n0_roomsAtLeast n0_firstRoomOfType n0_slotActive n0_slotType n0_slotArrive n0_slotNights n0_exactCount n0_atLeastCount n0_planRoom n0_planGrid n0_planOrder n0_totalRooms n0_activeStays n0_planOrderLength n0_planCurrent n0_planUnplaced v2 v3 v4 v6 v7 v8 v9 v10 v11 (0 : Int64) (0 : Int32)
            else
              some (0 : Int32)
          else
            (f_L_lowestFree v2).bind fun r230 =>
            if v19 = r230 then
              f_L_law_514 (f_L_law_630 kb scr) scr 100000 n0_roomsAtLeast n0_firstRoomOfType n0_slotActive n0_slotType n0_slotArrive n0_slotNights n0_exactCount n0_atLeastCount n0_planRoom n0_planGrid n0_planOrder n0_totalRooms n0_activeStays n0_planOrderLength n0_planCurrent n0_planUnplaced (v2 ||| ((1 : Int32) <<< (v19 &&& 31))) (v3 + (1 : Int32)) (v4 + v15.toInt64) (0 : Int32) v19 v13 v14 v15 v11 (0 : Int64) (0 : Int32)
            else
              some (0 : Int32)
  else
    some (0 : Int32)
def f_L_law_112 (kb : List Int32 → List Int32 → List Int32 → List Int32 → List Int32 → List Int32 → List Int32 → List Int32 → List Int32 → List Int32 → List Int32 → Int32 → Int32 → Int32 → Int32 → Int32 → Int32 → Int32 → Int64 → Int32 → Int32 → Int32 → Int32 → Int32 → Int32 → Option (Int32)) (scr : List Int32) (n0_roomsAtLeast : List Int32) (n0_firstRoomOfType : List Int32) (n0_slotActive : List Int32) (n0_slotType : List Int32) (n0_slotArrive : List Int32) (n0_slotNights : List Int32) (n0_exactCount : List Int32) (n0_atLeastCount : List Int32) (n0_planRoom : List Int32) (n0_planGrid : List Int32) (n0_planOrder : List Int32) (n0_totalRooms : Int32) (n0_activeStays : Int32) (n0_planOrderLength : Int32) (n0_planCurrent : Int32) (n0_planUnplaced : Int32) (v2 : Int32) (v3 : Int32) (v4 : Int64) (v6 : Int32) (v7 : Int32) (v8 : Int32) (v9 : Int32) (v10 : Int32) (v11 : Int32) (v12 : Int32) (v13 : Int32) (v14 : Int32) (v15 : Int32) (v16 : Int32) (t0 : Int32) : Option (Int32) :=
  if v12 = (0 : Int32) then
    (f_canBook n0_roomsAtLeast n0_slotActive n0_slotType n0_slotArrive n0_slotNights n0_atLeastCount n0_activeStays v13 v14 v15).bind fun r220 =>
    (f_book n0_roomsAtLeast n0_slotActive n0_slotType n0_slotArrive n0_slotNights n0_exactCount n0_atLeastCount n0_activeStays n0_planCurrent v13 v14 v15).bind fun (r221, s222, s223, s224, s225, s226, s227, s228, s229) =>
    f_L_law_155 kb scr n0_roomsAtLeast n0_firstRoomOfType s222 s223 s224 s225 s226 s227 n0_planRoom n0_planGrid n0_planOrder n0_totalRooms s228 n0_planOrderLength s229 n0_planUnplaced v2 v3 v4 v6 v7 v8 v9 v10 v11 v13 v14 v15 r221 (if r221 < (0 : Int32) then (0 : Int32) else (1 : Int32)) r220
  else
    if v12 = (1 : Int32) then
      (f_stayNights n0_slotActive n0_slotNights v16).bind fun r212 =>
      (f_amend n0_roomsAtLeast n0_slotActive n0_slotType n0_slotArrive n0_slotNights n0_exactCount n0_atLeastCount n0_planCurrent v16 v13 v14 v15).bind fun (r213, s214, s215, s216, s217, s218, s219) =>
      if t0 = (0 : Int32) then
        if r213 = (-5 : Int32) then
          f_L_law_514 (f_L_law_630 kb scr) scr 100000 n0_roomsAtLeast n0_firstRoomOfType n0_slotActive s214 s215 s216 s217 s218 n0_planRoom n0_planGrid n0_planOrder n0_totalRooms n0_activeStays n0_planOrderLength s219 n0_planUnplaced v2 v3 v4 v6 v7 v8 v9 v10 v11 (0 : Int64) (0 : Int32)
        else
          some (0 : Int32)
      else
        if v13 = (3 : Int32) then
          if r213 = (-1 : Int32) then
            f_L_law_514 (f_L_law_630 kb scr) scr 100000 n0_roomsAtLeast n0_firstRoomOfType n0_slotActive s214 s215 s216 s217 s218 n0_planRoom n0_planGrid n0_planOrder n0_totalRooms n0_activeStays n0_planOrderLength s219 n0_planUnplaced v2 v3 v4 v6 v7 v8 v9 v10 v11 (0 : Int64) (0 : Int32)
          else
            some (0 : Int32)
        else
          if ((32 : Int32) - v14) < v15 then
            if r213 = (-2 : Int32) then
              f_L_law_514 (f_L_law_630 kb scr) scr 100000 n0_roomsAtLeast n0_firstRoomOfType n0_slotActive s214 s215 s216 s217 s218 n0_planRoom n0_planGrid n0_planOrder n0_totalRooms n0_activeStays n0_planOrderLength s219 n0_planUnplaced v2 v3 v4 v6 v7 v8 v9 v10 v11 (0 : Int64) (0 : Int32)
            else
              some (0 : Int32)
          else
            if r213 = (0 : Int32) then
              f_L_law_514 (f_L_law_630 kb scr) scr 100000 n0_roomsAtLeast n0_firstRoomOfType n0_slotActive s214 s215 s216 s217 s218 n0_planRoom n0_planGrid n0_planOrder n0_totalRooms n0_activeStays n0_planOrderLength s219 n0_planUnplaced v2 v3 (v4 + (v15 - r212).toInt64) (0 : Int32) v7 (if v16 = v7 then v13 else v8) (if v16 = v7 then v14 else v9) (if v16 = v7 then v15 else v10) v11 (0 : Int64) (0 : Int32)
            else
              if r213 = (-4 : Int32) then
                f_L_law_514 (f_L_law_630 kb scr) scr 100000 n0_roomsAtLeast n0_firstRoomOfType n0_slotActive s214 s215 s216 s217 s218 n0_planRoom n0_planGrid n0_planOrder n0_totalRooms n0_activeStays n0_planOrderLength s219 n0_planUnplaced v2 v3 v4 v6 v7 v8 v9 v10 v11 (0 : Int64) (0 : Int32)
              else
                some (0 : Int32)
    else
      if v12 = (2 : Int32) then
        (f_stayNights n0_slotActive n0_slotNights v16).bind fun r202 =>
        (f_cancel n0_slotActive n0_slotType n0_slotArrive n0_slotNights n0_exactCount n0_atLeastCount n0_activeStays n0_planCurrent v16).bind fun (r203, s204, s205, s206, s207, s208, s209, s210, s211) =>
        if t0 = (0 : Int32) then
          if r203 = (-5 : Int32) then
            f_L_law_514 (f_L_law_630 kb scr) scr 100000 n0_roomsAtLeast n0_firstRoomOfType s204 s205 s206 s207 s208 s209 n0_planRoom n0_planGrid n0_planOrder n0_totalRooms s210 n0_planOrderLength s211 n0_planUnplaced v2 v3 v4 v6 v7 v8 v9 v10 v11 (0 : Int64) (0 : Int32)
          else
            some (0 : Int32)
        else
          if r203 = (0 : Int32) then
            f_L_law_514 (f_L_law_630 kb scr) scr 100000 n0_roomsAtLeast n0_firstRoomOfType s204 s205 s206 s207 s208 s209 n0_planRoom n0_planGrid n0_planOrder n0_totalRooms s210 n0_planOrderLength s211 n0_planUnplaced (v2 &&& (((1 : Int32) <<< (v16 &&& 31)) ^^^ (-1 : Int32))) (v3 + (-1 : Int32)) (v4 - r202.toInt64) (0 : Int32) (if v16 = v7 then (-1 : Int32) else v7) v8 v9 v10 v11 (0 : Int64) (0 : Int32)
          else
            some (0 : Int32)
      else
        (f_assign n0_firstRoomOfType n0_slotActive n0_slotType n0_slotArrive n0_slotNights n0_totalRooms n0_planRoom n0_planGrid n0_planOrder n0_planOrderLength n0_planCurrent n0_planUnplaced).bind fun (r195, s196, s197, s198, s199, s200, s201) =>
        if r195 < (0 : Int32) then
          some (0 : Int32)
        else
          if v3 < r195 then
            some (0 : Int32)
          else
            f_L_law_514 (f_L_law_630 kb scr) scr 100000 n0_roomsAtLeast n0_firstRoomOfType n0_slotActive n0_slotType n0_slotArrive n0_slotNights n0_exactCount n0_atLeastCount s196 s197 s198 n0_totalRooms n0_activeStays s199 s200 s201 v2 v3 v4 (1 : Int32) v7 v8 v9 v10 v11 (0 : Int64) (0 : Int32)
def f_L_law_36 (scr : List Int32) : Nat → List Int32 → List Int32 → List Int32 → List Int32 → List Int32 → List Int32 → List Int32 → List Int32 → List Int32 → List Int32 → List Int32 → Int32 → Int32 → Int32 → Int32 → Int32 → Int32 → Int32 → Int64 → Int32 → Int32 → Int32 → Int32 → Int32 → Int32 → Option (Int32)
  | 0, _, _, _, _, _, _, _, _, _, _, _, _, _, _, _, _, _, _, _, _, _, _, _, _, _ => none
  | n + 1, n0_roomsAtLeast, n0_firstRoomOfType, n0_slotActive, n0_slotType, n0_slotArrive, n0_slotNights, n0_exactCount, n0_atLeastCount, n0_planRoom, n0_planGrid, n0_planOrder, n0_totalRooms, n0_activeStays, n0_planOrderLength, n0_planCurrent, n0_planUnplaced, v2, v3, v4, v6, v7, v8, v9, v10, v11 =>
    if (v11 + (4 : Int32)) < scr.length.toInt32 then
      (rdA scr v11).bind fun x190 =>
      (rdA scr (v11 + (1 : Int32))).bind fun x191 =>
      (rdA scr (v11 + (2 : Int32))).bind fun x192 =>
      (rdA scr (v11 + (3 : Int32))).bind fun x193 =>
      (rdA scr (v11 + (4 : Int32))).bind fun x194 =>
      f_L_law_112 (f_L_law_36 scr n) scr n0_roomsAtLeast n0_firstRoomOfType n0_slotActive n0_slotType n0_slotArrive n0_slotNights n0_exactCount n0_atLeastCount n0_planRoom n0_planGrid n0_planOrder n0_totalRooms n0_activeStays n0_planOrderLength n0_planCurrent n0_planUnplaced v2 v3 v4 v6 v7 v8 v9 v10 v11 (x190 &&& (3 : Int32)) (x191 &&& (3 : Int32)) (x192 &&& (31 : Int32)) ((x193 &&& (7 : Int32)) + (1 : Int32)) (x194 &&& (7 : Int32)) (if ((XT.ushr v2 (x194 &&& (7 : Int32))) &&& (1 : Int32)) = (0 : Int32) then (0 : Int32) else (1 : Int32))
    else
      some (1 : Int32)
def f_L_law (scr : List Int32) : Option (Int32) :=
  (f_init (2 : Int32) (2 : Int32) (1 : Int32)).bind fun (s173, s174, s175, s176, s177, s178, s179, s180, s181, s182, s183, s184, s185, s186, s187, s188, s189) =>
  f_L_law_36 scr 100000 s174 s175 s176 s177 s178 s179 s180 s181 s182 s183 s184 s185 s186 s187 s188 s189 (0 : Int32) (0 : Int32) (0 : Int64) (0 : Int32) (-1 : Int32) (0 : Int32) (0 : Int32) (0 : Int32) (0 : Int32)
set_option maxHeartbeats 4000000
set_option maxRecDepth 10000
theorem ok_clampRooms {o_roomsOfType : List Int32} {o_roomsAtLeast : List Int32} {o_firstRoomOfType : List Int32} {o_slotActive : List Int32} {o_slotType : List Int32} {o_slotArrive : List Int32} {o_slotNights : List Int32} {o_exactCount : List Int32} {o_atLeastCount : List Int32} {o_planRoom : List Int32} {o_planGrid : List Int32} {o_planOrder : List Int32} {o_totalRooms : Int32} {o_activeStays : Int32} {o_planOrderLength : Int32} {o_planCurrent : Int32} {o_planUnplaced : Int32} {c0 : ACell} {po : List ACell} {v1 : Int32} {res : Int32} (h : f_clampRooms v1 = some res) : OEnds own_P 2 0 [.val (.ref 1), .val (.int v1)] [] (c0 :: bk0 o_roomsOfType o_roomsAtLeast o_firstRoomOfType o_slotActive o_slotType o_slotArrive o_slotNights o_exactCount o_atLeastCount o_planRoom o_planGrid o_planOrder o_totalRooms o_activeStays o_planOrderLength o_planCurrent o_planUnplaced po) (some (.int res), (c0 :: bk0 o_roomsOfType o_roomsAtLeast o_firstRoomOfType o_slotActive o_slotType o_slotArrive o_slotNights o_exactCount o_atLeastCount o_planRoom o_planGrid o_planOrder o_totalRooms o_activeStays o_planOrderLength o_planCurrent o_planUnplaced po), 0, 0) := by
  unfold f_clampRooms at h
  refine OEnds.adv hm_2 1 (pc' := 1) (L' := [.val (.ref 1), .val (.int v1)]) (S' := [.int v1]) (H' := (c0 :: bk0 o_roomsOfType o_roomsAtLeast o_firstRoomOfType o_slotActive o_slotType o_slotArrive o_slotNights o_exactCount o_atLeastCount o_planRoom o_planGrid o_planOrder o_totalRooms o_activeStays o_planOrderLength o_planCurrent o_planUnplaced po)) rfl ?_
  by_cases hc1 : v1 < (0 : Int32)
  · simp only [if_pos hc1] at h
    refine OEnds.ifF hm_2 rfl ((tlt hc1).2.1) ?_
    refine OEnds.adv hm_2 1 (pc' := 5) (L' := [.val (.ref 1), .val (.int v1)]) (S' := [.int 0]) (H' := (c0 :: bk0 o_roomsOfType o_roomsAtLeast o_firstRoomOfType o_slotActive o_slotType o_slotArrive o_slotNights o_exactCount o_atLeastCount o_planRoom o_planGrid o_planOrder o_totalRooms o_activeStays o_planOrderLength o_planCurrent o_planUnplaced po)) rfl ?_
    cases h
    exact OEnds.iret hm_2 rfl rfl
  · simp only [if_neg hc1] at h
    refine OEnds.ifT hm_2 rfl (q := 6) rfl ((flt hc1).2.1) ?_
    refine OEnds.adv hm_2 2 (pc' := 9) (L' := [.val (.ref 1), .val (.int v1)]) (S' := [.int 8, .int v1]) (H' := (c0 :: bk0 o_roomsOfType o_roomsAtLeast o_firstRoomOfType o_slotActive o_slotType o_slotArrive o_slotNights o_exactCount o_atLeastCount o_planRoom o_planGrid o_planOrder o_totalRooms o_activeStays o_planOrderLength o_planCurrent o_planUnplaced po)) rfl ?_
    by_cases hc2 : (8 : Int32) < v1
    · simp only [if_pos hc2] at h
      refine OEnds.icmpF hm_2 rfl ((tlt hc2).2.2.2) ?_
      refine OEnds.adv hm_2 1 (pc' := 14) (L' := [.val (.ref 1), .val (.int v1)]) (S' := [.int 8]) (H' := (c0 :: bk0 o_roomsOfType o_roomsAtLeast o_firstRoomOfType o_slotActive o_slotType o_slotArrive o_slotNights o_exactCount o_atLeastCount o_planRoom o_planGrid o_planOrder o_totalRooms o_activeStays o_planOrderLength o_planCurrent o_planUnplaced po)) rfl ?_
      cases h
      exact OEnds.iret hm_2 rfl rfl
    · simp only [if_neg hc2] at h
      refine OEnds.icmpT hm_2 rfl (q := 15) rfl ((flt hc2).2.2.2) ?_
      refine OEnds.adv hm_2 1 (pc' := 16) (L' := [.val (.ref 1), .val (.int v1)]) (S' := [.int v1]) (H' := (c0 :: bk0 o_roomsOfType o_roomsAtLeast o_firstRoomOfType o_slotActive o_slotType o_slotArrive o_slotNights o_exactCount o_atLeastCount o_planRoom o_planGrid o_planOrder o_totalRooms o_activeStays o_planOrderLength o_planCurrent o_planUnplaced po)) rfl ?_
      cases h
      exact OEnds.iret hm_2 rfl rfl
theorem ok_computeRoomTables {o_roomsOfType : List Int32} {o_slotActive : List Int32} {o_slotType : List Int32} {o_slotArrive : List Int32} {o_slotNights : List Int32} {o_exactCount : List Int32} {o_atLeastCount : List Int32} {o_planRoom : List Int32} {o_planGrid : List Int32} {o_planOrder : List Int32} {o_activeStays : Int32} {o_planOrderLength : Int32} {o_planCurrent : Int32} {o_planUnplaced : Int32} {c0 : ACell} {po : List ACell} {o_roomsAtLeast : List Int32} {o_firstRoomOfType : List Int32} {o_totalRooms : Int32} {w_o_roomsAtLeast : List Int32} {w_o_firstRoomOfType : List Int32} {w_o_totalRooms : Int32} (h : f_computeRoomTables o_roomsOfType o_roomsAtLeast o_firstRoomOfType o_totalRooms = some (w_o_roomsAtLeast, w_o_firstRoomOfType, w_o_totalRooms)) : OEnds own_P 3 0 [.val (.ref 1), .unset, .unset, .unset] [] (c0 :: bk0 o_roomsOfType o_roomsAtLeast o_firstRoomOfType o_slotActive o_slotType o_slotArrive o_slotNights o_exactCount o_atLeastCount o_planRoom o_planGrid o_planOrder o_totalRooms o_activeStays o_planOrderLength o_planCurrent o_planUnplaced po) (none, (c0 :: bk0 o_roomsOfType w_o_roomsAtLeast w_o_firstRoomOfType o_slotActive o_slotType o_slotArrive o_slotNights o_exactCount o_atLeastCount o_planRoom o_planGrid o_planOrder w_o_totalRooms o_activeStays o_planOrderLength o_planCurrent o_planUnplaced po), 0, 0) := by
  unfold f_computeRoomTables at h
  refine OEnds.adv hm_3 3 (pc' := 5) (L' := [.val (.ref 1), .unset, .unset, .unset]) (S' := [.int 0, .ref 2]) (H' := (c0 :: bk0 o_roomsOfType o_roomsAtLeast o_firstRoomOfType o_slotActive o_slotType o_slotArrive o_slotNights o_exactCount o_atLeastCount o_planRoom o_planGrid o_planOrder o_totalRooms o_activeStays o_planOrderLength o_planCurrent o_planUnplaced po)) rfl ?_
  obtain ⟨x1, hx1, h⟩ := bnd h
  refine OEnds.plain hm_3 rfl rfl (x_iaload rfl hx1) ?_
  refine OEnds.adv hm_3 4 (pc' := 12) (L' := [.val (.ref 1), .val (.int x1), .unset, .unset]) (S' := [.int 1, .ref 2]) (H' := (c0 :: bk0 o_roomsOfType o_roomsAtLeast o_firstRoomOfType o_slotActive o_slotType o_slotArrive o_slotNights o_exactCount o_atLeastCount o_planRoom o_planGrid o_planOrder o_totalRooms o_activeStays o_planOrderLength o_planCurrent o_planUnplaced po)) rfl ?_
  obtain ⟨x2, hx2, h⟩ := bnd h
  refine OEnds.plain hm_3 rfl rfl (x_iaload rfl hx2) ?_
  refine OEnds.adv hm_3 4 (pc' := 19) (L' := [.val (.ref 1), .val (.int x1), .val (.int x2), .unset]) (S' := [.int 2, .ref 2]) (H' := (c0 :: bk0 o_roomsOfType o_roomsAtLeast o_firstRoomOfType o_slotActive o_slotType o_slotArrive o_slotNights o_exactCount o_atLeastCount o_planRoom o_planGrid o_planOrder o_totalRooms o_activeStays o_planOrderLength o_planCurrent o_planUnplaced po)) rfl ?_
  obtain ⟨x3, hx3, h⟩ := bnd h
  refine OEnds.plain hm_3 rfl rfl (x_iaload rfl hx3) ?_
  refine OEnds.adv hm_3 5 (pc' := 27) (L' := [.val (.ref 1), .val (.int x1), .val (.int x2), .val (.int x3)]) (S' := [.int x3, .int 2, .ref 3]) (H' := (c0 :: bk0 o_roomsOfType o_roomsAtLeast o_firstRoomOfType o_slotActive o_slotType o_slotArrive o_slotNights o_exactCount o_atLeastCount o_planRoom o_planGrid o_planOrder o_totalRooms o_activeStays o_planOrderLength o_planCurrent o_planUnplaced po)) rfl ?_
  obtain ⟨A4, hA4, h⟩ := bnd h
  refine OEnds.plain hm_3 rfl rfl (x_iastore rfl (Nat.le_of_ble_eq_true rfl) hA4) ?_
  refine OEnds.adv hm_3 6 (pc' := 36) (L' := [.val (.ref 1), .val (.int x1), .val (.int x2), .val (.int x3)]) (S' := [.int (x2 + x3), .int 1, .ref 3]) (H' := (c0 :: bk0 o_roomsOfType A4 o_firstRoomOfType o_slotActive o_slotType o_slotArrive o_slotNights o_exactCount o_atLeastCount o_planRoom o_planGrid o_planOrder o_totalRooms o_activeStays o_planOrderLength o_planCurrent o_planUnplaced po)) rfl ?_
  obtain ⟨A5, hA5, h⟩ := bnd h
  refine OEnds.plain hm_3 rfl rfl (x_iastore rfl (Nat.le_of_ble_eq_true rfl) hA5) ?_
  refine OEnds.adv hm_3 8 (pc' := 47) (L' := [.val (.ref 1), .val (.int x1), .val (.int x2), .val (.int x3)]) (S' := [.int ((x1 + x2) + x3), .int 0, .ref 3]) (H' := (c0 :: bk0 o_roomsOfType A5 o_firstRoomOfType o_slotActive o_slotType o_slotArrive o_slotNights o_exactCount o_atLeastCount o_planRoom o_planGrid o_planOrder o_totalRooms o_activeStays o_planOrderLength o_planCurrent o_planUnplaced po)) rfl ?_
  obtain ⟨A6, hA6, h⟩ := bnd h
  refine OEnds.plain hm_3 rfl rfl (x_iastore rfl (Nat.le_of_ble_eq_true rfl) hA6) ?_
  refine OEnds.adv hm_3 4 (pc' := 54) (L' := [.val (.ref 1), .val (.int x1), .val (.int x2), .val (.int x3)]) (S' := [.int 0, .int 0, .ref 4]) (H' := (c0 :: bk0 o_roomsOfType A6 o_firstRoomOfType o_slotActive o_slotType o_slotArrive o_slotNights o_exactCount o_atLeastCount o_planRoom o_planGrid o_planOrder o_totalRooms o_activeStays o_planOrderLength o_planCurrent o_planUnplaced po)) rfl ?_
  obtain ⟨A7, hA7, h⟩ := bnd h
  refine OEnds.plain hm_3 rfl rfl (x_iastore rfl (Nat.le_of_ble_eq_true rfl) hA7) ?_
  refine OEnds.adv hm_3 4 (pc' := 61) (L' := [.val (.ref 1), .val (.int x1), .val (.int x2), .val (.int x3)]) (S' := [.int x1, .int 1, .ref 4]) (H' := (c0 :: bk0 o_roomsOfType A6 A7 o_slotActive o_slotType o_slotArrive o_slotNights o_exactCount o_atLeastCount o_planRoom o_planGrid o_planOrder o_totalRooms o_activeStays o_planOrderLength o_planCurrent o_planUnplaced po)) rfl ?_
  obtain ⟨A8, hA8, h⟩ := bnd h
  refine OEnds.plain hm_3 rfl rfl (x_iastore rfl (Nat.le_of_ble_eq_true rfl) hA8) ?_
  refine OEnds.adv hm_3 6 (pc' := 70) (L' := [.val (.ref 1), .val (.int x1), .val (.int x2), .val (.int x3)]) (S' := [.int (x1 + x2), .int 2, .ref 4]) (H' := (c0 :: bk0 o_roomsOfType A6 A8 o_slotActive o_slotType o_slotArrive o_slotNights o_exactCount o_atLeastCount o_planRoom o_planGrid o_planOrder o_totalRooms o_activeStays o_planOrderLength o_planCurrent o_planUnplaced po)) rfl ?_
  obtain ⟨A9, hA9, h⟩ := bnd h
  refine OEnds.plain hm_3 rfl rfl (x_iastore rfl (Nat.le_of_ble_eq_true rfl) hA9) ?_
  refine OEnds.adv hm_3 7 (pc' := 80) (L' := [.val (.ref 1), .val (.int x1), .val (.int x2), .val (.int x3)]) (S' := []) (H' := (c0 :: bk0 o_roomsOfType A6 A9 o_slotActive o_slotType o_slotArrive o_slotNights o_exactCount o_atLeastCount o_planRoom o_planGrid o_planOrder ((x1 + x2) + x3) o_activeStays o_planOrderLength o_planCurrent o_planUnplaced po)) rfl ?_
  cases h
  exact OEnds.vret hm_3 rfl rfl
theorem ok_resetStays_2 {o_roomsOfType : List Int32} {o_roomsAtLeast : List Int32} {o_firstRoomOfType : List Int32} {o_exactCount : List Int32} {o_atLeastCount : List Int32} {o_planRoom : List Int32} {o_planGrid : List Int32} {o_planOrder : List Int32} {o_totalRooms : Int32} {o_planOrderLength : Int32} {o_planCurrent : Int32} {o_planUnplaced : Int32} {c0 : ACell} {po : List ACell} : ∀ (n : Nat), ∀ {o_slotActive : List Int32} {o_slotType : List Int32} {o_slotArrive : List Int32} {o_slotNights : List Int32} {o_activeStays : Int32} {v1 : Int32} {w_o_slotActive : List Int32} {w_o_slotType : List Int32} {w_o_slotArrive : List Int32} {w_o_slotNights : List Int32} {w_o_activeStays : Int32}, f_resetStays_2 n o_slotActive o_slotType o_slotArrive o_slotNights o_activeStays v1 = some (w_o_slotActive, w_o_slotType, w_o_slotArrive, w_o_slotNights, w_o_activeStays) → OEnds own_P 4 2 [.val (.ref 1), .val (.int v1)] [] (c0 :: bk0 o_roomsOfType o_roomsAtLeast o_firstRoomOfType o_slotActive o_slotType o_slotArrive o_slotNights o_exactCount o_atLeastCount o_planRoom o_planGrid o_planOrder o_totalRooms o_activeStays o_planOrderLength o_planCurrent o_planUnplaced po) (none, (c0 :: bk0 o_roomsOfType o_roomsAtLeast o_firstRoomOfType w_o_slotActive w_o_slotType w_o_slotArrive w_o_slotNights o_exactCount o_atLeastCount o_planRoom o_planGrid o_planOrder o_totalRooms w_o_activeStays o_planOrderLength o_planCurrent o_planUnplaced po), 0, 0) := by
  intro n
  induction n with
  | zero => intro o_slotActive o_slotType o_slotArrive o_slotNights o_activeStays v1 w_o_slotActive w_o_slotType w_o_slotArrive w_o_slotNights w_o_activeStays h; cases h
  | succ n ih =>
    intro o_slotActive o_slotType o_slotArrive o_slotNights o_activeStays v1 w_o_slotActive w_o_slotType w_o_slotArrive w_o_slotNights w_o_activeStays h
    unfold f_resetStays_2 at h
    refine OEnds.adv hm_4 2 (pc' := 5) (L' := [.val (.ref 1), .val (.int v1)]) (S' := [.int 32, .int v1]) (H' := (c0 :: bk0 o_roomsOfType o_roomsAtLeast o_firstRoomOfType o_slotActive o_slotType o_slotArrive o_slotNights o_exactCount o_atLeastCount o_planRoom o_planGrid o_planOrder o_totalRooms o_activeStays o_planOrderLength o_planCurrent o_planUnplaced po)) rfl ?_
    by_cases hc3 : v1 < (32 : Int32)
    · simp only [if_pos hc3] at h
      refine OEnds.icmpF hm_4 rfl ((tlt hc3).2.1) ?_
      refine OEnds.adv hm_4 4 (pc' := 14) (L' := [.val (.ref 1), .val (.int v1)]) (S' := [.int 0, .int v1, .ref 5]) (H' := (c0 :: bk0 o_roomsOfType o_roomsAtLeast o_firstRoomOfType o_slotActive o_slotType o_slotArrive o_slotNights o_exactCount o_atLeastCount o_planRoom o_planGrid o_planOrder o_totalRooms o_activeStays o_planOrderLength o_planCurrent o_planUnplaced po)) rfl ?_
      obtain ⟨A10, hA10, h⟩ := bnd h
      refine OEnds.plain hm_4 rfl rfl (x_bastore rfl (Nat.le_of_ble_eq_true rfl) hA10) ?_
      refine OEnds.adv hm_4 4 (pc' := 21) (L' := [.val (.ref 1), .val (.int v1)]) (S' := [.int 0, .int v1, .ref 6]) (H' := (c0 :: bk0 o_roomsOfType o_roomsAtLeast o_firstRoomOfType A10 o_slotType o_slotArrive o_slotNights o_exactCount o_atLeastCount o_planRoom o_planGrid o_planOrder o_totalRooms o_activeStays o_planOrderLength o_planCurrent o_planUnplaced po)) rfl ?_
      obtain ⟨A11, hA11, h⟩ := bnd h
      refine OEnds.plain hm_4 rfl rfl (x_iastore rfl (Nat.le_of_ble_eq_true rfl) hA11) ?_
      refine OEnds.adv hm_4 4 (pc' := 28) (L' := [.val (.ref 1), .val (.int v1)]) (S' := [.int 0, .int v1, .ref 7]) (H' := (c0 :: bk0 o_roomsOfType o_roomsAtLeast o_firstRoomOfType A10 A11 o_slotArrive o_slotNights o_exactCount o_atLeastCount o_planRoom o_planGrid o_planOrder o_totalRooms o_activeStays o_planOrderLength o_planCurrent o_planUnplaced po)) rfl ?_
      obtain ⟨A12, hA12, h⟩ := bnd h
      refine OEnds.plain hm_4 rfl rfl (x_iastore rfl (Nat.le_of_ble_eq_true rfl) hA12) ?_
      refine OEnds.adv hm_4 4 (pc' := 35) (L' := [.val (.ref 1), .val (.int v1)]) (S' := [.int 0, .int v1, .ref 8]) (H' := (c0 :: bk0 o_roomsOfType o_roomsAtLeast o_firstRoomOfType A10 A11 A12 o_slotNights o_exactCount o_atLeastCount o_planRoom o_planGrid o_planOrder o_totalRooms o_activeStays o_planOrderLength o_planCurrent o_planUnplaced po)) rfl ?_
      obtain ⟨A13, hA13, h⟩ := bnd h
      refine OEnds.plain hm_4 rfl rfl (x_iastore rfl (Nat.le_of_ble_eq_true rfl) hA13) ?_
      refine OEnds.adv hm_4 2 (pc' := 2) (L' := [.val (.ref 1), .val (.int (v1 + (1 : Int32)))]) (S' := []) (H' := (c0 :: bk0 o_roomsOfType o_roomsAtLeast o_firstRoomOfType A10 A11 A12 A13 o_exactCount o_atLeastCount o_planRoom o_planGrid o_planOrder o_totalRooms o_activeStays o_planOrderLength o_planCurrent o_planUnplaced po)) rfl ?_
      exact ih h
    · simp only [if_neg hc3] at h
      refine OEnds.icmpT hm_4 rfl (q := 42) rfl ((flt hc3).2.1) ?_
      refine OEnds.adv hm_4 3 (pc' := 47) (L' := [.val (.ref 1), .val (.int v1)]) (S' := []) (H' := (c0 :: bk0 o_roomsOfType o_roomsAtLeast o_firstRoomOfType o_slotActive o_slotType o_slotArrive o_slotNights o_exactCount o_atLeastCount o_planRoom o_planGrid o_planOrder o_totalRooms 0 o_planOrderLength o_planCurrent o_planUnplaced po)) rfl ?_
      cases h
      exact OEnds.vret hm_4 rfl rfl
theorem ok_resetStays {o_roomsOfType : List Int32} {o_roomsAtLeast : List Int32} {o_firstRoomOfType : List Int32} {o_exactCount : List Int32} {o_atLeastCount : List Int32} {o_planRoom : List Int32} {o_planGrid : List Int32} {o_planOrder : List Int32} {o_totalRooms : Int32} {o_planOrderLength : Int32} {o_planCurrent : Int32} {o_planUnplaced : Int32} {c0 : ACell} {po : List ACell} {o_slotActive : List Int32} {o_slotType : List Int32} {o_slotArrive : List Int32} {o_slotNights : List Int32} {o_activeStays : Int32} {w_o_slotActive : List Int32} {w_o_slotType : List Int32} {w_o_slotArrive : List Int32} {w_o_slotNights : List Int32} {w_o_activeStays : Int32} (h : f_resetStays o_slotActive o_slotType o_slotArrive o_slotNights o_activeStays = some (w_o_slotActive, w_o_slotType, w_o_slotArrive, w_o_slotNights, w_o_activeStays)) : OEnds own_P 4 0 [.val (.ref 1), .unset] [] (c0 :: bk0 o_roomsOfType o_roomsAtLeast o_firstRoomOfType o_slotActive o_slotType o_slotArrive o_slotNights o_exactCount o_atLeastCount o_planRoom o_planGrid o_planOrder o_totalRooms o_activeStays o_planOrderLength o_planCurrent o_planUnplaced po) (none, (c0 :: bk0 o_roomsOfType o_roomsAtLeast o_firstRoomOfType w_o_slotActive w_o_slotType w_o_slotArrive w_o_slotNights o_exactCount o_atLeastCount o_planRoom o_planGrid o_planOrder o_totalRooms w_o_activeStays o_planOrderLength o_planCurrent o_planUnplaced po), 0, 0) := by
  unfold f_resetStays at h
  refine OEnds.adv hm_4 2 (pc' := 2) (L' := [.val (.ref 1), .val (.int 0)]) (S' := []) (H' := (c0 :: bk0 o_roomsOfType o_roomsAtLeast o_firstRoomOfType o_slotActive o_slotType o_slotArrive o_slotNights o_exactCount o_atLeastCount o_planRoom o_planGrid o_planOrder o_totalRooms o_activeStays o_planOrderLength o_planCurrent o_planUnplaced po)) rfl ?_
  exact ok_resetStays_2 100000 h
theorem ok_resetCounts_2 {o_roomsOfType : List Int32} {o_roomsAtLeast : List Int32} {o_firstRoomOfType : List Int32} {o_slotActive : List Int32} {o_slotType : List Int32} {o_slotArrive : List Int32} {o_slotNights : List Int32} {o_planRoom : List Int32} {o_planGrid : List Int32} {o_planOrder : List Int32} {o_totalRooms : Int32} {o_activeStays : Int32} {o_planOrderLength : Int32} {o_planCurrent : Int32} {o_planUnplaced : Int32} {c0 : ACell} {po : List ACell} : ∀ (n : Nat), ∀ {o_exactCount : List Int32} {o_atLeastCount : List Int32} {v1 : Int32} {w_o_exactCount : List Int32} {w_o_atLeastCount : List Int32}, f_resetCounts_2 n o_exactCount o_atLeastCount v1 = some (w_o_exactCount, w_o_atLeastCount) → OEnds own_P 5 2 [.val (.ref 1), .val (.int v1)] [] (c0 :: bk0 o_roomsOfType o_roomsAtLeast o_firstRoomOfType o_slotActive o_slotType o_slotArrive o_slotNights o_exactCount o_atLeastCount o_planRoom o_planGrid o_planOrder o_totalRooms o_activeStays o_planOrderLength o_planCurrent o_planUnplaced po) (none, (c0 :: bk0 o_roomsOfType o_roomsAtLeast o_firstRoomOfType o_slotActive o_slotType o_slotArrive o_slotNights w_o_exactCount w_o_atLeastCount o_planRoom o_planGrid o_planOrder o_totalRooms o_activeStays o_planOrderLength o_planCurrent o_planUnplaced po), 0, 0) := by
  intro n
  induction n with
  | zero => intro o_exactCount o_atLeastCount v1 w_o_exactCount w_o_atLeastCount h; cases h
  | succ n ih =>
    intro o_exactCount o_atLeastCount v1 w_o_exactCount w_o_atLeastCount h
    unfold f_resetCounts_2 at h
    refine OEnds.adv hm_5 2 (pc' := 5) (L' := [.val (.ref 1), .val (.int v1)]) (S' := [.int 96, .int v1]) (H' := (c0 :: bk0 o_roomsOfType o_roomsAtLeast o_firstRoomOfType o_slotActive o_slotType o_slotArrive o_slotNights o_exactCount o_atLeastCount o_planRoom o_planGrid o_planOrder o_totalRooms o_activeStays o_planOrderLength o_planCurrent o_planUnplaced po)) rfl ?_
    by_cases hc4 : v1 < (96 : Int32)
    · simp only [if_pos hc4] at h
      refine OEnds.icmpF hm_5 rfl ((tlt hc4).2.1) ?_
      refine OEnds.adv hm_5 4 (pc' := 14) (L' := [.val (.ref 1), .val (.int v1)]) (S' := [.int 0, .int v1, .ref 9]) (H' := (c0 :: bk0 o_roomsOfType o_roomsAtLeast o_firstRoomOfType o_slotActive o_slotType o_slotArrive o_slotNights o_exactCount o_atLeastCount o_planRoom o_planGrid o_planOrder o_totalRooms o_activeStays o_planOrderLength o_planCurrent o_planUnplaced po)) rfl ?_
      obtain ⟨A14, hA14, h⟩ := bnd h
      refine OEnds.plain hm_5 rfl rfl (x_iastore rfl (Nat.le_of_ble_eq_true rfl) hA14) ?_
      refine OEnds.adv hm_5 4 (pc' := 21) (L' := [.val (.ref 1), .val (.int v1)]) (S' := [.int 0, .int v1, .ref 10]) (H' := (c0 :: bk0 o_roomsOfType o_roomsAtLeast o_firstRoomOfType o_slotActive o_slotType o_slotArrive o_slotNights A14 o_atLeastCount o_planRoom o_planGrid o_planOrder o_totalRooms o_activeStays o_planOrderLength o_planCurrent o_planUnplaced po)) rfl ?_
      obtain ⟨A15, hA15, h⟩ := bnd h
      refine OEnds.plain hm_5 rfl rfl (x_iastore rfl (Nat.le_of_ble_eq_true rfl) hA15) ?_
      refine OEnds.adv hm_5 2 (pc' := 2) (L' := [.val (.ref 1), .val (.int (v1 + (1 : Int32)))]) (S' := []) (H' := (c0 :: bk0 o_roomsOfType o_roomsAtLeast o_firstRoomOfType o_slotActive o_slotType o_slotArrive o_slotNights A14 A15 o_planRoom o_planGrid o_planOrder o_totalRooms o_activeStays o_planOrderLength o_planCurrent o_planUnplaced po)) rfl ?_
      exact ih h
    · simp only [if_neg hc4] at h
      refine OEnds.icmpT hm_5 rfl (q := 28) rfl ((flt hc4).2.1) ?_
      show OEnds own_P 5 28 [.val (.ref 1), .val (.int v1)] [] (c0 :: bk0 o_roomsOfType o_roomsAtLeast o_firstRoomOfType o_slotActive o_slotType o_slotArrive o_slotNights o_exactCount o_atLeastCount o_planRoom o_planGrid o_planOrder o_totalRooms o_activeStays o_planOrderLength o_planCurrent o_planUnplaced po) _
      cases h
      exact OEnds.vret hm_5 rfl rfl
theorem ok_resetCounts {o_roomsOfType : List Int32} {o_roomsAtLeast : List Int32} {o_firstRoomOfType : List Int32} {o_slotActive : List Int32} {o_slotType : List Int32} {o_slotArrive : List Int32} {o_slotNights : List Int32} {o_planRoom : List Int32} {o_planGrid : List Int32} {o_planOrder : List Int32} {o_totalRooms : Int32} {o_activeStays : Int32} {o_planOrderLength : Int32} {o_planCurrent : Int32} {o_planUnplaced : Int32} {c0 : ACell} {po : List ACell} {o_exactCount : List Int32} {o_atLeastCount : List Int32} {w_o_exactCount : List Int32} {w_o_atLeastCount : List Int32} (h : f_resetCounts o_exactCount o_atLeastCount = some (w_o_exactCount, w_o_atLeastCount)) : OEnds own_P 5 0 [.val (.ref 1), .unset] [] (c0 :: bk0 o_roomsOfType o_roomsAtLeast o_firstRoomOfType o_slotActive o_slotType o_slotArrive o_slotNights o_exactCount o_atLeastCount o_planRoom o_planGrid o_planOrder o_totalRooms o_activeStays o_planOrderLength o_planCurrent o_planUnplaced po) (none, (c0 :: bk0 o_roomsOfType o_roomsAtLeast o_firstRoomOfType o_slotActive o_slotType o_slotArrive o_slotNights w_o_exactCount w_o_atLeastCount o_planRoom o_planGrid o_planOrder o_totalRooms o_activeStays o_planOrderLength o_planCurrent o_planUnplaced po), 0, 0) := by
  unfold f_resetCounts at h
  refine OEnds.adv hm_5 2 (pc' := 2) (L' := [.val (.ref 1), .val (.int 0)]) (S' := []) (H' := (c0 :: bk0 o_roomsOfType o_roomsAtLeast o_firstRoomOfType o_slotActive o_slotType o_slotArrive o_slotNights o_exactCount o_atLeastCount o_planRoom o_planGrid o_planOrder o_totalRooms o_activeStays o_planOrderLength o_planCurrent o_planUnplaced po)) rfl ?_
  exact ok_resetCounts_2 100000 h
theorem ok_clearPlan_30 {o_roomsOfType : List Int32} {o_roomsAtLeast : List Int32} {o_firstRoomOfType : List Int32} {o_slotActive : List Int32} {o_slotType : List Int32} {o_slotArrive : List Int32} {o_slotNights : List Int32} {o_exactCount : List Int32} {o_atLeastCount : List Int32} {o_totalRooms : Int32} {o_activeStays : Int32} {o_planCurrent : Int32} {o_planUnplaced : Int32} {c0 : ACell} {po : List ACell} : ∀ (n : Nat), ∀ {o_planRoom : List Int32} {o_planGrid : List Int32} {o_planOrder : List Int32} {o_planOrderLength : Int32} {v1 : Int32} {w_o_planRoom : List Int32} {w_o_planGrid : List Int32} {w_o_planOrder : List Int32} {w_o_planOrderLength : Int32}, f_clearPlan_30 n o_planRoom o_planGrid o_planOrder o_planOrderLength v1 = some (w_o_planRoom, w_o_planGrid, w_o_planOrder, w_o_planOrderLength) → OEnds own_P 6 30 [.val (.ref 1), .val (.int v1)] [] (c0 :: bk0 o_roomsOfType o_roomsAtLeast o_firstRoomOfType o_slotActive o_slotType o_slotArrive o_slotNights o_exactCount o_atLeastCount o_planRoom o_planGrid o_planOrder o_totalRooms o_activeStays o_planOrderLength o_planCurrent o_planUnplaced po) (none, (c0 :: bk0 o_roomsOfType o_roomsAtLeast o_firstRoomOfType o_slotActive o_slotType o_slotArrive o_slotNights o_exactCount o_atLeastCount w_o_planRoom w_o_planGrid w_o_planOrder o_totalRooms o_activeStays w_o_planOrderLength o_planCurrent o_planUnplaced po), 0, 0) := by
  intro n
  induction n with
  | zero => intro o_planRoom o_planGrid o_planOrder o_planOrderLength v1 w_o_planRoom w_o_planGrid w_o_planOrder w_o_planOrderLength h; cases h
  | succ n ih =>
    intro o_planRoom o_planGrid o_planOrder o_planOrderLength v1 w_o_planRoom w_o_planGrid w_o_planOrder w_o_planOrderLength h
    unfold f_clearPlan_30 at h
    refine OEnds.adv hm_6 2 (pc' := 34) (L' := [.val (.ref 1), .val (.int v1)]) (S' := [.int 768, .int v1]) (H' := (c0 :: bk0 o_roomsOfType o_roomsAtLeast o_firstRoomOfType o_slotActive o_slotType o_slotArrive o_slotNights o_exactCount o_atLeastCount o_planRoom o_planGrid o_planOrder o_totalRooms o_activeStays o_planOrderLength o_planCurrent o_planUnplaced po)) rfl ?_
    by_cases hc5 : v1 < (768 : Int32)
    · simp only [if_pos hc5] at h
      refine OEnds.icmpF hm_6 rfl ((tlt hc5).2.1) ?_
      refine OEnds.adv hm_6 4 (pc' := 43) (L' := [.val (.ref 1), .val (.int v1)]) (S' := [.int (-1), .int v1, .ref 12]) (H' := (c0 :: bk0 o_roomsOfType o_roomsAtLeast o_firstRoomOfType o_slotActive o_slotType o_slotArrive o_slotNights o_exactCount o_atLeastCount o_planRoom o_planGrid o_planOrder o_totalRooms o_activeStays o_planOrderLength o_planCurrent o_planUnplaced po)) rfl ?_
      obtain ⟨A18, hA18, h⟩ := bnd h
      refine OEnds.plain hm_6 rfl rfl (x_iastore rfl (Nat.le_of_ble_eq_true rfl) hA18) ?_
      refine OEnds.adv hm_6 2 (pc' := 30) (L' := [.val (.ref 1), .val (.int (v1 + (1 : Int32)))]) (S' := []) (H' := (c0 :: bk0 o_roomsOfType o_roomsAtLeast o_firstRoomOfType o_slotActive o_slotType o_slotArrive o_slotNights o_exactCount o_atLeastCount o_planRoom A18 o_planOrder o_totalRooms o_activeStays o_planOrderLength o_planCurrent o_planUnplaced po)) rfl ?_
      exact ih h
    · simp only [if_neg hc5] at h
      refine OEnds.icmpT hm_6 rfl (q := 50) rfl ((flt hc5).2.1) ?_
      refine OEnds.adv hm_6 3 (pc' := 55) (L' := [.val (.ref 1), .val (.int v1)]) (S' := []) (H' := (c0 :: bk0 o_roomsOfType o_roomsAtLeast o_firstRoomOfType o_slotActive o_slotType o_slotArrive o_slotNights o_exactCount o_atLeastCount o_planRoom o_planGrid o_planOrder o_totalRooms o_activeStays 0 o_planCurrent o_planUnplaced po)) rfl ?_
      cases h
      exact OEnds.vret hm_6 rfl rfl
theorem ok_clearPlan_2 {o_roomsOfType : List Int32} {o_roomsAtLeast : List Int32} {o_firstRoomOfType : List Int32} {o_slotActive : List Int32} {o_slotType : List Int32} {o_slotArrive : List Int32} {o_slotNights : List Int32} {o_exactCount : List Int32} {o_atLeastCount : List Int32} {o_totalRooms : Int32} {o_activeStays : Int32} {o_planCurrent : Int32} {o_planUnplaced : Int32} {c0 : ACell} {po : List ACell} {k30 : List Int32 → List Int32 → List Int32 → Int32 → Int32 → Option (List Int32 × List Int32 × List Int32 × Int32)} (hk30 : ∀ {o_planRoom : List Int32} {o_planGrid : List Int32} {o_planOrder : List Int32} {o_planOrderLength : Int32} {v1 : Int32} {w_o_planRoom : List Int32} {w_o_planGrid : List Int32} {w_o_planOrder : List Int32} {w_o_planOrderLength : Int32}, k30 o_planRoom o_planGrid o_planOrder o_planOrderLength v1 = some (w_o_planRoom, w_o_planGrid, w_o_planOrder, w_o_planOrderLength) → OEnds own_P 6 30 [.val (.ref 1), .val (.int v1)] [] (c0 :: bk0 o_roomsOfType o_roomsAtLeast o_firstRoomOfType o_slotActive o_slotType o_slotArrive o_slotNights o_exactCount o_atLeastCount o_planRoom o_planGrid o_planOrder o_totalRooms o_activeStays o_planOrderLength o_planCurrent o_planUnplaced po) (none, (c0 :: bk0 o_roomsOfType o_roomsAtLeast o_firstRoomOfType o_slotActive o_slotType o_slotArrive o_slotNights o_exactCount o_atLeastCount w_o_planRoom w_o_planGrid w_o_planOrder o_totalRooms o_activeStays w_o_planOrderLength o_planCurrent o_planUnplaced po), 0, 0)) : ∀ (n : Nat), ∀ {o_planRoom : List Int32} {o_planGrid : List Int32} {o_planOrder : List Int32} {o_planOrderLength : Int32} {v1 : Int32} {w_o_planRoom : List Int32} {w_o_planGrid : List Int32} {w_o_planOrder : List Int32} {w_o_planOrderLength : Int32}, f_clearPlan_2 k30 n o_planRoom o_planGrid o_planOrder o_planOrderLength v1 = some (w_o_planRoom, w_o_planGrid, w_o_planOrder, w_o_planOrderLength) → OEnds own_P 6 2 [.val (.ref 1), .val (.int v1)] [] (c0 :: bk0 o_roomsOfType o_roomsAtLeast o_firstRoomOfType o_slotActive o_slotType o_slotArrive o_slotNights o_exactCount o_atLeastCount o_planRoom o_planGrid o_planOrder o_totalRooms o_activeStays o_planOrderLength o_planCurrent o_planUnplaced po) (none, (c0 :: bk0 o_roomsOfType o_roomsAtLeast o_firstRoomOfType o_slotActive o_slotType o_slotArrive o_slotNights o_exactCount o_atLeastCount w_o_planRoom w_o_planGrid w_o_planOrder o_totalRooms o_activeStays w_o_planOrderLength o_planCurrent o_planUnplaced po), 0, 0) := by
  intro n
  induction n with
  | zero => intro o_planRoom o_planGrid o_planOrder o_planOrderLength v1 w_o_planRoom w_o_planGrid w_o_planOrder w_o_planOrderLength h; cases h
  | succ n ih =>
    intro o_planRoom o_planGrid o_planOrder o_planOrderLength v1 w_o_planRoom w_o_planGrid w_o_planOrder w_o_planOrderLength h
    unfold f_clearPlan_2 at h
    refine OEnds.adv hm_6 2 (pc' := 5) (L' := [.val (.ref 1), .val (.int v1)]) (S' := [.int 32, .int v1]) (H' := (c0 :: bk0 o_roomsOfType o_roomsAtLeast o_firstRoomOfType o_slotActive o_slotType o_slotArrive o_slotNights o_exactCount o_atLeastCount o_planRoom o_planGrid o_planOrder o_totalRooms o_activeStays o_planOrderLength o_planCurrent o_planUnplaced po)) rfl ?_
    by_cases hc6 : v1 < (32 : Int32)
    · simp only [if_pos hc6] at h
      refine OEnds.icmpF hm_6 rfl ((tlt hc6).2.1) ?_
      refine OEnds.adv hm_6 4 (pc' := 14) (L' := [.val (.ref 1), .val (.int v1)]) (S' := [.int (-1), .int v1, .ref 11]) (H' := (c0 :: bk0 o_roomsOfType o_roomsAtLeast o_firstRoomOfType o_slotActive o_slotType o_slotArrive o_slotNights o_exactCount o_atLeastCount o_planRoom o_planGrid o_planOrder o_totalRooms o_activeStays o_planOrderLength o_planCurrent o_planUnplaced po)) rfl ?_
      obtain ⟨A16, hA16, h⟩ := bnd h
      refine OEnds.plain hm_6 rfl rfl (x_iastore rfl (Nat.le_of_ble_eq_true rfl) hA16) ?_
      refine OEnds.adv hm_6 4 (pc' := 21) (L' := [.val (.ref 1), .val (.int v1)]) (S' := [.int 0, .int v1, .ref 13]) (H' := (c0 :: bk0 o_roomsOfType o_roomsAtLeast o_firstRoomOfType o_slotActive o_slotType o_slotArrive o_slotNights o_exactCount o_atLeastCount A16 o_planGrid o_planOrder o_totalRooms o_activeStays o_planOrderLength o_planCurrent o_planUnplaced po)) rfl ?_
      obtain ⟨A17, hA17, h⟩ := bnd h
      refine OEnds.plain hm_6 rfl rfl (x_iastore rfl (Nat.le_of_ble_eq_true rfl) hA17) ?_
      refine OEnds.adv hm_6 2 (pc' := 2) (L' := [.val (.ref 1), .val (.int (v1 + (1 : Int32)))]) (S' := []) (H' := (c0 :: bk0 o_roomsOfType o_roomsAtLeast o_firstRoomOfType o_slotActive o_slotType o_slotArrive o_slotNights o_exactCount o_atLeastCount A16 o_planGrid A17 o_totalRooms o_activeStays o_planOrderLength o_planCurrent o_planUnplaced po)) rfl ?_
      exact ih h
    · simp only [if_neg hc6] at h
      refine OEnds.icmpT hm_6 rfl (q := 28) rfl ((flt hc6).2.1) ?_
      refine OEnds.adv hm_6 2 (pc' := 30) (L' := [.val (.ref 1), .val (.int 0)]) (S' := []) (H' := (c0 :: bk0 o_roomsOfType o_roomsAtLeast o_firstRoomOfType o_slotActive o_slotType o_slotArrive o_slotNights o_exactCount o_atLeastCount o_planRoom o_planGrid o_planOrder o_totalRooms o_activeStays o_planOrderLength o_planCurrent o_planUnplaced po)) rfl ?_
      exact hk30 h
theorem ok_clearPlan {o_roomsOfType : List Int32} {o_roomsAtLeast : List Int32} {o_firstRoomOfType : List Int32} {o_slotActive : List Int32} {o_slotType : List Int32} {o_slotArrive : List Int32} {o_slotNights : List Int32} {o_exactCount : List Int32} {o_atLeastCount : List Int32} {o_totalRooms : Int32} {o_activeStays : Int32} {o_planCurrent : Int32} {o_planUnplaced : Int32} {c0 : ACell} {po : List ACell} {o_planRoom : List Int32} {o_planGrid : List Int32} {o_planOrder : List Int32} {o_planOrderLength : Int32} {w_o_planRoom : List Int32} {w_o_planGrid : List Int32} {w_o_planOrder : List Int32} {w_o_planOrderLength : Int32} (h : f_clearPlan o_planRoom o_planGrid o_planOrder o_planOrderLength = some (w_o_planRoom, w_o_planGrid, w_o_planOrder, w_o_planOrderLength)) : OEnds own_P 6 0 [.val (.ref 1), .unset] [] (c0 :: bk0 o_roomsOfType o_roomsAtLeast o_firstRoomOfType o_slotActive o_slotType o_slotArrive o_slotNights o_exactCount o_atLeastCount o_planRoom o_planGrid o_planOrder o_totalRooms o_activeStays o_planOrderLength o_planCurrent o_planUnplaced po) (none, (c0 :: bk0 o_roomsOfType o_roomsAtLeast o_firstRoomOfType o_slotActive o_slotType o_slotArrive o_slotNights o_exactCount o_atLeastCount w_o_planRoom w_o_planGrid w_o_planOrder o_totalRooms o_activeStays w_o_planOrderLength o_planCurrent o_planUnplaced po), 0, 0) := by
  unfold f_clearPlan at h
  refine OEnds.adv hm_6 2 (pc' := 2) (L' := [.val (.ref 1), .val (.int 0)]) (S' := []) (H' := (c0 :: bk0 o_roomsOfType o_roomsAtLeast o_firstRoomOfType o_slotActive o_slotType o_slotArrive o_slotNights o_exactCount o_atLeastCount o_planRoom o_planGrid o_planOrder o_totalRooms o_activeStays o_planOrderLength o_planCurrent o_planUnplaced po)) rfl ?_
  exact ok_clearPlan_2 (k30 := f_clearPlan_30 100000) (ok_clearPlan_30 100000) 100000 h
theorem ok_init {c0 : ACell} {v1 : Int32} {v2 : Int32} {v3 : Int32} {w_o_roomsOfType : List Int32} {w_o_roomsAtLeast : List Int32} {w_o_firstRoomOfType : List Int32} {w_o_slotActive : List Int32} {w_o_slotType : List Int32} {w_o_slotArrive : List Int32} {w_o_slotNights : List Int32} {w_o_exactCount : List Int32} {w_o_atLeastCount : List Int32} {w_o_planRoom : List Int32} {w_o_planGrid : List Int32} {w_o_planOrder : List Int32} {w_o_totalRooms : Int32} {w_o_activeStays : Int32} {w_o_planOrderLength : Int32} {w_o_planCurrent : Int32} {w_o_planUnplaced : Int32} (h : f_init v1 v2 v3 = some (w_o_roomsOfType, w_o_roomsAtLeast, w_o_firstRoomOfType, w_o_slotActive, w_o_slotType, w_o_slotArrive, w_o_slotNights, w_o_exactCount, w_o_atLeastCount, w_o_planRoom, w_o_planGrid, w_o_planOrder, w_o_totalRooms, w_o_activeStays, w_o_planOrderLength, w_o_planCurrent, w_o_planUnplaced)) : OEnds own_P 1 0 [.val (.ref 1), .val (.int v1), .val (.int v2), .val (.int v3)] [] (c0 :: (.inl (0, [.null, .null, .null, .null, .null, .null, .null, .null, .null, .null, .null, .null, .int 0, .int 0, .int 0, .int 0, .int 0]) : ACell) :: []) (none, (c0 :: bk0 w_o_roomsOfType w_o_roomsAtLeast w_o_firstRoomOfType w_o_slotActive w_o_slotType w_o_slotArrive w_o_slotNights w_o_exactCount w_o_atLeastCount w_o_planRoom w_o_planGrid w_o_planOrder w_o_totalRooms w_o_activeStays w_o_planOrderLength w_o_planCurrent w_o_planUnplaced []), 12, 1161) := by
  unfold f_init at h
  refine OEnds.adv hm_1 1 (pc' := 1) (L' := [.val (.ref 1), .val (.int v1), .val (.int v2), .val (.int v3)]) (S' := [.ref 1]) (H' := (c0 :: (.inl (0, [.null, .null, .null, .null, .null, .null, .null, .null, .null, .null, .null, .null, .int 0, .int 0, .int 0, .int 0, .int 0]) : ACell) :: [])) rfl ?_
  refine OEnds.oinit hm_1 rfl ⟨Nat.le_of_ble_eq_true rfl, Nat.le_of_ble_eq_true rfl⟩ ?_
  refine OEnds.adv hm_1 2 (pc' := 6) (L' := [.val (.ref 1), .val (.int v1), .val (.int v2), .val (.int v3)]) (S' := [.int 3, .ref 1]) (H' := (c0 :: (.inl (0, [.null, .null, .null, .null, .null, .null, .null, .null, .null, .null, .null, .null, .int 0, .int 0, .int 0, .int 0, .int 0]) : ACell) :: [])) rfl ?_
  refine OEnds.made1 hm_1 rfl rfl (ks := 3) rfl rfl ?_
  refine OEnds.adv hm_1 3 (pc' := 13) (L' := [.val (.ref 1), .val (.int v1), .val (.int v2), .val (.int v3)]) (S' := [.int 3, .ref 1]) (H' := (c0 :: (.inl (0, [.ref 2, .null, .null, .null, .null, .null, .null, .null, .null, .null, .null, .null, .int 0, .int 0, .int 0, .int 0, .int 0]) : ACell) :: .inr (.inl (false, (List.replicate 3 0))) :: [])) rfl ?_
  refine OEnds.made1 hm_1 rfl rfl (ks := 3) rfl rfl ?_
  refine OEnds.adv hm_1 3 (pc' := 20) (L' := [.val (.ref 1), .val (.int v1), .val (.int v2), .val (.int v3)]) (S' := [.int 3, .ref 1]) (H' := (c0 :: (.inl (0, [.ref 2, .ref 3, .null, .null, .null, .null, .null, .null, .null, .null, .null, .null, .int 0, .int 0, .int 0, .int 0, .int 0]) : ACell) :: .inr (.inl (false, (List.replicate 3 0))) :: .inr (.inl (false, (List.replicate 3 0))) :: [])) rfl ?_
  refine OEnds.made1 hm_1 rfl rfl (ks := 3) rfl rfl ?_
  refine OEnds.adv hm_1 3 (pc' := 28) (L' := [.val (.ref 1), .val (.int v1), .val (.int v2), .val (.int v3)]) (S' := [.int 32, .ref 1]) (H' := (c0 :: (.inl (0, [.ref 2, .ref 3, .ref 4, .null, .null, .null, .null, .null, .null, .null, .null, .null, .int 0, .int 0, .int 0, .int 0, .int 0]) : ACell) :: .inr (.inl (false, (List.replicate 3 0))) :: .inr (.inl (false, (List.replicate 3 0))) :: .inr (.inl (false, (List.replicate 3 0))) :: [])) rfl ?_
  refine OEnds.made1 hm_1 rfl rfl (ks := 32) rfl rfl ?_
  refine OEnds.adv hm_1 3 (pc' := 36) (L' := [.val (.ref 1), .val (.int v1), .val (.int v2), .val (.int v3)]) (S' := [.int 32, .ref 1]) (H' := (c0 :: (.inl (0, [.ref 2, .ref 3, .ref 4, .ref 5, .null, .null, .null, .null, .null, .null, .null, .null, .int 0, .int 0, .int 0, .int 0, .int 0]) : ACell) :: .inr (.inl (false, (List.replicate 3 0))) :: .inr (.inl (false, (List.replicate 3 0))) :: .inr (.inl (false, (List.replicate 3 0))) :: .inr (.inl (true, (List.replicate 32 0))) :: [])) rfl ?_
  refine OEnds.made1 hm_1 rfl rfl (ks := 32) rfl rfl ?_
  refine OEnds.adv hm_1 3 (pc' := 44) (L' := [.val (.ref 1), .val (.int v1), .val (.int v2), .val (.int v3)]) (S' := [.int 32, .ref 1]) (H' := (c0 :: (.inl (0, [.ref 2, .ref 3, .ref 4, .ref 5, .ref 6, .null, .null, .null, .null, .null, .null, .null, .int 0, .int 0, .int 0, .int 0, .int 0]) : ACell) :: .inr (.inl (false, (List.replicate 3 0))) :: .inr (.inl (false, (List.replicate 3 0))) :: .inr (.inl (false, (List.replicate 3 0))) :: .inr (.inl (true, (List.replicate 32 0))) :: .inr (.inl (false, (List.replicate 32 0))) :: [])) rfl ?_
  refine OEnds.made1 hm_1 rfl rfl (ks := 32) rfl rfl ?_
  refine OEnds.adv hm_1 3 (pc' := 52) (L' := [.val (.ref 1), .val (.int v1), .val (.int v2), .val (.int v3)]) (S' := [.int 32, .ref 1]) (H' := (c0 :: (.inl (0, [.ref 2, .ref 3, .ref 4, .ref 5, .ref 6, .ref 7, .null, .null, .null, .null, .null, .null, .int 0, .int 0, .int 0, .int 0, .int 0]) : ACell) :: .inr (.inl (false, (List.replicate 3 0))) :: .inr (.inl (false, (List.replicate 3 0))) :: .inr (.inl (false, (List.replicate 3 0))) :: .inr (.inl (true, (List.replicate 32 0))) :: .inr (.inl (false, (List.replicate 32 0))) :: .inr (.inl (false, (List.replicate 32 0))) :: [])) rfl ?_
  refine OEnds.made1 hm_1 rfl rfl (ks := 32) rfl rfl ?_
  refine OEnds.adv hm_1 3 (pc' := 60) (L' := [.val (.ref 1), .val (.int v1), .val (.int v2), .val (.int v3)]) (S' := [.int 96, .ref 1]) (H' := (c0 :: (.inl (0, [.ref 2, .ref 3, .ref 4, .ref 5, .ref 6, .ref 7, .ref 8, .null, .null, .null, .null, .null, .int 0, .int 0, .int 0, .int 0, .int 0]) : ACell) :: .inr (.inl (false, (List.replicate 3 0))) :: .inr (.inl (false, (List.replicate 3 0))) :: .inr (.inl (false, (List.replicate 3 0))) :: .inr (.inl (true, (List.replicate 32 0))) :: .inr (.inl (false, (List.replicate 32 0))) :: .inr (.inl (false, (List.replicate 32 0))) :: .inr (.inl (false, (List.replicate 32 0))) :: [])) rfl ?_
  refine OEnds.made1 hm_1 rfl rfl (ks := 96) rfl rfl ?_
  refine OEnds.adv hm_1 3 (pc' := 68) (L' := [.val (.ref 1), .val (.int v1), .val (.int v2), .val (.int v3)]) (S' := [.int 96, .ref 1]) (H' := (c0 :: (.inl (0, [.ref 2, .ref 3, .ref 4, .ref 5, .ref 6, .ref 7, .ref 8, .ref 9, .null, .null, .null, .null, .int 0, .int 0, .int 0, .int 0, .int 0]) : ACell) :: .inr (.inl (false, (List.replicate 3 0))) :: .inr (.inl (false, (List.replicate 3 0))) :: .inr (.inl (false, (List.replicate 3 0))) :: .inr (.inl (true, (List.replicate 32 0))) :: .inr (.inl (false, (List.replicate 32 0))) :: .inr (.inl (false, (List.replicate 32 0))) :: .inr (.inl (false, (List.replicate 32 0))) :: .inr (.inl (false, (List.replicate 96 0))) :: [])) rfl ?_
  refine OEnds.made1 hm_1 rfl rfl (ks := 96) rfl rfl ?_
  refine OEnds.adv hm_1 3 (pc' := 76) (L' := [.val (.ref 1), .val (.int v1), .val (.int v2), .val (.int v3)]) (S' := [.int 32, .ref 1]) (H' := (c0 :: (.inl (0, [.ref 2, .ref 3, .ref 4, .ref 5, .ref 6, .ref 7, .ref 8, .ref 9, .ref 10, .null, .null, .null, .int 0, .int 0, .int 0, .int 0, .int 0]) : ACell) :: .inr (.inl (false, (List.replicate 3 0))) :: .inr (.inl (false, (List.replicate 3 0))) :: .inr (.inl (false, (List.replicate 3 0))) :: .inr (.inl (true, (List.replicate 32 0))) :: .inr (.inl (false, (List.replicate 32 0))) :: .inr (.inl (false, (List.replicate 32 0))) :: .inr (.inl (false, (List.replicate 32 0))) :: .inr (.inl (false, (List.replicate 96 0))) :: .inr (.inl (false, (List.replicate 96 0))) :: [])) rfl ?_
  refine OEnds.made1 hm_1 rfl rfl (ks := 32) rfl rfl ?_
  refine OEnds.adv hm_1 3 (pc' := 85) (L' := [.val (.ref 1), .val (.int v1), .val (.int v2), .val (.int v3)]) (S' := [.int 768, .ref 1]) (H' := (c0 :: (.inl (0, [.ref 2, .ref 3, .ref 4, .ref 5, .ref 6, .ref 7, .ref 8, .ref 9, .ref 10, .ref 11, .null, .null, .int 0, .int 0, .int 0, .int 0, .int 0]) : ACell) :: .inr (.inl (false, (List.replicate 3 0))) :: .inr (.inl (false, (List.replicate 3 0))) :: .inr (.inl (false, (List.replicate 3 0))) :: .inr (.inl (true, (List.replicate 32 0))) :: .inr (.inl (false, (List.replicate 32 0))) :: .inr (.inl (false, (List.replicate 32 0))) :: .inr (.inl (false, (List.replicate 32 0))) :: .inr (.inl (false, (List.replicate 96 0))) :: .inr (.inl (false, (List.replicate 96 0))) :: .inr (.inl (false, (List.replicate 32 0))) :: [])) rfl ?_
  refine OEnds.made1 hm_1 rfl rfl (ks := 768) rfl rfl ?_
  refine OEnds.adv hm_1 3 (pc' := 93) (L' := [.val (.ref 1), .val (.int v1), .val (.int v2), .val (.int v3)]) (S' := [.int 32, .ref 1]) (H' := (c0 :: (.inl (0, [.ref 2, .ref 3, .ref 4, .ref 5, .ref 6, .ref 7, .ref 8, .ref 9, .ref 10, .ref 11, .ref 12, .null, .int 0, .int 0, .int 0, .int 0, .int 0]) : ACell) :: .inr (.inl (false, (List.replicate 3 0))) :: .inr (.inl (false, (List.replicate 3 0))) :: .inr (.inl (false, (List.replicate 3 0))) :: .inr (.inl (true, (List.replicate 32 0))) :: .inr (.inl (false, (List.replicate 32 0))) :: .inr (.inl (false, (List.replicate 32 0))) :: .inr (.inl (false, (List.replicate 32 0))) :: .inr (.inl (false, (List.replicate 96 0))) :: .inr (.inl (false, (List.replicate 96 0))) :: .inr (.inl (false, (List.replicate 32 0))) :: .inr (.inl (false, (List.replicate 768 0))) :: [])) rfl ?_
  refine OEnds.made1 hm_1 rfl rfl (ks := 32) rfl rfl ?_
  refine OEnds.adv hm_1 6 (pc' := 105) (L' := [.val (.ref 1), .val (.int v1), .val (.int v2), .val (.int v3)]) (S' := [.int v1, .ref 1, .int 0, .ref 2]) (H' := (c0 :: bk0 (List.replicate 3 0) (List.replicate 3 0) (List.replicate 3 0) (List.replicate 32 0) (List.replicate 32 0) (List.replicate 32 0) (List.replicate 32 0) (List.replicate 96 0) (List.replicate 96 0) (List.replicate 32 0) (List.replicate 768 0) (List.replicate 32 0) 0 0 0 0 0 [])) rfl ?_
  obtain ⟨r19, hq7, h⟩ := bnd h
  refine OEnds.call0 hm_1 rfl rfl (by decide) rfl (as := [.ref 1, .int v1]) (rest := [.int 0, .ref 2]) rfl rfl (ok_clampRooms hq7) ?_
  show OEnds own_P 1 108 [.val (.ref 1), .val (.int v1), .val (.int v2), .val (.int v3)] [.int r19, .int 0, .ref 2] (c0 :: bk0 (List.replicate 3 0) (List.replicate 3 0) (List.replicate 3 0) (List.replicate 32 0) (List.replicate 32 0) (List.replicate 32 0) (List.replicate 32 0) (List.replicate 96 0) (List.replicate 96 0) (List.replicate 32 0) (List.replicate 768 0) (List.replicate 32 0) 0 0 0 0 0 []) _
  obtain ⟨A20, hA20, h⟩ := bnd h
  refine OEnds.plain hm_1 rfl rfl (x_iastore rfl (Nat.le_of_ble_eq_true rfl) hA20) ?_
  refine OEnds.adv hm_1 5 (pc' := 116) (L' := [.val (.ref 1), .val (.int v1), .val (.int v2), .val (.int v3)]) (S' := [.int v2, .ref 1, .int 1, .ref 2]) (H' := (c0 :: bk0 A20 (List.replicate 3 0) (List.replicate 3 0) (List.replicate 32 0) (List.replicate 32 0) (List.replicate 32 0) (List.replicate 32 0) (List.replicate 96 0) (List.replicate 96 0) (List.replicate 32 0) (List.replicate 768 0) (List.replicate 32 0) 0 0 0 0 0 [])) rfl ?_
  obtain ⟨r21, hq8, h⟩ := bnd h
  refine OEnds.call0 hm_1 rfl rfl (by decide) rfl (as := [.ref 1, .int v2]) (rest := [.int 1, .ref 2]) rfl rfl (ok_clampRooms hq8) ?_
  show OEnds own_P 1 119 [.val (.ref 1), .val (.int v1), .val (.int v2), .val (.int v3)] [.int r21, .int 1, .ref 2] (c0 :: bk0 A20 (List.replicate 3 0) (List.replicate 3 0) (List.replicate 32 0) (List.replicate 32 0) (List.replicate 32 0) (List.replicate 32 0) (List.replicate 96 0) (List.replicate 96 0) (List.replicate 32 0) (List.replicate 768 0) (List.replicate 32 0) 0 0 0 0 0 []) _
  obtain ⟨A22, hA22, h⟩ := bnd h
  refine OEnds.plain hm_1 rfl rfl (x_iastore rfl (Nat.le_of_ble_eq_true rfl) hA22) ?_
  refine OEnds.adv hm_1 5 (pc' := 127) (L' := [.val (.ref 1), .val (.int v1), .val (.int v2), .val (.int v3)]) (S' := [.int v3, .ref 1, .int 2, .ref 2]) (H' := (c0 :: bk0 A22 (List.replicate 3 0) (List.replicate 3 0) (List.replicate 32 0) (List.replicate 32 0) (List.replicate 32 0) (List.replicate 32 0) (List.replicate 96 0) (List.replicate 96 0) (List.replicate 32 0) (List.replicate 768 0) (List.replicate 32 0) 0 0 0 0 0 [])) rfl ?_
  obtain ⟨r23, hq9, h⟩ := bnd h
  refine OEnds.call0 hm_1 rfl rfl (by decide) rfl (as := [.ref 1, .int v3]) (rest := [.int 2, .ref 2]) rfl rfl (ok_clampRooms hq9) ?_
  show OEnds own_P 1 130 [.val (.ref 1), .val (.int v1), .val (.int v2), .val (.int v3)] [.int r23, .int 2, .ref 2] (c0 :: bk0 A22 (List.replicate 3 0) (List.replicate 3 0) (List.replicate 32 0) (List.replicate 32 0) (List.replicate 32 0) (List.replicate 32 0) (List.replicate 96 0) (List.replicate 96 0) (List.replicate 32 0) (List.replicate 768 0) (List.replicate 32 0) 0 0 0 0 0 []) _
  obtain ⟨A24, hA24, h⟩ := bnd h
  refine OEnds.plain hm_1 rfl rfl (x_iastore rfl (Nat.le_of_ble_eq_true rfl) hA24) ?_
  refine OEnds.adv hm_1 1 (pc' := 132) (L' := [.val (.ref 1), .val (.int v1), .val (.int v2), .val (.int v3)]) (S' := [.ref 1]) (H' := (c0 :: bk0 A24 (List.replicate 3 0) (List.replicate 3 0) (List.replicate 32 0) (List.replicate 32 0) (List.replicate 32 0) (List.replicate 32 0) (List.replicate 96 0) (List.replicate 96 0) (List.replicate 32 0) (List.replicate 768 0) (List.replicate 32 0) 0 0 0 0 0 [])) rfl ?_
  obtain ⟨⟨s25, s26, s27⟩, hq10, h⟩ := bnd h
  refine OEnds.call0 hm_1 rfl rfl (by decide) rfl (as := [.ref 1]) (rest := []) rfl rfl (ok_computeRoomTables hq10) ?_
  refine OEnds.adv hm_1 1 (pc' := 136) (L' := [.val (.ref 1), .val (.int v1), .val (.int v2), .val (.int v3)]) (S' := [.ref 1]) (H' := (c0 :: bk0 A24 s25 s26 (List.replicate 32 0) (List.replicate 32 0) (List.replicate 32 0) (List.replicate 32 0) (List.replicate 96 0) (List.replicate 96 0) (List.replicate 32 0) (List.replicate 768 0) (List.replicate 32 0) s27 0 0 0 0 [])) rfl ?_
  obtain ⟨⟨s28, s29, s30, s31, s32⟩, hq11, h⟩ := bnd h
  refine OEnds.call0 hm_1 rfl rfl (by decide) rfl (as := [.ref 1]) (rest := []) rfl rfl (ok_resetStays hq11) ?_
  refine OEnds.adv hm_1 1 (pc' := 140) (L' := [.val (.ref 1), .val (.int v1), .val (.int v2), .val (.int v3)]) (S' := [.ref 1]) (H' := (c0 :: bk0 A24 s25 s26 s28 s29 s30 s31 (List.replicate 96 0) (List.replicate 96 0) (List.replicate 32 0) (List.replicate 768 0) (List.replicate 32 0) s27 s32 0 0 0 [])) rfl ?_
  obtain ⟨⟨s33, s34⟩, hq12, h⟩ := bnd h
  refine OEnds.call0 hm_1 rfl rfl (by decide) rfl (as := [.ref 1]) (rest := []) rfl rfl (ok_resetCounts hq12) ?_
  refine OEnds.adv hm_1 1 (pc' := 144) (L' := [.val (.ref 1), .val (.int v1), .val (.int v2), .val (.int v3)]) (S' := [.ref 1]) (H' := (c0 :: bk0 A24 s25 s26 s28 s29 s30 s31 s33 s34 (List.replicate 32 0) (List.replicate 768 0) (List.replicate 32 0) s27 s32 0 0 0 [])) rfl ?_
  obtain ⟨⟨s35, s36, s37, s38⟩, hq13, h⟩ := bnd h
  refine OEnds.call0 hm_1 rfl rfl (by decide) rfl (as := [.ref 1]) (rest := []) rfl rfl (ok_clearPlan hq13) ?_
  refine OEnds.adv hm_1 6 (pc' := 157) (L' := [.val (.ref 1), .val (.int v1), .val (.int v2), .val (.int v3)]) (S' := []) (H' := (c0 :: bk0 A24 s25 s26 s28 s29 s30 s31 s33 s34 s35 s36 s37 s27 s32 s38 0 0 [])) rfl ?_
  cases h
  exact OEnds.vret hm_1 rfl rfl
theorem ok_isValidType {o_roomsOfType : List Int32} {o_roomsAtLeast : List Int32} {o_firstRoomOfType : List Int32} {o_slotActive : List Int32} {o_slotType : List Int32} {o_slotArrive : List Int32} {o_slotNights : List Int32} {o_exactCount : List Int32} {o_atLeastCount : List Int32} {o_planRoom : List Int32} {o_planGrid : List Int32} {o_planOrder : List Int32} {o_totalRooms : Int32} {o_activeStays : Int32} {o_planOrderLength : Int32} {o_planCurrent : Int32} {o_planUnplaced : Int32} {c0 : ACell} {po : List ACell} {v1 : Int32} {res : Int32} (h : f_isValidType v1 = some res) : OEnds own_P 13 0 [.val (.ref 1), .val (.int v1)] [] (c0 :: bk0 o_roomsOfType o_roomsAtLeast o_firstRoomOfType o_slotActive o_slotType o_slotArrive o_slotNights o_exactCount o_atLeastCount o_planRoom o_planGrid o_planOrder o_totalRooms o_activeStays o_planOrderLength o_planCurrent o_planUnplaced po) (some (.int res), (c0 :: bk0 o_roomsOfType o_roomsAtLeast o_firstRoomOfType o_slotActive o_slotType o_slotArrive o_slotNights o_exactCount o_atLeastCount o_planRoom o_planGrid o_planOrder o_totalRooms o_activeStays o_planOrderLength o_planCurrent o_planUnplaced po), 0, 0) := by
  unfold f_isValidType at h
  refine OEnds.adv hm_13 1 (pc' := 1) (L' := [.val (.ref 1), .val (.int v1)]) (S' := [.int v1]) (H' := (c0 :: bk0 o_roomsOfType o_roomsAtLeast o_firstRoomOfType o_slotActive o_slotType o_slotArrive o_slotNights o_exactCount o_atLeastCount o_planRoom o_planGrid o_planOrder o_totalRooms o_activeStays o_planOrderLength o_planCurrent o_planUnplaced po)) rfl ?_
  by_cases hc14 : v1 < (0 : Int32)
  · simp only [if_pos hc14] at h
    refine OEnds.ifT hm_13 rfl (q := 13) rfl ((tlt hc14).1) ?_
    refine OEnds.adv hm_13 1 (pc' := 14) (L' := [.val (.ref 1), .val (.int v1)]) (S' := [.int 0]) (H' := (c0 :: bk0 o_roomsOfType o_roomsAtLeast o_firstRoomOfType o_slotActive o_slotType o_slotArrive o_slotNights o_exactCount o_atLeastCount o_planRoom o_planGrid o_planOrder o_totalRooms o_activeStays o_planOrderLength o_planCurrent o_planUnplaced po)) rfl ?_
    cases h
    exact OEnds.iret hm_13 rfl rfl
  · simp only [if_neg hc14] at h
    refine OEnds.ifF hm_13 rfl ((flt hc14).1) ?_
    refine OEnds.adv hm_13 2 (pc' := 6) (L' := [.val (.ref 1), .val (.int v1)]) (S' := [.int 3, .int v1]) (H' := (c0 :: bk0 o_roomsOfType o_roomsAtLeast o_firstRoomOfType o_slotActive o_slotType o_slotArrive o_slotNights o_exactCount o_atLeastCount o_planRoom o_planGrid o_planOrder o_totalRooms o_activeStays o_planOrderLength o_planCurrent o_planUnplaced po)) rfl ?_
    by_cases hc15 : v1 < (3 : Int32)
    · simp only [if_pos hc15] at h
      refine OEnds.icmpF hm_13 rfl ((tlt hc15).2.1) ?_
      refine OEnds.adv hm_13 2 (pc' := 14) (L' := [.val (.ref 1), .val (.int v1)]) (S' := [.int 1]) (H' := (c0 :: bk0 o_roomsOfType o_roomsAtLeast o_firstRoomOfType o_slotActive o_slotType o_slotArrive o_slotNights o_exactCount o_atLeastCount o_planRoom o_planGrid o_planOrder o_totalRooms o_activeStays o_planOrderLength o_planCurrent o_planUnplaced po)) rfl ?_
      cases h
      exact OEnds.iret hm_13 rfl rfl
    · simp only [if_neg hc15] at h
      refine OEnds.icmpT hm_13 rfl (q := 13) rfl ((flt hc15).2.1) ?_
      refine OEnds.adv hm_13 1 (pc' := 14) (L' := [.val (.ref 1), .val (.int v1)]) (S' := [.int 0]) (H' := (c0 :: bk0 o_roomsOfType o_roomsAtLeast o_firstRoomOfType o_slotActive o_slotType o_slotArrive o_slotNights o_exactCount o_atLeastCount o_planRoom o_planGrid o_planOrder o_totalRooms o_activeStays o_planOrderLength o_planCurrent o_planUnplaced po)) rfl ?_
      cases h
      exact OEnds.iret hm_13 rfl rfl
theorem ok_isValidNight {o_roomsOfType : List Int32} {o_roomsAtLeast : List Int32} {o_firstRoomOfType : List Int32} {o_slotActive : List Int32} {o_slotType : List Int32} {o_slotArrive : List Int32} {o_slotNights : List Int32} {o_exactCount : List Int32} {o_atLeastCount : List Int32} {o_planRoom : List Int32} {o_planGrid : List Int32} {o_planOrder : List Int32} {o_totalRooms : Int32} {o_activeStays : Int32} {o_planOrderLength : Int32} {o_planCurrent : Int32} {o_planUnplaced : Int32} {c0 : ACell} {po : List ACell} {v1 : Int32} {res : Int32} (h : f_isValidNight v1 = some res) : OEnds own_P 14 0 [.val (.ref 1), .val (.int v1)] [] (c0 :: bk0 o_roomsOfType o_roomsAtLeast o_firstRoomOfType o_slotActive o_slotType o_slotArrive o_slotNights o_exactCount o_atLeastCount o_planRoom o_planGrid o_planOrder o_totalRooms o_activeStays o_planOrderLength o_planCurrent o_planUnplaced po) (some (.int res), (c0 :: bk0 o_roomsOfType o_roomsAtLeast o_firstRoomOfType o_slotActive o_slotType o_slotArrive o_slotNights o_exactCount o_atLeastCount o_planRoom o_planGrid o_planOrder o_totalRooms o_activeStays o_planOrderLength o_planCurrent o_planUnplaced po), 0, 0) := by
  unfold f_isValidNight at h
  refine OEnds.adv hm_14 1 (pc' := 1) (L' := [.val (.ref 1), .val (.int v1)]) (S' := [.int v1]) (H' := (c0 :: bk0 o_roomsOfType o_roomsAtLeast o_firstRoomOfType o_slotActive o_slotType o_slotArrive o_slotNights o_exactCount o_atLeastCount o_planRoom o_planGrid o_planOrder o_totalRooms o_activeStays o_planOrderLength o_planCurrent o_planUnplaced po)) rfl ?_
  by_cases hc16 : v1 < (0 : Int32)
  · simp only [if_pos hc16] at h
    refine OEnds.ifT hm_14 rfl (q := 14) rfl ((tlt hc16).1) ?_
    refine OEnds.adv hm_14 1 (pc' := 15) (L' := [.val (.ref 1), .val (.int v1)]) (S' := [.int 0]) (H' := (c0 :: bk0 o_roomsOfType o_roomsAtLeast o_firstRoomOfType o_slotActive o_slotType o_slotArrive o_slotNights o_exactCount o_atLeastCount o_planRoom o_planGrid o_planOrder o_totalRooms o_activeStays o_planOrderLength o_planCurrent o_planUnplaced po)) rfl ?_
    cases h
    exact OEnds.iret hm_14 rfl rfl
  · simp only [if_neg hc16] at h
    refine OEnds.ifF hm_14 rfl ((flt hc16).1) ?_
    refine OEnds.adv hm_14 2 (pc' := 7) (L' := [.val (.ref 1), .val (.int v1)]) (S' := [.int 32, .int v1]) (H' := (c0 :: bk0 o_roomsOfType o_roomsAtLeast o_firstRoomOfType o_slotActive o_slotType o_slotArrive o_slotNights o_exactCount o_atLeastCount o_planRoom o_planGrid o_planOrder o_totalRooms o_activeStays o_planOrderLength o_planCurrent o_planUnplaced po)) rfl ?_
    by_cases hc17 : v1 < (32 : Int32)
    · simp only [if_pos hc17] at h
      refine OEnds.icmpF hm_14 rfl ((tlt hc17).2.1) ?_
      refine OEnds.adv hm_14 2 (pc' := 15) (L' := [.val (.ref 1), .val (.int v1)]) (S' := [.int 1]) (H' := (c0 :: bk0 o_roomsOfType o_roomsAtLeast o_firstRoomOfType o_slotActive o_slotType o_slotArrive o_slotNights o_exactCount o_atLeastCount o_planRoom o_planGrid o_planOrder o_totalRooms o_activeStays o_planOrderLength o_planCurrent o_planUnplaced po)) rfl ?_
      cases h
      exact OEnds.iret hm_14 rfl rfl
    · simp only [if_neg hc17] at h
      refine OEnds.icmpT hm_14 rfl (q := 14) rfl ((flt hc17).2.1) ?_
      refine OEnds.adv hm_14 1 (pc' := 15) (L' := [.val (.ref 1), .val (.int v1)]) (S' := [.int 0]) (H' := (c0 :: bk0 o_roomsOfType o_roomsAtLeast o_firstRoomOfType o_slotActive o_slotType o_slotArrive o_slotNights o_exactCount o_atLeastCount o_planRoom o_planGrid o_planOrder o_totalRooms o_activeStays o_planOrderLength o_planCurrent o_planUnplaced po)) rfl ?_
      cases h
      exact OEnds.iret hm_14 rfl rfl
theorem ok_isValidLength {o_roomsOfType : List Int32} {o_roomsAtLeast : List Int32} {o_firstRoomOfType : List Int32} {o_slotActive : List Int32} {o_slotType : List Int32} {o_slotArrive : List Int32} {o_slotNights : List Int32} {o_exactCount : List Int32} {o_atLeastCount : List Int32} {o_planRoom : List Int32} {o_planGrid : List Int32} {o_planOrder : List Int32} {o_totalRooms : Int32} {o_activeStays : Int32} {o_planOrderLength : Int32} {o_planCurrent : Int32} {o_planUnplaced : Int32} {c0 : ACell} {po : List ACell} {v1 : Int32} {v2 : Int32} {res : Int32} (h : f_isValidLength v1 v2 = some res) : OEnds own_P 26 0 [.val (.ref 1), .val (.int v1), .val (.int v2)] [] (c0 :: bk0 o_roomsOfType o_roomsAtLeast o_firstRoomOfType o_slotActive o_slotType o_slotArrive o_slotNights o_exactCount o_atLeastCount o_planRoom o_planGrid o_planOrder o_totalRooms o_activeStays o_planOrderLength o_planCurrent o_planUnplaced po) (some (.int res), (c0 :: bk0 o_roomsOfType o_roomsAtLeast o_firstRoomOfType o_slotActive o_slotType o_slotArrive o_slotNights o_exactCount o_atLeastCount o_planRoom o_planGrid o_planOrder o_totalRooms o_activeStays o_planOrderLength o_planCurrent o_planUnplaced po), 0, 0) := by
  unfold f_isValidLength at h
  refine OEnds.adv hm_26 2 (pc' := 2) (L' := [.val (.ref 1), .val (.int v1), .val (.int v2)]) (S' := [.int 1, .int v2]) (H' := (c0 :: bk0 o_roomsOfType o_roomsAtLeast o_firstRoomOfType o_slotActive o_slotType o_slotArrive o_slotNights o_exactCount o_atLeastCount o_planRoom o_planGrid o_planOrder o_totalRooms o_activeStays o_planOrderLength o_planCurrent o_planUnplaced po)) rfl ?_
  by_cases hc18 : v2 < (1 : Int32)
  · simp only [if_pos hc18] at h
    refine OEnds.icmpF hm_26 rfl ((tlt hc18).2.1) ?_
    refine OEnds.adv hm_26 1 (pc' := 6) (L' := [.val (.ref 1), .val (.int v1), .val (.int v2)]) (S' := [.int 0]) (H' := (c0 :: bk0 o_roomsOfType o_roomsAtLeast o_firstRoomOfType o_slotActive o_slotType o_slotArrive o_slotNights o_exactCount o_atLeastCount o_planRoom o_planGrid o_planOrder o_totalRooms o_activeStays o_planOrderLength o_planCurrent o_planUnplaced po)) rfl ?_
    cases h
    exact OEnds.iret hm_26 rfl rfl
  · simp only [if_neg hc18] at h
    refine OEnds.icmpT hm_26 rfl (q := 7) rfl ((flt hc18).2.1) ?_
    refine OEnds.adv hm_26 4 (pc' := 12) (L' := [.val (.ref 1), .val (.int v1), .val (.int v2)]) (S' := [.int ((32 : Int32) - v1), .int v2]) (H' := (c0 :: bk0 o_roomsOfType o_roomsAtLeast o_firstRoomOfType o_slotActive o_slotType o_slotArrive o_slotNights o_exactCount o_atLeastCount o_planRoom o_planGrid o_planOrder o_totalRooms o_activeStays o_planOrderLength o_planCurrent o_planUnplaced po)) rfl ?_
    by_cases hc19 : ((32 : Int32) - v1) < v2
    · simp only [if_pos hc19] at h
      refine OEnds.icmpT hm_26 rfl (q := 19) rfl ((tlt hc19).2.2.1) ?_
      refine OEnds.adv hm_26 1 (pc' := 20) (L' := [.val (.ref 1), .val (.int v1), .val (.int v2)]) (S' := [.int 0]) (H' := (c0 :: bk0 o_roomsOfType o_roomsAtLeast o_firstRoomOfType o_slotActive o_slotType o_slotArrive o_slotNights o_exactCount o_atLeastCount o_planRoom o_planGrid o_planOrder o_totalRooms o_activeStays o_planOrderLength o_planCurrent o_planUnplaced po)) rfl ?_
      cases h
      exact OEnds.iret hm_26 rfl rfl
    · simp only [if_neg hc19] at h
      refine OEnds.icmpF hm_26 rfl ((flt hc19).2.2.1) ?_
      refine OEnds.adv hm_26 2 (pc' := 20) (L' := [.val (.ref 1), .val (.int v1), .val (.int v2)]) (S' := [.int 1]) (H' := (c0 :: bk0 o_roomsOfType o_roomsAtLeast o_firstRoomOfType o_slotActive o_slotType o_slotArrive o_slotNights o_exactCount o_atLeastCount o_planRoom o_planGrid o_planOrder o_totalRooms o_activeStays o_planOrderLength o_planCurrent o_planUnplaced po)) rfl ?_
      cases h
      exact OEnds.iret hm_26 rfl rfl
theorem ok_requestError {o_roomsOfType : List Int32} {o_roomsAtLeast : List Int32} {o_firstRoomOfType : List Int32} {o_slotActive : List Int32} {o_slotType : List Int32} {o_slotArrive : List Int32} {o_slotNights : List Int32} {o_exactCount : List Int32} {o_atLeastCount : List Int32} {o_planRoom : List Int32} {o_planGrid : List Int32} {o_planOrder : List Int32} {o_totalRooms : Int32} {o_activeStays : Int32} {o_planOrderLength : Int32} {o_planCurrent : Int32} {o_planUnplaced : Int32} {c0 : ACell} {po : List ACell} {v1 : Int32} {v2 : Int32} {v3 : Int32} {res : Int32} (h : f_requestError v1 v2 v3 = some res) : OEnds own_P 25 0 [.val (.ref 1), .val (.int v1), .val (.int v2), .val (.int v3)] [] (c0 :: bk0 o_roomsOfType o_roomsAtLeast o_firstRoomOfType o_slotActive o_slotType o_slotArrive o_slotNights o_exactCount o_atLeastCount o_planRoom o_planGrid o_planOrder o_totalRooms o_activeStays o_planOrderLength o_planCurrent o_planUnplaced po) (some (.int res), (c0 :: bk0 o_roomsOfType o_roomsAtLeast o_firstRoomOfType o_slotActive o_slotType o_slotArrive o_slotNights o_exactCount o_atLeastCount o_planRoom o_planGrid o_planOrder o_totalRooms o_activeStays o_planOrderLength o_planCurrent o_planUnplaced po), 0, 0) := by
  unfold f_requestError at h
  refine OEnds.adv hm_25 2 (pc' := 2) (L' := [.val (.ref 1), .val (.int v1), .val (.int v2), .val (.int v3)]) (S' := [.int v1, .ref 1]) (H' := (c0 :: bk0 o_roomsOfType o_roomsAtLeast o_firstRoomOfType o_slotActive o_slotType o_slotArrive o_slotNights o_exactCount o_atLeastCount o_planRoom o_planGrid o_planOrder o_totalRooms o_activeStays o_planOrderLength o_planCurrent o_planUnplaced po)) rfl ?_
  obtain ⟨r39, hq20, h⟩ := bnd h
  refine OEnds.call0 hm_25 rfl rfl (by decide) rfl (as := [.ref 1, .int v1]) (rest := []) rfl rfl (ok_isValidType hq20) ?_
  show OEnds own_P 25 5 [.val (.ref 1), .val (.int v1), .val (.int v2), .val (.int v3)] [.int r39] (c0 :: bk0 o_roomsOfType o_roomsAtLeast o_firstRoomOfType o_slotActive o_slotType o_slotArrive o_slotNights o_exactCount o_atLeastCount o_planRoom o_planGrid o_planOrder o_totalRooms o_activeStays o_planOrderLength o_planCurrent o_planUnplaced po) _
  by_cases hc21 : r39 = (0 : Int32)
  · simp only [if_pos hc21] at h
    refine OEnds.ifF hm_25 rfl ((teq hc21).2) ?_
    refine OEnds.adv hm_25 1 (pc' := 9) (L' := [.val (.ref 1), .val (.int v1), .val (.int v2), .val (.int v3)]) (S' := [.int (-1)]) (H' := (c0 :: bk0 o_roomsOfType o_roomsAtLeast o_firstRoomOfType o_slotActive o_slotType o_slotArrive o_slotNights o_exactCount o_atLeastCount o_planRoom o_planGrid o_planOrder o_totalRooms o_activeStays o_planOrderLength o_planCurrent o_planUnplaced po)) rfl ?_
    cases h
    exact OEnds.iret hm_25 rfl rfl
  · simp only [if_neg hc21] at h
    refine OEnds.ifT hm_25 rfl (q := 10) rfl ((feq hc21).2) ?_
    refine OEnds.adv hm_25 2 (pc' := 12) (L' := [.val (.ref 1), .val (.int v1), .val (.int v2), .val (.int v3)]) (S' := [.int v2, .ref 1]) (H' := (c0 :: bk0 o_roomsOfType o_roomsAtLeast o_firstRoomOfType o_slotActive o_slotType o_slotArrive o_slotNights o_exactCount o_atLeastCount o_planRoom o_planGrid o_planOrder o_totalRooms o_activeStays o_planOrderLength o_planCurrent o_planUnplaced po)) rfl ?_
    obtain ⟨r40, hq22, h⟩ := bnd h
    refine OEnds.call0 hm_25 rfl rfl (by decide) rfl (as := [.ref 1, .int v2]) (rest := []) rfl rfl (ok_isValidNight hq22) ?_
    show OEnds own_P 25 15 [.val (.ref 1), .val (.int v1), .val (.int v2), .val (.int v3)] [.int r40] (c0 :: bk0 o_roomsOfType o_roomsAtLeast o_firstRoomOfType o_slotActive o_slotType o_slotArrive o_slotNights o_exactCount o_atLeastCount o_planRoom o_planGrid o_planOrder o_totalRooms o_activeStays o_planOrderLength o_planCurrent o_planUnplaced po) _
    by_cases hc23 : r40 = (0 : Int32)
    · simp only [if_pos hc23] at h
      refine OEnds.ifF hm_25 rfl ((teq hc23).2) ?_
      refine OEnds.adv hm_25 1 (pc' := 20) (L' := [.val (.ref 1), .val (.int v1), .val (.int v2), .val (.int v3)]) (S' := [.int (-2)]) (H' := (c0 :: bk0 o_roomsOfType o_roomsAtLeast o_firstRoomOfType o_slotActive o_slotType o_slotArrive o_slotNights o_exactCount o_atLeastCount o_planRoom o_planGrid o_planOrder o_totalRooms o_activeStays o_planOrderLength o_planCurrent o_planUnplaced po)) rfl ?_
      cases h
      exact OEnds.iret hm_25 rfl rfl
    · simp only [if_neg hc23] at h
      refine OEnds.ifT hm_25 rfl (q := 21) rfl ((feq hc23).2) ?_
      refine OEnds.adv hm_25 3 (pc' := 24) (L' := [.val (.ref 1), .val (.int v1), .val (.int v2), .val (.int v3)]) (S' := [.int v3, .int v2, .ref 1]) (H' := (c0 :: bk0 o_roomsOfType o_roomsAtLeast o_firstRoomOfType o_slotActive o_slotType o_slotArrive o_slotNights o_exactCount o_atLeastCount o_planRoom o_planGrid o_planOrder o_totalRooms o_activeStays o_planOrderLength o_planCurrent o_planUnplaced po)) rfl ?_
      obtain ⟨r41, hq24, h⟩ := bnd h
      refine OEnds.call0 hm_25 rfl rfl (by decide) rfl (as := [.ref 1, .int v2, .int v3]) (rest := []) rfl rfl (ok_isValidLength hq24) ?_
      show OEnds own_P 25 27 [.val (.ref 1), .val (.int v1), .val (.int v2), .val (.int v3)] [.int r41] (c0 :: bk0 o_roomsOfType o_roomsAtLeast o_firstRoomOfType o_slotActive o_slotType o_slotArrive o_slotNights o_exactCount o_atLeastCount o_planRoom o_planGrid o_planOrder o_totalRooms o_activeStays o_planOrderLength o_planCurrent o_planUnplaced po) _
      by_cases hc25 : r41 = (0 : Int32)
      · simp only [if_pos hc25] at h
        refine OEnds.ifF hm_25 rfl ((teq hc25).2) ?_
        refine OEnds.adv hm_25 1 (pc' := 32) (L' := [.val (.ref 1), .val (.int v1), .val (.int v2), .val (.int v3)]) (S' := [.int (-2)]) (H' := (c0 :: bk0 o_roomsOfType o_roomsAtLeast o_firstRoomOfType o_slotActive o_slotType o_slotArrive o_slotNights o_exactCount o_atLeastCount o_planRoom o_planGrid o_planOrder o_totalRooms o_activeStays o_planOrderLength o_planCurrent o_planUnplaced po)) rfl ?_
        cases h
        exact OEnds.iret hm_25 rfl rfl
      · simp only [if_neg hc25] at h
        refine OEnds.ifT hm_25 rfl (q := 33) rfl ((feq hc25).2) ?_
        refine OEnds.adv hm_25 1 (pc' := 34) (L' := [.val (.ref 1), .val (.int v1), .val (.int v2), .val (.int v3)]) (S' := [.int 0]) (H' := (c0 :: bk0 o_roomsOfType o_roomsAtLeast o_firstRoomOfType o_slotActive o_slotType o_slotArrive o_slotNights o_exactCount o_atLeastCount o_planRoom o_planGrid o_planOrder o_totalRooms o_activeStays o_planOrderLength o_planCurrent o_planUnplaced po)) rfl ?_
        cases h
        exact OEnds.iret hm_25 rfl rfl
theorem ok_endOf {o_roomsOfType : List Int32} {o_roomsAtLeast : List Int32} {o_firstRoomOfType : List Int32} {o_slotActive : List Int32} {o_slotType : List Int32} {o_slotArrive : List Int32} {o_slotNights : List Int32} {o_exactCount : List Int32} {o_atLeastCount : List Int32} {o_planRoom : List Int32} {o_planGrid : List Int32} {o_planOrder : List Int32} {o_totalRooms : Int32} {o_activeStays : Int32} {o_planOrderLength : Int32} {o_planCurrent : Int32} {o_planUnplaced : Int32} {c0 : ACell} {po : List ACell} {v1 : Int32} {v2 : Int32} {res : Int32} (h : f_endOf v1 v2 = some res) : OEnds own_P 28 0 [.val (.ref 1), .val (.int v1), .val (.int v2), .unset] [] (c0 :: bk0 o_roomsOfType o_roomsAtLeast o_firstRoomOfType o_slotActive o_slotType o_slotArrive o_slotNights o_exactCount o_atLeastCount o_planRoom o_planGrid o_planOrder o_totalRooms o_activeStays o_planOrderLength o_planCurrent o_planUnplaced po) (some (.int res), (c0 :: bk0 o_roomsOfType o_roomsAtLeast o_firstRoomOfType o_slotActive o_slotType o_slotArrive o_slotNights o_exactCount o_atLeastCount o_planRoom o_planGrid o_planOrder o_totalRooms o_activeStays o_planOrderLength o_planCurrent o_planUnplaced po), 0, 0) := by
  unfold f_endOf at h
  refine OEnds.adv hm_28 6 (pc' := 7) (L' := [.val (.ref 1), .val (.int v1), .val (.int v2), .val (.int (v1 + v2))]) (S' := [.int 32, .int (v1 + v2)]) (H' := (c0 :: bk0 o_roomsOfType o_roomsAtLeast o_firstRoomOfType o_slotActive o_slotType o_slotArrive o_slotNights o_exactCount o_atLeastCount o_planRoom o_planGrid o_planOrder o_totalRooms o_activeStays o_planOrderLength o_planCurrent o_planUnplaced po)) rfl ?_
  by_cases hc26 : (32 : Int32) < (v1 + v2)
  · simp only [if_pos hc26] at h
    refine OEnds.icmpF hm_28 rfl ((tlt hc26).2.2.2) ?_
    refine OEnds.adv hm_28 1 (pc' := 12) (L' := [.val (.ref 1), .val (.int v1), .val (.int v2), .val (.int (v1 + v2))]) (S' := [.int 32]) (H' := (c0 :: bk0 o_roomsOfType o_roomsAtLeast o_firstRoomOfType o_slotActive o_slotType o_slotArrive o_slotNights o_exactCount o_atLeastCount o_planRoom o_planGrid o_planOrder o_totalRooms o_activeStays o_planOrderLength o_planCurrent o_planUnplaced po)) rfl ?_
    cases h
    exact OEnds.iret hm_28 rfl rfl
  · simp only [if_neg hc26] at h
    refine OEnds.icmpT hm_28 rfl (q := 13) rfl ((flt hc26).2.2.2) ?_
    refine OEnds.adv hm_28 1 (pc' := 14) (L' := [.val (.ref 1), .val (.int v1), .val (.int v2), .val (.int (v1 + v2))]) (S' := [.int (v1 + v2)]) (H' := (c0 :: bk0 o_roomsOfType o_roomsAtLeast o_firstRoomOfType o_slotActive o_slotType o_slotArrive o_slotNights o_exactCount o_atLeastCount o_planRoom o_planGrid o_planOrder o_totalRooms o_activeStays o_planOrderLength o_planCurrent o_planUnplaced po)) rfl ?_
    cases h
    exact OEnds.iret hm_28 rfl rfl
theorem ok_countIndex {o_roomsOfType : List Int32} {o_roomsAtLeast : List Int32} {o_firstRoomOfType : List Int32} {o_slotActive : List Int32} {o_slotType : List Int32} {o_slotArrive : List Int32} {o_slotNights : List Int32} {o_exactCount : List Int32} {o_atLeastCount : List Int32} {o_planRoom : List Int32} {o_planGrid : List Int32} {o_planOrder : List Int32} {o_totalRooms : Int32} {o_activeStays : Int32} {o_planOrderLength : Int32} {o_planCurrent : Int32} {o_planUnplaced : Int32} {c0 : ACell} {po : List ACell} {v1 : Int32} {v2 : Int32} {res : Int32} (h : f_countIndex v1 v2 = some res) : OEnds own_P 16 0 [.val (.ref 1), .val (.int v1), .val (.int v2)] [] (c0 :: bk0 o_roomsOfType o_roomsAtLeast o_firstRoomOfType o_slotActive o_slotType o_slotArrive o_slotNights o_exactCount o_atLeastCount o_planRoom o_planGrid o_planOrder o_totalRooms o_activeStays o_planOrderLength o_planCurrent o_planUnplaced po) (some (.int res), (c0 :: bk0 o_roomsOfType o_roomsAtLeast o_firstRoomOfType o_slotActive o_slotType o_slotArrive o_slotNights o_exactCount o_atLeastCount o_planRoom o_planGrid o_planOrder o_totalRooms o_activeStays o_planOrderLength o_planCurrent o_planUnplaced po), 0, 0) := by
  unfold f_countIndex at h
  refine OEnds.adv hm_16 5 (pc' := 6) (L' := [.val (.ref 1), .val (.int v1), .val (.int v2)]) (S' := [.int ((v1 * (32 : Int32)) + v2)]) (H' := (c0 :: bk0 o_roomsOfType o_roomsAtLeast o_firstRoomOfType o_slotActive o_slotType o_slotArrive o_slotNights o_exactCount o_atLeastCount o_planRoom o_planGrid o_planOrder o_totalRooms o_activeStays o_planOrderLength o_planCurrent o_planUnplaced po)) rfl ?_
  cases h
  exact OEnds.iret hm_16 rfl rfl
theorem ok_atLeastAt {o_roomsOfType : List Int32} {o_roomsAtLeast : List Int32} {o_firstRoomOfType : List Int32} {o_slotActive : List Int32} {o_slotType : List Int32} {o_slotArrive : List Int32} {o_slotNights : List Int32} {o_exactCount : List Int32} {o_atLeastCount : List Int32} {o_planRoom : List Int32} {o_planGrid : List Int32} {o_planOrder : List Int32} {o_totalRooms : Int32} {o_activeStays : Int32} {o_planOrderLength : Int32} {o_planCurrent : Int32} {o_planUnplaced : Int32} {c0 : ACell} {po : List ACell} {v1 : Int32} {v2 : Int32} {res : Int32} (h : f_atLeastAt o_atLeastCount v1 v2 = some res) : OEnds own_P 21 0 [.val (.ref 1), .val (.int v1), .val (.int v2)] [] (c0 :: bk0 o_roomsOfType o_roomsAtLeast o_firstRoomOfType o_slotActive o_slotType o_slotArrive o_slotNights o_exactCount o_atLeastCount o_planRoom o_planGrid o_planOrder o_totalRooms o_activeStays o_planOrderLength o_planCurrent o_planUnplaced po) (some (.int res), (c0 :: bk0 o_roomsOfType o_roomsAtLeast o_firstRoomOfType o_slotActive o_slotType o_slotArrive o_slotNights o_exactCount o_atLeastCount o_planRoom o_planGrid o_planOrder o_totalRooms o_activeStays o_planOrderLength o_planCurrent o_planUnplaced po), 0, 0) := by
  unfold f_atLeastAt at h
  refine OEnds.adv hm_21 2 (pc' := 2) (L' := [.val (.ref 1), .val (.int v1), .val (.int v2)]) (S' := [.int v1, .ref 1]) (H' := (c0 :: bk0 o_roomsOfType o_roomsAtLeast o_firstRoomOfType o_slotActive o_slotType o_slotArrive o_slotNights o_exactCount o_atLeastCount o_planRoom o_planGrid o_planOrder o_totalRooms o_activeStays o_planOrderLength o_planCurrent o_planUnplaced po)) rfl ?_
  obtain ⟨r42, hq27, h⟩ := bnd h
  refine OEnds.call0 hm_21 rfl rfl (by decide) rfl (as := [.ref 1, .int v1]) (rest := []) rfl rfl (ok_isValidType hq27) ?_
  show OEnds own_P 21 5 [.val (.ref 1), .val (.int v1), .val (.int v2)] [.int r42] (c0 :: bk0 o_roomsOfType o_roomsAtLeast o_firstRoomOfType o_slotActive o_slotType o_slotArrive o_slotNights o_exactCount o_atLeastCount o_planRoom o_planGrid o_planOrder o_totalRooms o_activeStays o_planOrderLength o_planCurrent o_planUnplaced po) _
  by_cases hc28 : r42 = (0 : Int32)
  · simp only [if_pos hc28] at h
    refine OEnds.ifT hm_21 rfl (q := 16) rfl ((teq hc28).1) ?_
    refine OEnds.adv hm_21 1 (pc' := 17) (L' := [.val (.ref 1), .val (.int v1), .val (.int v2)]) (S' := [.int 0]) (H' := (c0 :: bk0 o_roomsOfType o_roomsAtLeast o_firstRoomOfType o_slotActive o_slotType o_slotArrive o_slotNights o_exactCount o_atLeastCount o_planRoom o_planGrid o_planOrder o_totalRooms o_activeStays o_planOrderLength o_planCurrent o_planUnplaced po)) rfl ?_
    cases h
    exact OEnds.iret hm_21 rfl rfl
  · simp only [if_neg hc28] at h
    refine OEnds.ifF hm_21 rfl ((feq hc28).1) ?_
    refine OEnds.adv hm_21 2 (pc' := 10) (L' := [.val (.ref 1), .val (.int v1), .val (.int v2)]) (S' := [.int v2, .ref 1]) (H' := (c0 :: bk0 o_roomsOfType o_roomsAtLeast o_firstRoomOfType o_slotActive o_slotType o_slotArrive o_slotNights o_exactCount o_atLeastCount o_planRoom o_planGrid o_planOrder o_totalRooms o_activeStays o_planOrderLength o_planCurrent o_planUnplaced po)) rfl ?_
    obtain ⟨r43, hq29, h⟩ := bnd h
    refine OEnds.call0 hm_21 rfl rfl (by decide) rfl (as := [.ref 1, .int v2]) (rest := []) rfl rfl (ok_isValidNight hq29) ?_
    show OEnds own_P 21 13 [.val (.ref 1), .val (.int v1), .val (.int v2)] [.int r43] (c0 :: bk0 o_roomsOfType o_roomsAtLeast o_firstRoomOfType o_slotActive o_slotType o_slotArrive o_slotNights o_exactCount o_atLeastCount o_planRoom o_planGrid o_planOrder o_totalRooms o_activeStays o_planOrderLength o_planCurrent o_planUnplaced po) _
    by_cases hc30 : r43 = (0 : Int32)
    · simp only [if_pos hc30] at h
      refine OEnds.ifF hm_21 rfl ((teq hc30).2) ?_
      refine OEnds.adv hm_21 1 (pc' := 17) (L' := [.val (.ref 1), .val (.int v1), .val (.int v2)]) (S' := [.int 0]) (H' := (c0 :: bk0 o_roomsOfType o_roomsAtLeast o_firstRoomOfType o_slotActive o_slotType o_slotArrive o_slotNights o_exactCount o_atLeastCount o_planRoom o_planGrid o_planOrder o_totalRooms o_activeStays o_planOrderLength o_planCurrent o_planUnplaced po)) rfl ?_
      cases h
      exact OEnds.iret hm_21 rfl rfl
    · simp only [if_neg hc30] at h
      refine OEnds.ifT hm_21 rfl (q := 18) rfl ((feq hc30).2) ?_
      refine OEnds.adv hm_21 5 (pc' := 25) (L' := [.val (.ref 1), .val (.int v1), .val (.int v2)]) (S' := [.int v2, .int v1, .ref 1, .ref 10]) (H' := (c0 :: bk0 o_roomsOfType o_roomsAtLeast o_firstRoomOfType o_slotActive o_slotType o_slotArrive o_slotNights o_exactCount o_atLeastCount o_planRoom o_planGrid o_planOrder o_totalRooms o_activeStays o_planOrderLength o_planCurrent o_planUnplaced po)) rfl ?_
      obtain ⟨r44, hq31, h⟩ := bnd h
      refine OEnds.call0 hm_21 rfl rfl (by decide) rfl (as := [.ref 1, .int v1, .int v2]) (rest := [.ref 10]) rfl rfl (ok_countIndex hq31) ?_
      show OEnds own_P 21 28 [.val (.ref 1), .val (.int v1), .val (.int v2)] [.int r44, .ref 10] (c0 :: bk0 o_roomsOfType o_roomsAtLeast o_firstRoomOfType o_slotActive o_slotType o_slotArrive o_slotNights o_exactCount o_atLeastCount o_planRoom o_planGrid o_planOrder o_totalRooms o_activeStays o_planOrderLength o_planCurrent o_planUnplaced po) _
      obtain ⟨x45, hx45, h⟩ := bnd h
      refine OEnds.plain hm_21 rfl rfl (x_iaload rfl hx45) ?_
      show OEnds own_P 21 29 [.val (.ref 1), .val (.int v1), .val (.int v2)] [.int x45] (c0 :: bk0 o_roomsOfType o_roomsAtLeast o_firstRoomOfType o_slotActive o_slotType o_slotArrive o_slotNights o_exactCount o_atLeastCount o_planRoom o_planGrid o_planOrder o_totalRooms o_activeStays o_planOrderLength o_planCurrent o_planUnplaced po) _
      cases h
      exact OEnds.iret hm_21 rfl rfl
theorem ok_isActiveStay {o_roomsOfType : List Int32} {o_roomsAtLeast : List Int32} {o_firstRoomOfType : List Int32} {o_slotActive : List Int32} {o_slotType : List Int32} {o_slotArrive : List Int32} {o_slotNights : List Int32} {o_exactCount : List Int32} {o_atLeastCount : List Int32} {o_planRoom : List Int32} {o_planGrid : List Int32} {o_planOrder : List Int32} {o_totalRooms : Int32} {o_activeStays : Int32} {o_planOrderLength : Int32} {o_planCurrent : Int32} {o_planUnplaced : Int32} {c0 : ACell} {po : List ACell} {v1 : Int32} {res : Int32} (h : f_isActiveStay o_slotActive v1 = some res) : OEnds own_P 11 0 [.val (.ref 1), .val (.int v1)] [] (c0 :: bk0 o_roomsOfType o_roomsAtLeast o_firstRoomOfType o_slotActive o_slotType o_slotArrive o_slotNights o_exactCount o_atLeastCount o_planRoom o_planGrid o_planOrder o_totalRooms o_activeStays o_planOrderLength o_planCurrent o_planUnplaced po) (some (.int res), (c0 :: bk0 o_roomsOfType o_roomsAtLeast o_firstRoomOfType o_slotActive o_slotType o_slotArrive o_slotNights o_exactCount o_atLeastCount o_planRoom o_planGrid o_planOrder o_totalRooms o_activeStays o_planOrderLength o_planCurrent o_planUnplaced po), 0, 0) := by
  unfold f_isActiveStay at h
  refine OEnds.adv hm_11 1 (pc' := 1) (L' := [.val (.ref 1), .val (.int v1)]) (S' := [.int v1]) (H' := (c0 :: bk0 o_roomsOfType o_roomsAtLeast o_firstRoomOfType o_slotActive o_slotType o_slotArrive o_slotNights o_exactCount o_atLeastCount o_planRoom o_planGrid o_planOrder o_totalRooms o_activeStays o_planOrderLength o_planCurrent o_planUnplaced po)) rfl ?_
  by_cases hc32 : v1 < (0 : Int32)
  · simp only [if_pos hc32] at h
    refine OEnds.ifT hm_11 rfl (q := 10) rfl ((tlt hc32).1) ?_
    refine OEnds.adv hm_11 1 (pc' := 11) (L' := [.val (.ref 1), .val (.int v1)]) (S' := [.int 0]) (H' := (c0 :: bk0 o_roomsOfType o_roomsAtLeast o_firstRoomOfType o_slotActive o_slotType o_slotArrive o_slotNights o_exactCount o_atLeastCount o_planRoom o_planGrid o_planOrder o_totalRooms o_activeStays o_planOrderLength o_planCurrent o_planUnplaced po)) rfl ?_
    cases h
    exact OEnds.iret hm_11 rfl rfl
  · simp only [if_neg hc32] at h
    refine OEnds.ifF hm_11 rfl ((flt hc32).1) ?_
    refine OEnds.adv hm_11 2 (pc' := 7) (L' := [.val (.ref 1), .val (.int v1)]) (S' := [.int 32, .int v1]) (H' := (c0 :: bk0 o_roomsOfType o_roomsAtLeast o_firstRoomOfType o_slotActive o_slotType o_slotArrive o_slotNights o_exactCount o_atLeastCount o_planRoom o_planGrid o_planOrder o_totalRooms o_activeStays o_planOrderLength o_planCurrent o_planUnplaced po)) rfl ?_
    by_cases hc33 : v1 < (32 : Int32)
    · simp only [if_pos hc33] at h
      refine OEnds.icmpT hm_11 rfl (q := 12) rfl ((tlt hc33).1) ?_
      refine OEnds.adv hm_11 3 (pc' := 17) (L' := [.val (.ref 1), .val (.int v1)]) (S' := [.int v1, .ref 5]) (H' := (c0 :: bk0 o_roomsOfType o_roomsAtLeast o_firstRoomOfType o_slotActive o_slotType o_slotArrive o_slotNights o_exactCount o_atLeastCount o_planRoom o_planGrid o_planOrder o_totalRooms o_activeStays o_planOrderLength o_planCurrent o_planUnplaced po)) rfl ?_
      obtain ⟨x46, hx46, h⟩ := bnd h
      refine OEnds.plain hm_11 rfl rfl (x_baload rfl hx46) ?_
      show OEnds own_P 11 18 [.val (.ref 1), .val (.int v1)] [.int x46] (c0 :: bk0 o_roomsOfType o_roomsAtLeast o_firstRoomOfType o_slotActive o_slotType o_slotArrive o_slotNights o_exactCount o_atLeastCount o_planRoom o_planGrid o_planOrder o_totalRooms o_activeStays o_planOrderLength o_planCurrent o_planUnplaced po) _
      cases h
      exact OEnds.iret hm_11 rfl rfl
    · simp only [if_neg hc33] at h
      refine OEnds.icmpF hm_11 rfl ((flt hc33).1) ?_
      refine OEnds.adv hm_11 1 (pc' := 11) (L' := [.val (.ref 1), .val (.int v1)]) (S' := [.int 0]) (H' := (c0 :: bk0 o_roomsOfType o_roomsAtLeast o_firstRoomOfType o_slotActive o_slotType o_slotArrive o_slotNights o_exactCount o_atLeastCount o_planRoom o_planGrid o_planOrder o_totalRooms o_activeStays o_planOrderLength o_planCurrent o_planUnplaced po)) rfl ?_
      cases h
      exact OEnds.iret hm_11 rfl rfl
theorem ok_coversNight {o_roomsOfType : List Int32} {o_roomsAtLeast : List Int32} {o_firstRoomOfType : List Int32} {o_slotActive : List Int32} {o_slotType : List Int32} {o_slotArrive : List Int32} {o_slotNights : List Int32} {o_exactCount : List Int32} {o_atLeastCount : List Int32} {o_planRoom : List Int32} {o_planGrid : List Int32} {o_planOrder : List Int32} {o_totalRooms : Int32} {o_activeStays : Int32} {o_planOrderLength : Int32} {o_planCurrent : Int32} {o_planUnplaced : Int32} {c0 : ACell} {po : List ACell} {v1 : Int32} {v2 : Int32} {res : Int32} (h : f_coversNight o_slotActive o_slotArrive o_slotNights v1 v2 = some res) : OEnds own_P 48 0 [.val (.ref 1), .val (.int v1), .val (.int v2), .unset] [] (c0 :: bk0 o_roomsOfType o_roomsAtLeast o_firstRoomOfType o_slotActive o_slotType o_slotArrive o_slotNights o_exactCount o_atLeastCount o_planRoom o_planGrid o_planOrder o_totalRooms o_activeStays o_planOrderLength o_planCurrent o_planUnplaced po) (some (.int res), (c0 :: bk0 o_roomsOfType o_roomsAtLeast o_firstRoomOfType o_slotActive o_slotType o_slotArrive o_slotNights o_exactCount o_atLeastCount o_planRoom o_planGrid o_planOrder o_totalRooms o_activeStays o_planOrderLength o_planCurrent o_planUnplaced po), 0, 0) := by
  unfold f_coversNight at h
  refine OEnds.adv hm_48 2 (pc' := 2) (L' := [.val (.ref 1), .val (.int v1), .val (.int v2), .unset]) (S' := [.int v1, .ref 1]) (H' := (c0 :: bk0 o_roomsOfType o_roomsAtLeast o_firstRoomOfType o_slotActive o_slotType o_slotArrive o_slotNights o_exactCount o_atLeastCount o_planRoom o_planGrid o_planOrder o_totalRooms o_activeStays o_planOrderLength o_planCurrent o_planUnplaced po)) rfl ?_
  obtain ⟨r47, hq34, h⟩ := bnd h
  refine OEnds.call0 hm_48 rfl rfl (by decide) rfl (as := [.ref 1, .int v1]) (rest := []) rfl rfl (ok_isActiveStay hq34) ?_
  show OEnds own_P 48 5 [.val (.ref 1), .val (.int v1), .val (.int v2), .unset] [.int r47] (c0 :: bk0 o_roomsOfType o_roomsAtLeast o_firstRoomOfType o_slotActive o_slotType o_slotArrive o_slotNights o_exactCount o_atLeastCount o_planRoom o_planGrid o_planOrder o_totalRooms o_activeStays o_planOrderLength o_planCurrent o_planUnplaced po) _
  by_cases hc35 : r47 = (0 : Int32)
  · simp only [if_pos hc35] at h
    refine OEnds.ifF hm_48 rfl ((teq hc35).2) ?_
    refine OEnds.adv hm_48 1 (pc' := 9) (L' := [.val (.ref 1), .val (.int v1), .val (.int v2), .unset]) (S' := [.int 0]) (H' := (c0 :: bk0 o_roomsOfType o_roomsAtLeast o_firstRoomOfType o_slotActive o_slotType o_slotArrive o_slotNights o_exactCount o_atLeastCount o_planRoom o_planGrid o_planOrder o_totalRooms o_activeStays o_planOrderLength o_planCurrent o_planUnplaced po)) rfl ?_
    cases h
    exact OEnds.iret hm_48 rfl rfl
  · simp only [if_neg hc35] at h
    refine OEnds.ifT hm_48 rfl (q := 10) rfl ((feq hc35).2) ?_
    refine OEnds.adv hm_48 3 (pc' := 15) (L' := [.val (.ref 1), .val (.int v1), .val (.int v2), .unset]) (S' := [.int v1, .ref 7]) (H' := (c0 :: bk0 o_roomsOfType o_roomsAtLeast o_firstRoomOfType o_slotActive o_slotType o_slotArrive o_slotNights o_exactCount o_atLeastCount o_planRoom o_planGrid o_planOrder o_totalRooms o_activeStays o_planOrderLength o_planCurrent o_planUnplaced po)) rfl ?_
    obtain ⟨x48, hx48, h⟩ := bnd h
    refine OEnds.plain hm_48 rfl rfl (x_iaload rfl hx48) ?_
    refine OEnds.adv hm_48 3 (pc' := 19) (L' := [.val (.ref 1), .val (.int v1), .val (.int v2), .val (.int x48)]) (S' := [.int x48, .int v2]) (H' := (c0 :: bk0 o_roomsOfType o_roomsAtLeast o_firstRoomOfType o_slotActive o_slotType o_slotArrive o_slotNights o_exactCount o_atLeastCount o_planRoom o_planGrid o_planOrder o_totalRooms o_activeStays o_planOrderLength o_planCurrent o_planUnplaced po)) rfl ?_
    by_cases hc36 : v2 < x48
    · simp only [if_pos hc36] at h
      refine OEnds.icmpT hm_48 rfl (q := 38) rfl ((tlt hc36).1) ?_
      refine OEnds.adv hm_48 1 (pc' := 39) (L' := [.val (.ref 1), .val (.int v1), .val (.int v2), .val (.int x48)]) (S' := [.int 0]) (H' := (c0 :: bk0 o_roomsOfType o_roomsAtLeast o_firstRoomOfType o_slotActive o_slotType o_slotArrive o_slotNights o_exactCount o_atLeastCount o_planRoom o_planGrid o_planOrder o_totalRooms o_activeStays o_planOrderLength o_planCurrent o_planUnplaced po)) rfl ?_
      cases h
      exact OEnds.iret hm_48 rfl rfl
    · simp only [if_neg hc36] at h
      refine OEnds.icmpF hm_48 rfl ((flt hc36).1) ?_
      refine OEnds.adv hm_48 6 (pc' := 30) (L' := [.val (.ref 1), .val (.int v1), .val (.int v2), .val (.int x48)]) (S' := [.int v1, .ref 8, .int (v2 - x48)]) (H' := (c0 :: bk0 o_roomsOfType o_roomsAtLeast o_firstRoomOfType o_slotActive o_slotType o_slotArrive o_slotNights o_exactCount o_atLeastCount o_planRoom o_planGrid o_planOrder o_totalRooms o_activeStays o_planOrderLength o_planCurrent o_planUnplaced po)) rfl ?_
      obtain ⟨x49, hx49, h⟩ := bnd h
      refine OEnds.plain hm_48 rfl rfl (x_iaload rfl hx49) ?_
      show OEnds own_P 48 31 [.val (.ref 1), .val (.int v1), .val (.int v2), .val (.int x48)] [.int x49, .int (v2 - x48)] (c0 :: bk0 o_roomsOfType o_roomsAtLeast o_firstRoomOfType o_slotActive o_slotType o_slotArrive o_slotNights o_exactCount o_atLeastCount o_planRoom o_planGrid o_planOrder o_totalRooms o_activeStays o_planOrderLength o_planCurrent o_planUnplaced po) _
      by_cases hc37 : (v2 - x48) < x49
      · simp only [if_pos hc37] at h
        refine OEnds.icmpF hm_48 rfl ((tlt hc37).2.1) ?_
        refine OEnds.adv hm_48 2 (pc' := 39) (L' := [.val (.ref 1), .val (.int v1), .val (.int v2), .val (.int x48)]) (S' := [.int 1]) (H' := (c0 :: bk0 o_roomsOfType o_roomsAtLeast o_firstRoomOfType o_slotActive o_slotType o_slotArrive o_slotNights o_exactCount o_atLeastCount o_planRoom o_planGrid o_planOrder o_totalRooms o_activeStays o_planOrderLength o_planCurrent o_planUnplaced po)) rfl ?_
        cases h
        exact OEnds.iret hm_48 rfl rfl
      · simp only [if_neg hc37] at h
        refine OEnds.icmpT hm_48 rfl (q := 38) rfl ((flt hc37).2.1) ?_
        refine OEnds.adv hm_48 1 (pc' := 39) (L' := [.val (.ref 1), .val (.int v1), .val (.int v2), .val (.int x48)]) (S' := [.int 0]) (H' := (c0 :: bk0 o_roomsOfType o_roomsAtLeast o_firstRoomOfType o_slotActive o_slotType o_slotArrive o_slotNights o_exactCount o_atLeastCount o_planRoom o_planGrid o_planOrder o_totalRooms o_activeStays o_planOrderLength o_planCurrent o_planUnplaced po)) rfl ?_
        cases h
        exact OEnds.iret hm_48 rfl rfl
theorem ok_exclusion {o_roomsOfType : List Int32} {o_roomsAtLeast : List Int32} {o_firstRoomOfType : List Int32} {o_slotActive : List Int32} {o_slotType : List Int32} {o_slotArrive : List Int32} {o_slotNights : List Int32} {o_exactCount : List Int32} {o_atLeastCount : List Int32} {o_planRoom : List Int32} {o_planGrid : List Int32} {o_planOrder : List Int32} {o_totalRooms : Int32} {o_activeStays : Int32} {o_planOrderLength : Int32} {o_planCurrent : Int32} {o_planUnplaced : Int32} {c0 : ACell} {po : List ACell} {v1 : Int32} {v2 : Int32} {v3 : Int32} {res : Int32} (h : f_exclusion o_slotActive o_slotType o_slotArrive o_slotNights v1 v2 v3 = some res) : OEnds own_P 30 0 [.val (.ref 1), .val (.int v1), .val (.int v2), .val (.int v3)] [] (c0 :: bk0 o_roomsOfType o_roomsAtLeast o_firstRoomOfType o_slotActive o_slotType o_slotArrive o_slotNights o_exactCount o_atLeastCount o_planRoom o_planGrid o_planOrder o_totalRooms o_activeStays o_planOrderLength o_planCurrent o_planUnplaced po) (some (.int res), (c0 :: bk0 o_roomsOfType o_roomsAtLeast o_firstRoomOfType o_slotActive o_slotType o_slotArrive o_slotNights o_exactCount o_atLeastCount o_planRoom o_planGrid o_planOrder o_totalRooms o_activeStays o_planOrderLength o_planCurrent o_planUnplaced po), 0, 0) := by
  unfold f_exclusion at h
  refine OEnds.adv hm_30 2 (pc' := 2) (L' := [.val (.ref 1), .val (.int v1), .val (.int v2), .val (.int v3)]) (S' := [.int v1, .ref 1]) (H' := (c0 :: bk0 o_roomsOfType o_roomsAtLeast o_firstRoomOfType o_slotActive o_slotType o_slotArrive o_slotNights o_exactCount o_atLeastCount o_planRoom o_planGrid o_planOrder o_totalRooms o_activeStays o_planOrderLength o_planCurrent o_planUnplaced po)) rfl ?_
  obtain ⟨r50, hq38, h⟩ := bnd h
  refine OEnds.call0 hm_30 rfl rfl (by decide) rfl (as := [.ref 1, .int v1]) (rest := []) rfl rfl (ok_isActiveStay hq38) ?_
  show OEnds own_P 30 5 [.val (.ref 1), .val (.int v1), .val (.int v2), .val (.int v3)] [.int r50] (c0 :: bk0 o_roomsOfType o_roomsAtLeast o_firstRoomOfType o_slotActive o_slotType o_slotArrive o_slotNights o_exactCount o_atLeastCount o_planRoom o_planGrid o_planOrder o_totalRooms o_activeStays o_planOrderLength o_planCurrent o_planUnplaced po) _
  by_cases hc39 : r50 = (0 : Int32)
  · simp only [if_pos hc39] at h
    refine OEnds.ifF hm_30 rfl ((teq hc39).2) ?_
    refine OEnds.adv hm_30 1 (pc' := 9) (L' := [.val (.ref 1), .val (.int v1), .val (.int v2), .val (.int v3)]) (S' := [.int 0]) (H' := (c0 :: bk0 o_roomsOfType o_roomsAtLeast o_firstRoomOfType o_slotActive o_slotType o_slotArrive o_slotNights o_exactCount o_atLeastCount o_planRoom o_planGrid o_planOrder o_totalRooms o_activeStays o_planOrderLength o_planCurrent o_planUnplaced po)) rfl ?_
    cases h
    exact OEnds.iret hm_30 rfl rfl
  · simp only [if_neg hc39] at h
    refine OEnds.ifT hm_30 rfl (q := 10) rfl ((feq hc39).2) ?_
    refine OEnds.adv hm_30 3 (pc' := 15) (L' := [.val (.ref 1), .val (.int v1), .val (.int v2), .val (.int v3)]) (S' := [.int v1, .ref 6]) (H' := (c0 :: bk0 o_roomsOfType o_roomsAtLeast o_firstRoomOfType o_slotActive o_slotType o_slotArrive o_slotNights o_exactCount o_atLeastCount o_planRoom o_planGrid o_planOrder o_totalRooms o_activeStays o_planOrderLength o_planCurrent o_planUnplaced po)) rfl ?_
    obtain ⟨x51, hx51, h⟩ := bnd h
    refine OEnds.plain hm_30 rfl rfl (x_iaload rfl hx51) ?_
    refine OEnds.adv hm_30 1 (pc' := 17) (L' := [.val (.ref 1), .val (.int v1), .val (.int v2), .val (.int v3)]) (S' := [.int v2, .int x51]) (H' := (c0 :: bk0 o_roomsOfType o_roomsAtLeast o_firstRoomOfType o_slotActive o_slotType o_slotArrive o_slotNights o_exactCount o_atLeastCount o_planRoom o_planGrid o_planOrder o_totalRooms o_activeStays o_planOrderLength o_planCurrent o_planUnplaced po)) rfl ?_
    by_cases hc40 : x51 < v2
    · simp only [if_pos hc40] at h
      refine OEnds.icmpF hm_30 rfl ((tlt hc40).2.1) ?_
      refine OEnds.adv hm_30 1 (pc' := 21) (L' := [.val (.ref 1), .val (.int v1), .val (.int v2), .val (.int v3)]) (S' := [.int 0]) (H' := (c0 :: bk0 o_roomsOfType o_roomsAtLeast o_firstRoomOfType o_slotActive o_slotType o_slotArrive o_slotNights o_exactCount o_atLeastCount o_planRoom o_planGrid o_planOrder o_totalRooms o_activeStays o_planOrderLength o_planCurrent o_planUnplaced po)) rfl ?_
      cases h
      exact OEnds.iret hm_30 rfl rfl
    · simp only [if_neg hc40] at h
      refine OEnds.icmpT hm_30 rfl (q := 22) rfl ((flt hc40).2.1) ?_
      refine OEnds.adv hm_30 3 (pc' := 25) (L' := [.val (.ref 1), .val (.int v1), .val (.int v2), .val (.int v3)]) (S' := [.int v3, .int v1, .ref 1]) (H' := (c0 :: bk0 o_roomsOfType o_roomsAtLeast o_firstRoomOfType o_slotActive o_slotType o_slotArrive o_slotNights o_exactCount o_atLeastCount o_planRoom o_planGrid o_planOrder o_totalRooms o_activeStays o_planOrderLength o_planCurrent o_planUnplaced po)) rfl ?_
      obtain ⟨r52, hq41, h⟩ := bnd h
      refine OEnds.call0 hm_30 rfl rfl (by decide) rfl (as := [.ref 1, .int v1, .int v3]) (rest := []) rfl rfl (ok_coversNight hq41) ?_
      show OEnds own_P 30 28 [.val (.ref 1), .val (.int v1), .val (.int v2), .val (.int v3)] [.int r52] (c0 :: bk0 o_roomsOfType o_roomsAtLeast o_firstRoomOfType o_slotActive o_slotType o_slotArrive o_slotNights o_exactCount o_atLeastCount o_planRoom o_planGrid o_planOrder o_totalRooms o_activeStays o_planOrderLength o_planCurrent o_planUnplaced po) _
      by_cases hc42 : r52 = (0 : Int32)
      · simp only [if_pos hc42] at h
        refine OEnds.ifT hm_30 rfl (q := 33) rfl ((teq hc42).1) ?_
        refine OEnds.adv hm_30 1 (pc' := 34) (L' := [.val (.ref 1), .val (.int v1), .val (.int v2), .val (.int v3)]) (S' := [.int 0]) (H' := (c0 :: bk0 o_roomsOfType o_roomsAtLeast o_firstRoomOfType o_slotActive o_slotType o_slotArrive o_slotNights o_exactCount o_atLeastCount o_planRoom o_planGrid o_planOrder o_totalRooms o_activeStays o_planOrderLength o_planCurrent o_planUnplaced po)) rfl ?_
        cases h
        exact OEnds.iret hm_30 rfl rfl
      · simp only [if_neg hc42] at h
        refine OEnds.ifF hm_30 rfl ((feq hc42).1) ?_
        refine OEnds.adv hm_30 1 (pc' := 32) (L' := [.val (.ref 1), .val (.int v1), .val (.int v2), .val (.int v3)]) (S' := [.int 1]) (H' := (c0 :: bk0 o_roomsOfType o_roomsAtLeast o_firstRoomOfType o_slotActive o_slotType o_slotArrive o_slotNights o_exactCount o_atLeastCount o_planRoom o_planGrid o_planOrder o_totalRooms o_activeStays o_planOrderLength o_planCurrent o_planUnplaced po)) rfl ?_
        cases h
        exact OEnds.iret hm_30 rfl rfl
theorem ok_nightFits_3 {o_roomsOfType : List Int32} {o_roomsAtLeast : List Int32} {o_firstRoomOfType : List Int32} {o_slotActive : List Int32} {o_slotType : List Int32} {o_slotArrive : List Int32} {o_slotNights : List Int32} {o_exactCount : List Int32} {o_atLeastCount : List Int32} {o_planRoom : List Int32} {o_planGrid : List Int32} {o_planOrder : List Int32} {o_totalRooms : Int32} {o_activeStays : Int32} {o_planOrderLength : Int32} {o_planCurrent : Int32} {o_planUnplaced : Int32} {c0 : ACell} {po : List ACell} : ∀ (n : Nat), ∀ {v1 : Int32} {v2 : Int32} {v3 : Int32} {v4 : Int32} {d5 d6 d7 : Slot} {res : Int32}, f_nightFits_3 o_roomsAtLeast o_slotActive o_slotType o_slotArrive o_slotNights o_atLeastCount n v1 v2 v3 v4 = some res → OEnds own_P 29 3 [.val (.ref 1), .val (.int v1), .val (.int v2), .val (.int v3), .val (.int v4), d5, d6, d7] [] (c0 :: bk0 o_roomsOfType o_roomsAtLeast o_firstRoomOfType o_slotActive o_slotType o_slotArrive o_slotNights o_exactCount o_atLeastCount o_planRoom o_planGrid o_planOrder o_totalRooms o_activeStays o_planOrderLength o_planCurrent o_planUnplaced po) (some (.int res), (c0 :: bk0 o_roomsOfType o_roomsAtLeast o_firstRoomOfType o_slotActive o_slotType o_slotArrive o_slotNights o_exactCount o_atLeastCount o_planRoom o_planGrid o_planOrder o_totalRooms o_activeStays o_planOrderLength o_planCurrent o_planUnplaced po), 0, 0) := by
  intro n
  induction n with
  | zero => intro v1 v2 v3 v4 d5 d6 d7 res h; cases h
  | succ n ih =>
    intro v1 v2 v3 v4 d5 d6 d7 res h
    unfold f_nightFits_3 at h
    refine OEnds.adv hm_29 2 (pc' := 6) (L' := [.val (.ref 1), .val (.int v1), .val (.int v2), .val (.int v3), .val (.int v4), .unset, .unset, .unset]) (S' := [.int v2, .int v4]) (H' := (c0 :: bk0 o_roomsOfType o_roomsAtLeast o_firstRoomOfType o_slotActive o_slotType o_slotArrive o_slotNights o_exactCount o_atLeastCount o_planRoom o_planGrid o_planOrder o_totalRooms o_activeStays o_planOrderLength o_planCurrent o_planUnplaced po)) rfl ?_
    by_cases hc43 : v2 < v4
    · simp only [if_pos hc43] at h
      refine OEnds.icmpT hm_29 rfl (q := 63) rfl ((tlt hc43).2.2.1) ?_
      refine OEnds.adv hm_29 1 (pc' := 64) (L' := [.val (.ref 1), .val (.int v1), .val (.int v2), .val (.int v3), .val (.int v4), .unset, .unset, .unset]) (S' := [.int 1]) (H' := (c0 :: bk0 o_roomsOfType o_roomsAtLeast o_firstRoomOfType o_slotActive o_slotType o_slotArrive o_slotNights o_exactCount o_atLeastCount o_planRoom o_planGrid o_planOrder o_totalRooms o_activeStays o_planOrderLength o_planCurrent o_planUnplaced po)) rfl ?_
      cases h
      exact OEnds.iret hm_29 rfl rfl
    · simp only [if_neg hc43] at h
      refine OEnds.icmpF hm_29 rfl ((flt hc43).2.2.1) ?_
      refine OEnds.adv hm_29 2 (pc' := 12) (L' := [.val (.ref 1), .val (.int v1), .val (.int v2), .val (.int v3), .val (.int v4), .unset, .unset, .unset]) (S' := [.int 3, .int v4]) (H' := (c0 :: bk0 o_roomsOfType o_roomsAtLeast o_firstRoomOfType o_slotActive o_slotType o_slotArrive o_slotNights o_exactCount o_atLeastCount o_planRoom o_planGrid o_planOrder o_totalRooms o_activeStays o_planOrderLength o_planCurrent o_planUnplaced po)) rfl ?_
      by_cases hc44 : v4 < (3 : Int32)
      · simp only [if_pos hc44] at h
        refine OEnds.icmpF hm_29 rfl ((tlt hc44).2.1) ?_
        refine OEnds.adv hm_29 3 (pc' := 19) (L' := [.val (.ref 1), .val (.int v1), .val (.int v2), .val (.int v3), .val (.int v4), .unset, .unset, .unset]) (S' := [.int v3, .int v4, .ref 1]) (H' := (c0 :: bk0 o_roomsOfType o_roomsAtLeast o_firstRoomOfType o_slotActive o_slotType o_slotArrive o_slotNights o_exactCount o_atLeastCount o_planRoom o_planGrid o_planOrder o_totalRooms o_activeStays o_planOrderLength o_planCurrent o_planUnplaced po)) rfl ?_
        obtain ⟨r53, hq45, h⟩ := bnd h
        refine OEnds.call0 hm_29 rfl rfl (by decide) rfl (as := [.ref 1, .int v4, .int v3]) (rest := []) rfl rfl (ok_atLeastAt hq45) ?_
        refine OEnds.adv hm_29 5 (pc' := 29) (L' := [.val (.ref 1), .val (.int v1), .val (.int v2), .val (.int v3), .val (.int v4), .val (.int r53), .unset, .unset]) (S' := [.int v3, .int v4, .int v1, .ref 1]) (H' := (c0 :: bk0 o_roomsOfType o_roomsAtLeast o_firstRoomOfType o_slotActive o_slotType o_slotArrive o_slotNights o_exactCount o_atLeastCount o_planRoom o_planGrid o_planOrder o_totalRooms o_activeStays o_planOrderLength o_planCurrent o_planUnplaced po)) rfl ?_
        obtain ⟨r54, hq46, h⟩ := bnd h
        refine OEnds.call0 hm_29 rfl rfl (by decide) rfl (as := [.ref 1, .int v1, .int v4, .int v3]) (rest := []) rfl rfl (ok_exclusion hq46) ?_
        refine OEnds.adv hm_29 11 (pc' := 51) (L' := [.val (.ref 1), .val (.int v1), .val (.int v2), .val (.int v3), .val (.int v4), .val (.int r53), .val (.int r54), .val (.int ((r53 - r54) + (1 : Int32)))]) (S' := [.int v4, .ref 3, .int ((r53 - r54) + (1 : Int32))]) (H' := (c0 :: bk0 o_roomsOfType o_roomsAtLeast o_firstRoomOfType o_slotActive o_slotType o_slotArrive o_slotNights o_exactCount o_atLeastCount o_planRoom o_planGrid o_planOrder o_totalRooms o_activeStays o_planOrderLength o_planCurrent o_planUnplaced po)) rfl ?_
        obtain ⟨x55, hx55, h⟩ := bnd h
        refine OEnds.plain hm_29 rfl rfl (x_iaload rfl hx55) ?_
        show OEnds own_P 29 52 [.val (.ref 1), .val (.int v1), .val (.int v2), .val (.int v3), .val (.int v4), .val (.int r53), .val (.int r54), .val (.int ((r53 - r54) + (1 : Int32)))] [.int x55, .int ((r53 - r54) + (1 : Int32))] (c0 :: bk0 o_roomsOfType o_roomsAtLeast o_firstRoomOfType o_slotActive o_slotType o_slotArrive o_slotNights o_exactCount o_atLeastCount o_planRoom o_planGrid o_planOrder o_totalRooms o_activeStays o_planOrderLength o_planCurrent o_planUnplaced po) _
        by_cases hc47 : x55 < ((r53 - r54) + (1 : Int32))
        · simp only [if_pos hc47] at h
          refine OEnds.icmpF hm_29 rfl ((tlt hc47).2.2.2) ?_
          refine OEnds.adv hm_29 1 (pc' := 56) (L' := [.val (.ref 1), .val (.int v1), .val (.int v2), .val (.int v3), .val (.int v4), .val (.int r53), .val (.int r54), .val (.int ((r53 - r54) + (1 : Int32)))]) (S' := [.int 0]) (H' := (c0 :: bk0 o_roomsOfType o_roomsAtLeast o_firstRoomOfType o_slotActive o_slotType o_slotArrive o_slotNights o_exactCount o_atLeastCount o_planRoom o_planGrid o_planOrder o_totalRooms o_activeStays o_planOrderLength o_planCurrent o_planUnplaced po)) rfl ?_
          cases h
          exact OEnds.iret hm_29 rfl rfl
        · simp only [if_neg hc47] at h
          refine OEnds.icmpT hm_29 rfl (q := 57) rfl ((flt hc47).2.2.2) ?_
          refine OEnds.adv hm_29 2 (pc' := 3) (L' := [.val (.ref 1), .val (.int v1), .val (.int v2), .val (.int v3), .val (.int (v4 + (1 : Int32))), .val (.int r53), .val (.int r54), .val (.int ((r53 - r54) + (1 : Int32)))]) (S' := []) (H' := (c0 :: bk0 o_roomsOfType o_roomsAtLeast o_firstRoomOfType o_slotActive o_slotType o_slotArrive o_slotNights o_exactCount o_atLeastCount o_planRoom o_planGrid o_planOrder o_totalRooms o_activeStays o_planOrderLength o_planCurrent o_planUnplaced po)) rfl ?_
          exact ih h
      · simp only [if_neg hc44] at h
        refine OEnds.icmpT hm_29 rfl (q := 63) rfl ((flt hc44).2.1) ?_
        refine OEnds.adv hm_29 1 (pc' := 64) (L' := [.val (.ref 1), .val (.int v1), .val (.int v2), .val (.int v3), .val (.int v4), .unset, .unset, .unset]) (S' := [.int 1]) (H' := (c0 :: bk0 o_roomsOfType o_roomsAtLeast o_firstRoomOfType o_slotActive o_slotType o_slotArrive o_slotNights o_exactCount o_atLeastCount o_planRoom o_planGrid o_planOrder o_totalRooms o_activeStays o_planOrderLength o_planCurrent o_planUnplaced po)) rfl ?_
        cases h
        exact OEnds.iret hm_29 rfl rfl
theorem ok_nightFits {o_roomsOfType : List Int32} {o_roomsAtLeast : List Int32} {o_firstRoomOfType : List Int32} {o_slotActive : List Int32} {o_slotType : List Int32} {o_slotArrive : List Int32} {o_slotNights : List Int32} {o_exactCount : List Int32} {o_atLeastCount : List Int32} {o_planRoom : List Int32} {o_planGrid : List Int32} {o_planOrder : List Int32} {o_totalRooms : Int32} {o_activeStays : Int32} {o_planOrderLength : Int32} {o_planCurrent : Int32} {o_planUnplaced : Int32} {c0 : ACell} {po : List ACell} {v1 : Int32} {v2 : Int32} {v3 : Int32} {res : Int32} (h : f_nightFits o_roomsAtLeast o_slotActive o_slotType o_slotArrive o_slotNights o_atLeastCount v1 v2 v3 = some res) : OEnds own_P 29 0 [.val (.ref 1), .val (.int v1), .val (.int v2), .val (.int v3), .unset, .unset, .unset, .unset] [] (c0 :: bk0 o_roomsOfType o_roomsAtLeast o_firstRoomOfType o_slotActive o_slotType o_slotArrive o_slotNights o_exactCount o_atLeastCount o_planRoom o_planGrid o_planOrder o_totalRooms o_activeStays o_planOrderLength o_planCurrent o_planUnplaced po) (some (.int res), (c0 :: bk0 o_roomsOfType o_roomsAtLeast o_firstRoomOfType o_slotActive o_slotType o_slotArrive o_slotNights o_exactCount o_atLeastCount o_planRoom o_planGrid o_planOrder o_totalRooms o_activeStays o_planOrderLength o_planCurrent o_planUnplaced po), 0, 0) := by
  unfold f_nightFits at h
  refine OEnds.adv hm_29 2 (pc' := 3) (L' := [.val (.ref 1), .val (.int v1), .val (.int v2), .val (.int v3), .val (.int 0), .unset, .unset, .unset]) (S' := []) (H' := (c0 :: bk0 o_roomsOfType o_roomsAtLeast o_firstRoomOfType o_slotActive o_slotType o_slotArrive o_slotNights o_exactCount o_atLeastCount o_planRoom o_planGrid o_planOrder o_totalRooms o_activeStays o_planOrderLength o_planCurrent o_planUnplaced po)) rfl ?_
  exact ok_nightFits_3 100000 h
theorem ok_fitsWith_12 {o_roomsOfType : List Int32} {o_roomsAtLeast : List Int32} {o_firstRoomOfType : List Int32} {o_slotActive : List Int32} {o_slotType : List Int32} {o_slotArrive : List Int32} {o_slotNights : List Int32} {o_exactCount : List Int32} {o_atLeastCount : List Int32} {o_planRoom : List Int32} {o_planGrid : List Int32} {o_planOrder : List Int32} {o_totalRooms : Int32} {o_activeStays : Int32} {o_planOrderLength : Int32} {o_planCurrent : Int32} {o_planUnplaced : Int32} {c0 : ACell} {po : List ACell} : ∀ (n : Nat), ∀ {v1 : Int32} {v2 : Int32} {v5 : Int32} {v6 : Int32} {d3 d4 : Slot} {res : Int32}, f_fitsWith_12 o_roomsAtLeast o_slotActive o_slotType o_slotArrive o_slotNights o_atLeastCount n v1 v2 v5 v6 = some res → OEnds own_P 27 12 [.val (.ref 1), .val (.int v1), .val (.int v2), d3, d4, .val (.int v5), .val (.int v6)] [] (c0 :: bk0 o_roomsOfType o_roomsAtLeast o_firstRoomOfType o_slotActive o_slotType o_slotArrive o_slotNights o_exactCount o_atLeastCount o_planRoom o_planGrid o_planOrder o_totalRooms o_activeStays o_planOrderLength o_planCurrent o_planUnplaced po) (some (.int res), (c0 :: bk0 o_roomsOfType o_roomsAtLeast o_firstRoomOfType o_slotActive o_slotType o_slotArrive o_slotNights o_exactCount o_atLeastCount o_planRoom o_planGrid o_planOrder o_totalRooms o_activeStays o_planOrderLength o_planCurrent o_planUnplaced po), 0, 0) := by
  intro n
  induction n with
  | zero => intro v1 v2 v5 v6 d3 d4 res h; cases h
  | succ n ih =>
    intro v1 v2 v5 v6 d3 d4 res h
    unfold f_fitsWith_12 at h
    refine OEnds.adv hm_27 1 (pc' := 14) (L' := [.val (.ref 1), .val (.int v1), .val (.int v2), .unset, .unset, .val (.int v5), .val (.int v6)]) (S' := [.int v6]) (H' := (c0 :: bk0 o_roomsOfType o_roomsAtLeast o_firstRoomOfType o_slotActive o_slotType o_slotArrive o_slotNights o_exactCount o_atLeastCount o_planRoom o_planGrid o_planOrder o_totalRooms o_activeStays o_planOrderLength o_planCurrent o_planUnplaced po)) rfl ?_
    by_cases hc48 : v6 < (0 : Int32)
    · simp only [if_pos hc48] at h
      refine OEnds.ifT hm_27 rfl (q := 43) rfl ((tlt hc48).1) ?_
      refine OEnds.adv hm_27 1 (pc' := 44) (L' := [.val (.ref 1), .val (.int v1), .val (.int v2), .unset, .unset, .val (.int v5), .val (.int v6)]) (S' := [.int 1]) (H' := (c0 :: bk0 o_roomsOfType o_roomsAtLeast o_firstRoomOfType o_slotActive o_slotType o_slotArrive o_slotNights o_exactCount o_atLeastCount o_planRoom o_planGrid o_planOrder o_totalRooms o_activeStays o_planOrderLength o_planCurrent o_planUnplaced po)) rfl ?_
      cases h
      exact OEnds.iret hm_27 rfl rfl
    · simp only [if_neg hc48] at h
      refine OEnds.ifF hm_27 rfl ((flt hc48).1) ?_
      refine OEnds.adv hm_27 2 (pc' := 21) (L' := [.val (.ref 1), .val (.int v1), .val (.int v2), .unset, .unset, .val (.int v5), .val (.int v6)]) (S' := [.int v5, .int v6]) (H' := (c0 :: bk0 o_roomsOfType o_roomsAtLeast o_firstRoomOfType o_slotActive o_slotType o_slotArrive o_slotNights o_exactCount o_atLeastCount o_planRoom o_planGrid o_planOrder o_totalRooms o_activeStays o_planOrderLength o_planCurrent o_planUnplaced po)) rfl ?_
      by_cases hc49 : v6 < v5
      · simp only [if_pos hc49] at h
        refine OEnds.icmpF hm_27 rfl ((tlt hc49).2.1) ?_
        refine OEnds.adv hm_27 4 (pc' := 29) (L' := [.val (.ref 1), .val (.int v1), .val (.int v2), .unset, .unset, .val (.int v5), .val (.int v6)]) (S' := [.int v6, .int v2, .int v1, .ref 1]) (H' := (c0 :: bk0 o_roomsOfType o_roomsAtLeast o_firstRoomOfType o_slotActive o_slotType o_slotArrive o_slotNights o_exactCount o_atLeastCount o_planRoom o_planGrid o_planOrder o_totalRooms o_activeStays o_planOrderLength o_planCurrent o_planUnplaced po)) rfl ?_
        obtain ⟨r57, hq50, h⟩ := bnd h
        refine OEnds.call0 hm_27 rfl rfl (by decide) rfl (as := [.ref 1, .int v1, .int v2, .int v6]) (rest := []) rfl rfl (ok_nightFits hq50) ?_
        show OEnds own_P 27 32 [.val (.ref 1), .val (.int v1), .val (.int v2), .unset, .unset, .val (.int v5), .val (.int v6)] [.int r57] (c0 :: bk0 o_roomsOfType o_roomsAtLeast o_firstRoomOfType o_slotActive o_slotType o_slotArrive o_slotNights o_exactCount o_atLeastCount o_planRoom o_planGrid o_planOrder o_totalRooms o_activeStays o_planOrderLength o_planCurrent o_planUnplaced po) _
        by_cases hc51 : r57 = (0 : Int32)
        · simp only [if_pos hc51] at h
          refine OEnds.ifF hm_27 rfl ((teq hc51).2) ?_
          refine OEnds.adv hm_27 1 (pc' := 36) (L' := [.val (.ref 1), .val (.int v1), .val (.int v2), .unset, .unset, .val (.int v5), .val (.int v6)]) (S' := [.int 0]) (H' := (c0 :: bk0 o_roomsOfType o_roomsAtLeast o_firstRoomOfType o_slotActive o_slotType o_slotArrive o_slotNights o_exactCount o_atLeastCount o_planRoom o_planGrid o_planOrder o_totalRooms o_activeStays o_planOrderLength o_planCurrent o_planUnplaced po)) rfl ?_
          cases h
          exact OEnds.iret hm_27 rfl rfl
        · simp only [if_neg hc51] at h
          refine OEnds.ifT hm_27 rfl (q := 37) rfl ((feq hc51).2) ?_
          refine OEnds.adv hm_27 2 (pc' := 12) (L' := [.val (.ref 1), .val (.int v1), .val (.int v2), .unset, .unset, .val (.int v5), .val (.int (v6 + (1 : Int32)))]) (S' := []) (H' := (c0 :: bk0 o_roomsOfType o_roomsAtLeast o_firstRoomOfType o_slotActive o_slotType o_slotArrive o_slotNights o_exactCount o_atLeastCount o_planRoom o_planGrid o_planOrder o_totalRooms o_activeStays o_planOrderLength o_planCurrent o_planUnplaced po)) rfl ?_
          exact ih h
      · simp only [if_neg hc49] at h
        refine OEnds.icmpT hm_27 rfl (q := 43) rfl ((flt hc49).2.1) ?_
        refine OEnds.adv hm_27 1 (pc' := 44) (L' := [.val (.ref 1), .val (.int v1), .val (.int v2), .unset, .unset, .val (.int v5), .val (.int v6)]) (S' := [.int 1]) (H' := (c0 :: bk0 o_roomsOfType o_roomsAtLeast o_firstRoomOfType o_slotActive o_slotType o_slotArrive o_slotNights o_exactCount o_atLeastCount o_planRoom o_planGrid o_planOrder o_totalRooms o_activeStays o_planOrderLength o_planCurrent o_planUnplaced po)) rfl ?_
        cases h
        exact OEnds.iret hm_27 rfl rfl
theorem ok_fitsWith {o_roomsOfType : List Int32} {o_roomsAtLeast : List Int32} {o_firstRoomOfType : List Int32} {o_slotActive : List Int32} {o_slotType : List Int32} {o_slotArrive : List Int32} {o_slotNights : List Int32} {o_exactCount : List Int32} {o_atLeastCount : List Int32} {o_planRoom : List Int32} {o_planGrid : List Int32} {o_planOrder : List Int32} {o_totalRooms : Int32} {o_activeStays : Int32} {o_planOrderLength : Int32} {o_planCurrent : Int32} {o_planUnplaced : Int32} {c0 : ACell} {po : List ACell} {v1 : Int32} {v2 : Int32} {v3 : Int32} {v4 : Int32} {res : Int32} (h : f_fitsWith o_roomsAtLeast o_slotActive o_slotType o_slotArrive o_slotNights o_atLeastCount v1 v2 v3 v4 = some res) : OEnds own_P 27 0 [.val (.ref 1), .val (.int v1), .val (.int v2), .val (.int v3), .val (.int v4), .unset, .unset] [] (c0 :: bk0 o_roomsOfType o_roomsAtLeast o_firstRoomOfType o_slotActive o_slotType o_slotArrive o_slotNights o_exactCount o_atLeastCount o_planRoom o_planGrid o_planOrder o_totalRooms o_activeStays o_planOrderLength o_planCurrent o_planUnplaced po) (some (.int res), (c0 :: bk0 o_roomsOfType o_roomsAtLeast o_firstRoomOfType o_slotActive o_slotType o_slotArrive o_slotNights o_exactCount o_atLeastCount o_planRoom o_planGrid o_planOrder o_totalRooms o_activeStays o_planOrderLength o_planCurrent o_planUnplaced po), 0, 0) := by
  unfold f_fitsWith at h
  refine OEnds.adv hm_27 3 (pc' := 4) (L' := [.val (.ref 1), .val (.int v1), .val (.int v2), .val (.int v3), .val (.int v4), .unset, .unset]) (S' := [.int v4, .int v3, .ref 1]) (H' := (c0 :: bk0 o_roomsOfType o_roomsAtLeast o_firstRoomOfType o_slotActive o_slotType o_slotArrive o_slotNights o_exactCount o_atLeastCount o_planRoom o_planGrid o_planOrder o_totalRooms o_activeStays o_planOrderLength o_planCurrent o_planUnplaced po)) rfl ?_
  obtain ⟨r56, hq52, h⟩ := bnd h
  refine OEnds.call0 hm_27 rfl rfl (by decide) rfl (as := [.ref 1, .int v3, .int v4]) (rest := []) rfl rfl (ok_endOf hq52) ?_
  refine OEnds.adv hm_27 3 (pc' := 12) (L' := [.val (.ref 1), .val (.int v1), .val (.int v2), .val (.int v3), .val (.int v4), .val (.int r56), .val (.int v3)]) (S' := []) (H' := (c0 :: bk0 o_roomsOfType o_roomsAtLeast o_firstRoomOfType o_slotActive o_slotType o_slotArrive o_slotNights o_exactCount o_atLeastCount o_planRoom o_planGrid o_planOrder o_totalRooms o_activeStays o_planOrderLength o_planCurrent o_planUnplaced po)) rfl ?_
  exact ok_fitsWith_12 100000 h
theorem ok_canBook {o_roomsOfType : List Int32} {o_roomsAtLeast : List Int32} {o_firstRoomOfType : List Int32} {o_slotActive : List Int32} {o_slotType : List Int32} {o_slotArrive : List Int32} {o_slotNights : List Int32} {o_exactCount : List Int32} {o_atLeastCount : List Int32} {o_planRoom : List Int32} {o_planGrid : List Int32} {o_planOrder : List Int32} {o_totalRooms : Int32} {o_activeStays : Int32} {o_planOrderLength : Int32} {o_planCurrent : Int32} {o_planUnplaced : Int32} {c0 : ACell} {po : List ACell} {v1 : Int32} {v2 : Int32} {v3 : Int32} {res : Int32} (h : f_canBook o_roomsAtLeast o_slotActive o_slotType o_slotArrive o_slotNights o_atLeastCount o_activeStays v1 v2 v3 = some res) : OEnds own_P 24 0 [.val (.ref 1), .val (.int v1), .val (.int v2), .val (.int v3)] [] (c0 :: bk0 o_roomsOfType o_roomsAtLeast o_firstRoomOfType o_slotActive o_slotType o_slotArrive o_slotNights o_exactCount o_atLeastCount o_planRoom o_planGrid o_planOrder o_totalRooms o_activeStays o_planOrderLength o_planCurrent o_planUnplaced po) (some (.int res), (c0 :: bk0 o_roomsOfType o_roomsAtLeast o_firstRoomOfType o_slotActive o_slotType o_slotArrive o_slotNights o_exactCount o_atLeastCount o_planRoom o_planGrid o_planOrder o_totalRooms o_activeStays o_planOrderLength o_planCurrent o_planUnplaced po), 0, 0) := by
  unfold f_canBook at h
  refine OEnds.adv hm_24 4 (pc' := 4) (L' := [.val (.ref 1), .val (.int v1), .val (.int v2), .val (.int v3)]) (S' := [.int v3, .int v2, .int v1, .ref 1]) (H' := (c0 :: bk0 o_roomsOfType o_roomsAtLeast o_firstRoomOfType o_slotActive o_slotType o_slotArrive o_slotNights o_exactCount o_atLeastCount o_planRoom o_planGrid o_planOrder o_totalRooms o_activeStays o_planOrderLength o_planCurrent o_planUnplaced po)) rfl ?_
  obtain ⟨r58, hq53, h⟩ := bnd h
  refine OEnds.call0 hm_24 rfl rfl (by decide) rfl (as := [.ref 1, .int v1, .int v2, .int v3]) (rest := []) rfl rfl (ok_requestError hq53) ?_
  show OEnds own_P 24 7 [.val (.ref 1), .val (.int v1), .val (.int v2), .val (.int v3)] [.int r58] (c0 :: bk0 o_roomsOfType o_roomsAtLeast o_firstRoomOfType o_slotActive o_slotType o_slotArrive o_slotNights o_exactCount o_atLeastCount o_planRoom o_planGrid o_planOrder o_totalRooms o_activeStays o_planOrderLength o_planCurrent o_planUnplaced po) _
  by_cases hc54 : r58 = (0 : Int32)
  · simp only [if_pos hc54] at h
    refine OEnds.ifT hm_24 rfl (q := 12) rfl ((teq hc54).1) ?_
    refine OEnds.adv hm_24 3 (pc' := 18) (L' := [.val (.ref 1), .val (.int v1), .val (.int v2), .val (.int v3)]) (S' := [.int 32, .int o_activeStays]) (H' := (c0 :: bk0 o_roomsOfType o_roomsAtLeast o_firstRoomOfType o_slotActive o_slotType o_slotArrive o_slotNights o_exactCount o_atLeastCount o_planRoom o_planGrid o_planOrder o_totalRooms o_activeStays o_planOrderLength o_planCurrent o_planUnplaced po)) rfl ?_
    by_cases hc55 : o_activeStays < (32 : Int32)
    · simp only [if_pos hc55] at h
      refine OEnds.icmpT hm_24 rfl (q := 23) rfl ((tlt hc55).1) ?_
      refine OEnds.adv hm_24 5 (pc' := 28) (L' := [.val (.ref 1), .val (.int v1), .val (.int v2), .val (.int v3)]) (S' := [.int v3, .int v2, .int v1, .int (-1), .ref 1]) (H' := (c0 :: bk0 o_roomsOfType o_roomsAtLeast o_firstRoomOfType o_slotActive o_slotType o_slotArrive o_slotNights o_exactCount o_atLeastCount o_planRoom o_planGrid o_planOrder o_totalRooms o_activeStays o_planOrderLength o_planCurrent o_planUnplaced po)) rfl ?_
      obtain ⟨r59, hq56, h⟩ := bnd h
      refine OEnds.call0 hm_24 rfl rfl (by decide) rfl (as := [.ref 1, .int (-1), .int v1, .int v2, .int v3]) (rest := []) rfl rfl (ok_fitsWith hq56) ?_
      show OEnds own_P 24 31 [.val (.ref 1), .val (.int v1), .val (.int v2), .val (.int v3)] [.int r59] (c0 :: bk0 o_roomsOfType o_roomsAtLeast o_firstRoomOfType o_slotActive o_slotType o_slotArrive o_slotNights o_exactCount o_atLeastCount o_planRoom o_planGrid o_planOrder o_totalRooms o_activeStays o_planOrderLength o_planCurrent o_planUnplaced po) _
      cases h
      exact OEnds.iret hm_24 rfl rfl
    · simp only [if_neg hc55] at h
      refine OEnds.icmpF hm_24 rfl ((flt hc55).1) ?_
      refine OEnds.adv hm_24 1 (pc' := 22) (L' := [.val (.ref 1), .val (.int v1), .val (.int v2), .val (.int v3)]) (S' := [.int 0]) (H' := (c0 :: bk0 o_roomsOfType o_roomsAtLeast o_firstRoomOfType o_slotActive o_slotType o_slotArrive o_slotNights o_exactCount o_atLeastCount o_planRoom o_planGrid o_planOrder o_totalRooms o_activeStays o_planOrderLength o_planCurrent o_planUnplaced po)) rfl ?_
      cases h
      exact OEnds.iret hm_24 rfl rfl
  · simp only [if_neg hc54] at h
    refine OEnds.ifF hm_24 rfl ((feq hc54).1) ?_
    refine OEnds.adv hm_24 1 (pc' := 11) (L' := [.val (.ref 1), .val (.int v1), .val (.int v2), .val (.int v3)]) (S' := [.int 0]) (H' := (c0 :: bk0 o_roomsOfType o_roomsAtLeast o_firstRoomOfType o_slotActive o_slotType o_slotArrive o_slotNights o_exactCount o_atLeastCount o_planRoom o_planGrid o_planOrder o_totalRooms o_activeStays o_planOrderLength o_planCurrent o_planUnplaced po)) rfl ?_
    cases h
    exact OEnds.iret hm_24 rfl rfl
theorem ok_lowestInactiveSlot_2 {o_roomsOfType : List Int32} {o_roomsAtLeast : List Int32} {o_firstRoomOfType : List Int32} {o_slotActive : List Int32} {o_slotType : List Int32} {o_slotArrive : List Int32} {o_slotNights : List Int32} {o_exactCount : List Int32} {o_atLeastCount : List Int32} {o_planRoom : List Int32} {o_planGrid : List Int32} {o_planOrder : List Int32} {o_totalRooms : Int32} {o_activeStays : Int32} {o_planOrderLength : Int32} {o_planCurrent : Int32} {o_planUnplaced : Int32} {c0 : ACell} {po : List ACell} : ∀ (n : Nat), ∀ {v1 : Int32} {res : Int32}, f_lowestInactiveSlot_2 o_slotActive n v1 = some res → OEnds own_P 32 2 [.val (.ref 1), .val (.int v1)] [] (c0 :: bk0 o_roomsOfType o_roomsAtLeast o_firstRoomOfType o_slotActive o_slotType o_slotArrive o_slotNights o_exactCount o_atLeastCount o_planRoom o_planGrid o_planOrder o_totalRooms o_activeStays o_planOrderLength o_planCurrent o_planUnplaced po) (some (.int res), (c0 :: bk0 o_roomsOfType o_roomsAtLeast o_firstRoomOfType o_slotActive o_slotType o_slotArrive o_slotNights o_exactCount o_atLeastCount o_planRoom o_planGrid o_planOrder o_totalRooms o_activeStays o_planOrderLength o_planCurrent o_planUnplaced po), 0, 0) := by
  intro n
  induction n with
  | zero => intro v1 res h; cases h
  | succ n ih =>
    intro v1 res h
    unfold f_lowestInactiveSlot_2 at h
    refine OEnds.adv hm_32 2 (pc' := 5) (L' := [.val (.ref 1), .val (.int v1)]) (S' := [.int 32, .int v1]) (H' := (c0 :: bk0 o_roomsOfType o_roomsAtLeast o_firstRoomOfType o_slotActive o_slotType o_slotArrive o_slotNights o_exactCount o_atLeastCount o_planRoom o_planGrid o_planOrder o_totalRooms o_activeStays o_planOrderLength o_planCurrent o_planUnplaced po)) rfl ?_
    by_cases hc57 : v1 < (32 : Int32)
    · simp only [if_pos hc57] at h
      refine OEnds.icmpF hm_32 rfl ((tlt hc57).2.1) ?_
      refine OEnds.adv hm_32 3 (pc' := 13) (L' := [.val (.ref 1), .val (.int v1)]) (S' := [.int v1, .ref 5]) (H' := (c0 :: bk0 o_roomsOfType o_roomsAtLeast o_firstRoomOfType o_slotActive o_slotType o_slotArrive o_slotNights o_exactCount o_atLeastCount o_planRoom o_planGrid o_planOrder o_totalRooms o_activeStays o_planOrderLength o_planCurrent o_planUnplaced po)) rfl ?_
      obtain ⟨x60, hx60, h⟩ := bnd h
      refine OEnds.plain hm_32 rfl rfl (x_baload rfl hx60) ?_
      show OEnds own_P 32 14 [.val (.ref 1), .val (.int v1)] [.int x60] (c0 :: bk0 o_roomsOfType o_roomsAtLeast o_firstRoomOfType o_slotActive o_slotType o_slotArrive o_slotNights o_exactCount o_atLeastCount o_planRoom o_planGrid o_planOrder o_totalRooms o_activeStays o_planOrderLength o_planCurrent o_planUnplaced po) _
      by_cases hc58 : x60 = (0 : Int32)
      · simp only [if_pos hc58] at h
        refine OEnds.ifF hm_32 rfl ((teq hc58).2) ?_
        refine OEnds.adv hm_32 1 (pc' := 18) (L' := [.val (.ref 1), .val (.int v1)]) (S' := [.int v1]) (H' := (c0 :: bk0 o_roomsOfType o_roomsAtLeast o_firstRoomOfType o_slotActive o_slotType o_slotArrive o_slotNights o_exactCount o_atLeastCount o_planRoom o_planGrid o_planOrder o_totalRooms o_activeStays o_planOrderLength o_planCurrent o_planUnplaced po)) rfl ?_
        cases h
        exact OEnds.iret hm_32 rfl rfl
      · simp only [if_neg hc58] at h
        refine OEnds.ifT hm_32 rfl (q := 19) rfl ((feq hc58).2) ?_
        refine OEnds.adv hm_32 2 (pc' := 2) (L' := [.val (.ref 1), .val (.int (v1 + (1 : Int32)))]) (S' := []) (H' := (c0 :: bk0 o_roomsOfType o_roomsAtLeast o_firstRoomOfType o_slotActive o_slotType o_slotArrive o_slotNights o_exactCount o_atLeastCount o_planRoom o_planGrid o_planOrder o_totalRooms o_activeStays o_planOrderLength o_planCurrent o_planUnplaced po)) rfl ?_
        exact ih h
    · simp only [if_neg hc57] at h
      refine OEnds.icmpT hm_32 rfl (q := 25) rfl ((flt hc57).2.1) ?_
      refine OEnds.adv hm_32 1 (pc' := 26) (L' := [.val (.ref 1), .val (.int v1)]) (S' := [.int (-1)]) (H' := (c0 :: bk0 o_roomsOfType o_roomsAtLeast o_firstRoomOfType o_slotActive o_slotType o_slotArrive o_slotNights o_exactCount o_atLeastCount o_planRoom o_planGrid o_planOrder o_totalRooms o_activeStays o_planOrderLength o_planCurrent o_planUnplaced po)) rfl ?_
      cases h
      exact OEnds.iret hm_32 rfl rfl
theorem ok_lowestInactiveSlot {o_roomsOfType : List Int32} {o_roomsAtLeast : List Int32} {o_firstRoomOfType : List Int32} {o_slotActive : List Int32} {o_slotType : List Int32} {o_slotArrive : List Int32} {o_slotNights : List Int32} {o_exactCount : List Int32} {o_atLeastCount : List Int32} {o_planRoom : List Int32} {o_planGrid : List Int32} {o_planOrder : List Int32} {o_totalRooms : Int32} {o_activeStays : Int32} {o_planOrderLength : Int32} {o_planCurrent : Int32} {o_planUnplaced : Int32} {c0 : ACell} {po : List ACell} {res : Int32} (h : f_lowestInactiveSlot o_slotActive = some res) : OEnds own_P 32 0 [.val (.ref 1), .unset] [] (c0 :: bk0 o_roomsOfType o_roomsAtLeast o_firstRoomOfType o_slotActive o_slotType o_slotArrive o_slotNights o_exactCount o_atLeastCount o_planRoom o_planGrid o_planOrder o_totalRooms o_activeStays o_planOrderLength o_planCurrent o_planUnplaced po) (some (.int res), (c0 :: bk0 o_roomsOfType o_roomsAtLeast o_firstRoomOfType o_slotActive o_slotType o_slotArrive o_slotNights o_exactCount o_atLeastCount o_planRoom o_planGrid o_planOrder o_totalRooms o_activeStays o_planOrderLength o_planCurrent o_planUnplaced po), 0, 0) := by
  unfold f_lowestInactiveSlot at h
  refine OEnds.adv hm_32 2 (pc' := 2) (L' := [.val (.ref 1), .val (.int 0)]) (S' := []) (H' := (c0 :: bk0 o_roomsOfType o_roomsAtLeast o_firstRoomOfType o_slotActive o_slotType o_slotArrive o_slotNights o_exactCount o_atLeastCount o_planRoom o_planGrid o_planOrder o_totalRooms o_activeStays o_planOrderLength o_planCurrent o_planUnplaced po)) rfl ?_
  exact ok_lowestInactiveSlot_2 100000 h
theorem ok_storeStay {o_roomsOfType : List Int32} {o_roomsAtLeast : List Int32} {o_firstRoomOfType : List Int32} {o_slotActive : List Int32} {o_exactCount : List Int32} {o_atLeastCount : List Int32} {o_planRoom : List Int32} {o_planGrid : List Int32} {o_planOrder : List Int32} {o_totalRooms : Int32} {o_activeStays : Int32} {o_planOrderLength : Int32} {o_planCurrent : Int32} {o_planUnplaced : Int32} {c0 : ACell} {po : List ACell} {o_slotType : List Int32} {o_slotArrive : List Int32} {o_slotNights : List Int32} {v1 : Int32} {v2 : Int32} {v3 : Int32} {v4 : Int32} {w_o_slotType : List Int32} {w_o_slotArrive : List Int32} {w_o_slotNights : List Int32} (h : f_storeStay o_slotType o_slotArrive o_slotNights v1 v2 v3 v4 = some (w_o_slotType, w_o_slotArrive, w_o_slotNights)) : OEnds own_P 34 0 [.val (.ref 1), .val (.int v1), .val (.int v2), .val (.int v3), .val (.int v4)] [] (c0 :: bk0 o_roomsOfType o_roomsAtLeast o_firstRoomOfType o_slotActive o_slotType o_slotArrive o_slotNights o_exactCount o_atLeastCount o_planRoom o_planGrid o_planOrder o_totalRooms o_activeStays o_planOrderLength o_planCurrent o_planUnplaced po) (none, (c0 :: bk0 o_roomsOfType o_roomsAtLeast o_firstRoomOfType o_slotActive w_o_slotType w_o_slotArrive w_o_slotNights o_exactCount o_atLeastCount o_planRoom o_planGrid o_planOrder o_totalRooms o_activeStays o_planOrderLength o_planCurrent o_planUnplaced po), 0, 0) := by
  unfold f_storeStay at h
  refine OEnds.adv hm_34 4 (pc' := 6) (L' := [.val (.ref 1), .val (.int v1), .val (.int v2), .val (.int v3), .val (.int v4)]) (S' := [.int v2, .int v1, .ref 6]) (H' := (c0 :: bk0 o_roomsOfType o_roomsAtLeast o_firstRoomOfType o_slotActive o_slotType o_slotArrive o_slotNights o_exactCount o_atLeastCount o_planRoom o_planGrid o_planOrder o_totalRooms o_activeStays o_planOrderLength o_planCurrent o_planUnplaced po)) rfl ?_
  obtain ⟨A61, hA61, h⟩ := bnd h
  refine OEnds.plain hm_34 rfl rfl (x_iastore rfl (Nat.le_of_ble_eq_true rfl) hA61) ?_
  refine OEnds.adv hm_34 4 (pc' := 13) (L' := [.val (.ref 1), .val (.int v1), .val (.int v2), .val (.int v3), .val (.int v4)]) (S' := [.int v3, .int v1, .ref 7]) (H' := (c0 :: bk0 o_roomsOfType o_roomsAtLeast o_firstRoomOfType o_slotActive A61 o_slotArrive o_slotNights o_exactCount o_atLeastCount o_planRoom o_planGrid o_planOrder o_totalRooms o_activeStays o_planOrderLength o_planCurrent o_planUnplaced po)) rfl ?_
  obtain ⟨A62, hA62, h⟩ := bnd h
  refine OEnds.plain hm_34 rfl rfl (x_iastore rfl (Nat.le_of_ble_eq_true rfl) hA62) ?_
  refine OEnds.adv hm_34 4 (pc' := 21) (L' := [.val (.ref 1), .val (.int v1), .val (.int v2), .val (.int v3), .val (.int v4)]) (S' := [.int v4, .int v1, .ref 8]) (H' := (c0 :: bk0 o_roomsOfType o_roomsAtLeast o_firstRoomOfType o_slotActive A61 A62 o_slotNights o_exactCount o_atLeastCount o_planRoom o_planGrid o_planOrder o_totalRooms o_activeStays o_planOrderLength o_planCurrent o_planUnplaced po)) rfl ?_
  obtain ⟨A63, hA63, h⟩ := bnd h
  refine OEnds.plain hm_34 rfl rfl (x_iastore rfl (Nat.le_of_ble_eq_true rfl) hA63) ?_
  show OEnds own_P 34 22 [.val (.ref 1), .val (.int v1), .val (.int v2), .val (.int v3), .val (.int v4)] [] (c0 :: bk0 o_roomsOfType o_roomsAtLeast o_firstRoomOfType o_slotActive A61 A62 A63 o_exactCount o_atLeastCount o_planRoom o_planGrid o_planOrder o_totalRooms o_activeStays o_planOrderLength o_planCurrent o_planUnplaced po) _
  cases h
  exact OEnds.vret hm_34 rfl rfl
theorem ok_adjustCoverage_84 {o_roomsOfType : List Int32} {o_roomsAtLeast : List Int32} {o_firstRoomOfType : List Int32} {o_slotActive : List Int32} {o_slotType : List Int32} {o_slotArrive : List Int32} {o_slotNights : List Int32} {o_planRoom : List Int32} {o_planGrid : List Int32} {o_planOrder : List Int32} {o_totalRooms : Int32} {o_activeStays : Int32} {o_planOrderLength : Int32} {o_planCurrent : Int32} {o_planUnplaced : Int32} {c0 : ACell} {po : List ACell} {k53 : List Int32 → List Int32 → Int32 → Int32 → Int32 → Int32 → Option (List Int32 × List Int32)} (hk53 : ∀ {o_exactCount : List Int32} {o_atLeastCount : List Int32} {v2 : Int32} {v3 : Int32} {v5 : Int32} {v6 : Int32} {d1 d4 d7 : Slot} {w_o_exactCount : List Int32} {w_o_atLeastCount : List Int32}, k53 o_exactCount o_atLeastCount v2 v3 v5 v6 = some (w_o_exactCount, w_o_atLeastCount) → OEnds own_P 35 53 [.val (.ref 1), d1, .val (.int v2), .val (.int v3), d4, .val (.int v5), .val (.int v6), d7] [] (c0 :: bk0 o_roomsOfType o_roomsAtLeast o_firstRoomOfType o_slotActive o_slotType o_slotArrive o_slotNights o_exactCount o_atLeastCount o_planRoom o_planGrid o_planOrder o_totalRooms o_activeStays o_planOrderLength o_planCurrent o_planUnplaced po) (none, (c0 :: bk0 o_roomsOfType o_roomsAtLeast o_firstRoomOfType o_slotActive o_slotType o_slotArrive o_slotNights w_o_exactCount w_o_atLeastCount o_planRoom o_planGrid o_planOrder o_totalRooms o_activeStays o_planOrderLength o_planCurrent o_planUnplaced po), 0, 0)) : ∀ (n : Nat), ∀ {o_exactCount : List Int32} {o_atLeastCount : List Int32} {v2 : Int32} {v3 : Int32} {v5 : Int32} {v6 : Int32} {v7 : Int32} {d1 d4 : Slot} {w_o_exactCount : List Int32} {w_o_atLeastCount : List Int32}, f_adjustCoverage_84 k53 o_slotType o_slotArrive o_slotNights n o_exactCount o_atLeastCount v2 v3 v5 v6 v7 = some (w_o_exactCount, w_o_atLeastCount) → OEnds own_P 35 84 [.val (.ref 1), d1, .val (.int v2), .val (.int v3), d4, .val (.int v5), .val (.int v6), .val (.int v7)] [] (c0 :: bk0 o_roomsOfType o_roomsAtLeast o_firstRoomOfType o_slotActive o_slotType o_slotArrive o_slotNights o_exactCount o_atLeastCount o_planRoom o_planGrid o_planOrder o_totalRooms o_activeStays o_planOrderLength o_planCurrent o_planUnplaced po) (none, (c0 :: bk0 o_roomsOfType o_roomsAtLeast o_firstRoomOfType o_slotActive o_slotType o_slotArrive o_slotNights w_o_exactCount w_o_atLeastCount o_planRoom o_planGrid o_planOrder o_totalRooms o_activeStays o_planOrderLength o_planCurrent o_planUnplaced po), 0, 0) := by
  intro n
  induction n with
  | zero => intro o_exactCount o_atLeastCount v2 v3 v5 v6 v7 d1 d4 w_o_exactCount w_o_atLeastCount h; cases h
  | succ n ih =>
    intro o_exactCount o_atLeastCount v2 v3 v5 v6 v7 d1 d4 w_o_exactCount w_o_atLeastCount h
    unfold f_adjustCoverage_84 at h
    refine OEnds.adv hm_35 2 (pc' := 87) (L' := [.val (.ref 1), .unset, .val (.int v2), .val (.int v3), .unset, .val (.int v5), .val (.int v6), .val (.int v7)]) (S' := [.int v3, .int v7]) (H' := (c0 :: bk0 o_roomsOfType o_roomsAtLeast o_firstRoomOfType o_slotActive o_slotType o_slotArrive o_slotNights o_exactCount o_atLeastCount o_planRoom o_planGrid o_planOrder o_totalRooms o_activeStays o_planOrderLength o_planCurrent o_planUnplaced po)) rfl ?_
    by_cases hc59 : v3 < v7
    · simp only [if_pos hc59] at h
      refine OEnds.icmpT hm_35 rfl (q := 113) rfl ((tlt hc59).2.2.1) ?_
      refine OEnds.adv hm_35 2 (pc' := 53) (L' := [.val (.ref 1), .unset, .val (.int v2), .val (.int v3), .unset, .val (.int v5), .val (.int (v6 + (1 : Int32))), .val (.int v7)]) (S' := []) (H' := (c0 :: bk0 o_roomsOfType o_roomsAtLeast o_firstRoomOfType o_slotActive o_slotType o_slotArrive o_slotNights o_exactCount o_atLeastCount o_planRoom o_planGrid o_planOrder o_totalRooms o_activeStays o_planOrderLength o_planCurrent o_planUnplaced po)) rfl ?_
      exact hk53 h
    · simp only [if_neg hc59] at h
      refine OEnds.icmpF hm_35 rfl ((flt hc59).2.2.1) ?_
      refine OEnds.adv hm_35 5 (pc' := 99) (L' := [.val (.ref 1), .unset, .val (.int v2), .val (.int v3), .unset, .val (.int v5), .val (.int v6), .val (.int v7)]) (S' := [.int v6, .int v7, .ref 1, .ref 10]) (H' := (c0 :: bk0 o_roomsOfType o_roomsAtLeast o_firstRoomOfType o_slotActive o_slotType o_slotArrive o_slotNights o_exactCount o_atLeastCount o_planRoom o_planGrid o_planOrder o_totalRooms o_activeStays o_planOrderLength o_planCurrent o_planUnplaced po)) rfl ?_
      obtain ⟨r72, hq60, h⟩ := bnd h
      refine OEnds.call0 hm_35 rfl rfl (by decide) rfl (as := [.ref 1, .int v7, .int v6]) (rest := [.ref 10]) rfl rfl (ok_countIndex hq60) ?_
      refine OEnds.adv hm_35 1 (pc' := 103) (L' := [.val (.ref 1), .unset, .val (.int v2), .val (.int v3), .unset, .val (.int v5), .val (.int v6), .val (.int v7)]) (S' := [.int r72, .ref 10, .int r72, .ref 10]) (H' := (c0 :: bk0 o_roomsOfType o_roomsAtLeast o_firstRoomOfType o_slotActive o_slotType o_slotArrive o_slotNights o_exactCount o_atLeastCount o_planRoom o_planGrid o_planOrder o_totalRooms o_activeStays o_planOrderLength o_planCurrent o_planUnplaced po)) rfl ?_
      obtain ⟨x73, hx73, h⟩ := bnd h
      refine OEnds.plain hm_35 rfl rfl (x_iaload rfl hx73) ?_
      refine OEnds.adv hm_35 2 (pc' := 106) (L' := [.val (.ref 1), .unset, .val (.int v2), .val (.int v3), .unset, .val (.int v5), .val (.int v6), .val (.int v7)]) (S' := [.int (x73 + v2), .int r72, .ref 10]) (H' := (c0 :: bk0 o_roomsOfType o_roomsAtLeast o_firstRoomOfType o_slotActive o_slotType o_slotArrive o_slotNights o_exactCount o_atLeastCount o_planRoom o_planGrid o_planOrder o_totalRooms o_activeStays o_planOrderLength o_planCurrent o_planUnplaced po)) rfl ?_
      obtain ⟨A74, hA74, h⟩ := bnd h
      refine OEnds.plain hm_35 rfl rfl (x_iastore rfl (Nat.le_of_ble_eq_true rfl) hA74) ?_
      refine OEnds.adv hm_35 2 (pc' := 84) (L' := [.val (.ref 1), .unset, .val (.int v2), .val (.int v3), .unset, .val (.int v5), .val (.int v6), .val (.int (v7 + (1 : Int32)))]) (S' := []) (H' := (c0 :: bk0 o_roomsOfType o_roomsAtLeast o_firstRoomOfType o_slotActive o_slotType o_slotArrive o_slotNights o_exactCount A74 o_planRoom o_planGrid o_planOrder o_totalRooms o_activeStays o_planOrderLength o_planCurrent o_planUnplaced po)) rfl ?_
      exact ih h
theorem ok_adjustCoverage_53 {o_roomsOfType : List Int32} {o_roomsAtLeast : List Int32} {o_firstRoomOfType : List Int32} {o_slotActive : List Int32} {o_slotType : List Int32} {o_slotArrive : List Int32} {o_slotNights : List Int32} {o_planRoom : List Int32} {o_planGrid : List Int32} {o_planOrder : List Int32} {o_totalRooms : Int32} {o_activeStays : Int32} {o_planOrderLength : Int32} {o_planCurrent : Int32} {o_planUnplaced : Int32} {c0 : ACell} {po : List ACell} : ∀ (n : Nat), ∀ {o_exactCount : List Int32} {o_atLeastCount : List Int32} {v2 : Int32} {v3 : Int32} {v5 : Int32} {v6 : Int32} {d1 d4 d7 : Slot} {w_o_exactCount : List Int32} {w_o_atLeastCount : List Int32}, f_adjustCoverage_53 o_slotType o_slotArrive o_slotNights n o_exactCount o_atLeastCount v2 v3 v5 v6 = some (w_o_exactCount, w_o_atLeastCount) → OEnds own_P 35 53 [.val (.ref 1), d1, .val (.int v2), .val (.int v3), d4, .val (.int v5), .val (.int v6), d7] [] (c0 :: bk0 o_roomsOfType o_roomsAtLeast o_firstRoomOfType o_slotActive o_slotType o_slotArrive o_slotNights o_exactCount o_atLeastCount o_planRoom o_planGrid o_planOrder o_totalRooms o_activeStays o_planOrderLength o_planCurrent o_planUnplaced po) (none, (c0 :: bk0 o_roomsOfType o_roomsAtLeast o_firstRoomOfType o_slotActive o_slotType o_slotArrive o_slotNights w_o_exactCount w_o_atLeastCount o_planRoom o_planGrid o_planOrder o_totalRooms o_activeStays o_planOrderLength o_planCurrent o_planUnplaced po), 0, 0) := by
  intro n
  induction n with
  | zero => intro o_exactCount o_atLeastCount v2 v3 v5 v6 d1 d4 d7 w_o_exactCount w_o_atLeastCount h; cases h
  | succ n ih =>
    intro o_exactCount o_atLeastCount v2 v3 v5 v6 d1 d4 d7 w_o_exactCount w_o_atLeastCount h
    unfold f_adjustCoverage_53 at h
    refine OEnds.adv hm_35 1 (pc' := 55) (L' := [.val (.ref 1), .unset, .val (.int v2), .val (.int v3), .unset, .val (.int v5), .val (.int v6), .unset]) (S' := [.int v6]) (H' := (c0 :: bk0 o_roomsOfType o_roomsAtLeast o_firstRoomOfType o_slotActive o_slotType o_slotArrive o_slotNights o_exactCount o_atLeastCount o_planRoom o_planGrid o_planOrder o_totalRooms o_activeStays o_planOrderLength o_planCurrent o_planUnplaced po)) rfl ?_
    by_cases hc61 : v6 < (0 : Int32)
    · simp only [if_pos hc61] at h
      refine OEnds.ifT hm_35 rfl (q := 119) rfl ((tlt hc61).1) ?_
      show OEnds own_P 35 119 [.val (.ref 1), .unset, .val (.int v2), .val (.int v3), .unset, .val (.int v5), .val (.int v6), .unset] [] (c0 :: bk0 o_roomsOfType o_roomsAtLeast o_firstRoomOfType o_slotActive o_slotType o_slotArrive o_slotNights o_exactCount o_atLeastCount o_planRoom o_planGrid o_planOrder o_totalRooms o_activeStays o_planOrderLength o_planCurrent o_planUnplaced po) _
      cases h
      exact OEnds.vret hm_35 rfl rfl
    · simp only [if_neg hc61] at h
      refine OEnds.ifF hm_35 rfl ((flt hc61).1) ?_
      refine OEnds.adv hm_35 2 (pc' := 62) (L' := [.val (.ref 1), .unset, .val (.int v2), .val (.int v3), .unset, .val (.int v5), .val (.int v6), .unset]) (S' := [.int v5, .int v6]) (H' := (c0 :: bk0 o_roomsOfType o_roomsAtLeast o_firstRoomOfType o_slotActive o_slotType o_slotArrive o_slotNights o_exactCount o_atLeastCount o_planRoom o_planGrid o_planOrder o_totalRooms o_activeStays o_planOrderLength o_planCurrent o_planUnplaced po)) rfl ?_
      by_cases hc62 : v6 < v5
      · simp only [if_pos hc62] at h
        refine OEnds.icmpF hm_35 rfl ((tlt hc62).2.1) ?_
        refine OEnds.adv hm_35 5 (pc' := 73) (L' := [.val (.ref 1), .unset, .val (.int v2), .val (.int v3), .unset, .val (.int v5), .val (.int v6), .unset]) (S' := [.int v6, .int v3, .ref 1, .ref 9]) (H' := (c0 :: bk0 o_roomsOfType o_roomsAtLeast o_firstRoomOfType o_slotActive o_slotType o_slotArrive o_slotNights o_exactCount o_atLeastCount o_planRoom o_planGrid o_planOrder o_totalRooms o_activeStays o_planOrderLength o_planCurrent o_planUnplaced po)) rfl ?_
        obtain ⟨r69, hq63, h⟩ := bnd h
        refine OEnds.call0 hm_35 rfl rfl (by decide) rfl (as := [.ref 1, .int v3, .int v6]) (rest := [.ref 9]) rfl rfl (ok_countIndex hq63) ?_
        refine OEnds.adv hm_35 1 (pc' := 77) (L' := [.val (.ref 1), .unset, .val (.int v2), .val (.int v3), .unset, .val (.int v5), .val (.int v6), .unset]) (S' := [.int r69, .ref 9, .int r69, .ref 9]) (H' := (c0 :: bk0 o_roomsOfType o_roomsAtLeast o_firstRoomOfType o_slotActive o_slotType o_slotArrive o_slotNights o_exactCount o_atLeastCount o_planRoom o_planGrid o_planOrder o_totalRooms o_activeStays o_planOrderLength o_planCurrent o_planUnplaced po)) rfl ?_
        obtain ⟨x70, hx70, h⟩ := bnd h
        refine OEnds.plain hm_35 rfl rfl (x_iaload rfl hx70) ?_
        refine OEnds.adv hm_35 2 (pc' := 80) (L' := [.val (.ref 1), .unset, .val (.int v2), .val (.int v3), .unset, .val (.int v5), .val (.int v6), .unset]) (S' := [.int (x70 + v2), .int r69, .ref 9]) (H' := (c0 :: bk0 o_roomsOfType o_roomsAtLeast o_firstRoomOfType o_slotActive o_slotType o_slotArrive o_slotNights o_exactCount o_atLeastCount o_planRoom o_planGrid o_planOrder o_totalRooms o_activeStays o_planOrderLength o_planCurrent o_planUnplaced po)) rfl ?_
        obtain ⟨A71, hA71, h⟩ := bnd h
        refine OEnds.plain hm_35 rfl rfl (x_iastore rfl (Nat.le_of_ble_eq_true rfl) hA71) ?_
        refine OEnds.adv hm_35 2 (pc' := 84) (L' := [.val (.ref 1), .unset, .val (.int v2), .val (.int v3), .unset, .val (.int v5), .val (.int v6), .val (.int 0)]) (S' := []) (H' := (c0 :: bk0 o_roomsOfType o_roomsAtLeast o_firstRoomOfType o_slotActive o_slotType o_slotArrive o_slotNights A71 o_atLeastCount o_planRoom o_planGrid o_planOrder o_totalRooms o_activeStays o_planOrderLength o_planCurrent o_planUnplaced po)) rfl ?_
        exact ok_adjustCoverage_84 (k53 := f_adjustCoverage_53 o_slotType o_slotArrive o_slotNights n) ih 100000 h
      · simp only [if_neg hc62] at h
        refine OEnds.icmpT hm_35 rfl (q := 119) rfl ((flt hc62).2.1) ?_
        show OEnds own_P 35 119 [.val (.ref 1), .unset, .val (.int v2), .val (.int v3), .unset, .val (.int v5), .val (.int v6), .unset] [] (c0 :: bk0 o_roomsOfType o_roomsAtLeast o_firstRoomOfType o_slotActive o_slotType o_slotArrive o_slotNights o_exactCount o_atLeastCount o_planRoom o_planGrid o_planOrder o_totalRooms o_activeStays o_planOrderLength o_planCurrent o_planUnplaced po) _
        cases h
        exact OEnds.vret hm_35 rfl rfl
theorem ok_adjustCoverage {o_roomsOfType : List Int32} {o_roomsAtLeast : List Int32} {o_firstRoomOfType : List Int32} {o_slotActive : List Int32} {o_slotType : List Int32} {o_slotArrive : List Int32} {o_slotNights : List Int32} {o_planRoom : List Int32} {o_planGrid : List Int32} {o_planOrder : List Int32} {o_totalRooms : Int32} {o_activeStays : Int32} {o_planOrderLength : Int32} {o_planCurrent : Int32} {o_planUnplaced : Int32} {c0 : ACell} {po : List ACell} {o_exactCount : List Int32} {o_atLeastCount : List Int32} {v1 : Int32} {v2 : Int32} {w_o_exactCount : List Int32} {w_o_atLeastCount : List Int32} (h : f_adjustCoverage o_slotType o_slotArrive o_slotNights o_exactCount o_atLeastCount v1 v2 = some (w_o_exactCount, w_o_atLeastCount)) : OEnds own_P 35 0 [.val (.ref 1), .val (.int v1), .val (.int v2), .unset, .unset, .unset, .unset, .unset] [] (c0 :: bk0 o_roomsOfType o_roomsAtLeast o_firstRoomOfType o_slotActive o_slotType o_slotArrive o_slotNights o_exactCount o_atLeastCount o_planRoom o_planGrid o_planOrder o_totalRooms o_activeStays o_planOrderLength o_planCurrent o_planUnplaced po) (none, (c0 :: bk0 o_roomsOfType o_roomsAtLeast o_firstRoomOfType o_slotActive o_slotType o_slotArrive o_slotNights w_o_exactCount w_o_atLeastCount o_planRoom o_planGrid o_planOrder o_totalRooms o_activeStays o_planOrderLength o_planCurrent o_planUnplaced po), 0, 0) := by
  unfold f_adjustCoverage at h
  refine OEnds.adv hm_35 1 (pc' := 1) (L' := [.val (.ref 1), .val (.int v1), .val (.int v2), .unset, .unset, .unset, .unset, .unset]) (S' := [.int v1]) (H' := (c0 :: bk0 o_roomsOfType o_roomsAtLeast o_firstRoomOfType o_slotActive o_slotType o_slotArrive o_slotNights o_exactCount o_atLeastCount o_planRoom o_planGrid o_planOrder o_totalRooms o_activeStays o_planOrderLength o_planCurrent o_planUnplaced po)) rfl ?_
  by_cases hc64 : v1 < (0 : Int32)
  · simp only [if_pos hc64] at h
    refine OEnds.ifT hm_35 rfl (q := 10) rfl ((tlt hc64).1) ?_
    show OEnds own_P 35 10 [.val (.ref 1), .val (.int v1), .val (.int v2), .unset, .unset, .unset, .unset, .unset] [] (c0 :: bk0 o_roomsOfType o_roomsAtLeast o_firstRoomOfType o_slotActive o_slotType o_slotArrive o_slotNights o_exactCount o_atLeastCount o_planRoom o_planGrid o_planOrder o_totalRooms o_activeStays o_planOrderLength o_planCurrent o_planUnplaced po) _
    cases h
    exact OEnds.vret hm_35 rfl rfl
  · simp only [if_neg hc64] at h
    refine OEnds.ifF hm_35 rfl ((flt hc64).1) ?_
    refine OEnds.adv hm_35 2 (pc' := 7) (L' := [.val (.ref 1), .val (.int v1), .val (.int v2), .unset, .unset, .unset, .unset, .unset]) (S' := [.int 32, .int v1]) (H' := (c0 :: bk0 o_roomsOfType o_roomsAtLeast o_firstRoomOfType o_slotActive o_slotType o_slotArrive o_slotNights o_exactCount o_atLeastCount o_planRoom o_planGrid o_planOrder o_totalRooms o_activeStays o_planOrderLength o_planCurrent o_planUnplaced po)) rfl ?_
    by_cases hc65 : v1 < (32 : Int32)
    · simp only [if_pos hc65] at h
      refine OEnds.icmpT hm_35 rfl (q := 11) rfl ((tlt hc65).1) ?_
      refine OEnds.adv hm_35 3 (pc' := 16) (L' := [.val (.ref 1), .val (.int v1), .val (.int v2), .unset, .unset, .unset, .unset, .unset]) (S' := [.int v1, .ref 6]) (H' := (c0 :: bk0 o_roomsOfType o_roomsAtLeast o_firstRoomOfType o_slotActive o_slotType o_slotArrive o_slotNights o_exactCount o_atLeastCount o_planRoom o_planGrid o_planOrder o_totalRooms o_activeStays o_planOrderLength o_planCurrent o_planUnplaced po)) rfl ?_
      obtain ⟨x64, hx64, h⟩ := bnd h
      refine OEnds.plain hm_35 rfl rfl (x_iaload rfl hx64) ?_
      refine OEnds.adv hm_35 3 (pc' := 20) (L' := [.val (.ref 1), .val (.int v1), .val (.int v2), .val (.int x64), .unset, .unset, .unset, .unset]) (S' := [.int x64, .ref 1]) (H' := (c0 :: bk0 o_roomsOfType o_roomsAtLeast o_firstRoomOfType o_slotActive o_slotType o_slotArrive o_slotNights o_exactCount o_atLeastCount o_planRoom o_planGrid o_planOrder o_totalRooms o_activeStays o_planOrderLength o_planCurrent o_planUnplaced po)) rfl ?_
      obtain ⟨r65, hq66, h⟩ := bnd h
      refine OEnds.call0 hm_35 rfl rfl (by decide) rfl (as := [.ref 1, .int x64]) (rest := []) rfl rfl (ok_isValidType hq66) ?_
      show OEnds own_P 35 23 [.val (.ref 1), .val (.int v1), .val (.int v2), .val (.int x64), .unset, .unset, .unset, .unset] [.int r65] (c0 :: bk0 o_roomsOfType o_roomsAtLeast o_firstRoomOfType o_slotActive o_slotType o_slotArrive o_slotNights o_exactCount o_atLeastCount o_planRoom o_planGrid o_planOrder o_totalRooms o_activeStays o_planOrderLength o_planCurrent o_planUnplaced po) _
      by_cases hc67 : r65 = (0 : Int32)
      · simp only [if_pos hc67] at h
        refine OEnds.ifF hm_35 rfl ((teq hc67).2) ?_
        show OEnds own_P 35 26 [.val (.ref 1), .val (.int v1), .val (.int v2), .val (.int x64), .unset, .unset, .unset, .unset] [] (c0 :: bk0 o_roomsOfType o_roomsAtLeast o_firstRoomOfType o_slotActive o_slotType o_slotArrive o_slotNights o_exactCount o_atLeastCount o_planRoom o_planGrid o_planOrder o_totalRooms o_activeStays o_planOrderLength o_planCurrent o_planUnplaced po) _
        cases h
        exact OEnds.vret hm_35 rfl rfl
      · simp only [if_neg hc67] at h
        refine OEnds.ifT hm_35 rfl (q := 27) rfl ((feq hc67).2) ?_
        refine OEnds.adv hm_35 3 (pc' := 32) (L' := [.val (.ref 1), .val (.int v1), .val (.int v2), .val (.int x64), .unset, .unset, .unset, .unset]) (S' := [.int v1, .ref 7]) (H' := (c0 :: bk0 o_roomsOfType o_roomsAtLeast o_firstRoomOfType o_slotActive o_slotType o_slotArrive o_slotNights o_exactCount o_atLeastCount o_planRoom o_planGrid o_planOrder o_totalRooms o_activeStays o_planOrderLength o_planCurrent o_planUnplaced po)) rfl ?_
        obtain ⟨x66, hx66, h⟩ := bnd h
        refine OEnds.plain hm_35 rfl rfl (x_iaload rfl hx66) ?_
        refine OEnds.adv hm_35 6 (pc' := 43) (L' := [.val (.ref 1), .val (.int v1), .val (.int v2), .val (.int x64), .val (.int x66), .unset, .unset, .unset]) (S' := [.int v1, .ref 8, .int x66, .ref 1]) (H' := (c0 :: bk0 o_roomsOfType o_roomsAtLeast o_firstRoomOfType o_slotActive o_slotType o_slotArrive o_slotNights o_exactCount o_atLeastCount o_planRoom o_planGrid o_planOrder o_totalRooms o_activeStays o_planOrderLength o_planCurrent o_planUnplaced po)) rfl ?_
        obtain ⟨x67, hx67, h⟩ := bnd h
        refine OEnds.plain hm_35 rfl rfl (x_iaload rfl hx67) ?_
        show OEnds own_P 35 44 [.val (.ref 1), .val (.int v1), .val (.int v2), .val (.int x64), .val (.int x66), .unset, .unset, .unset] [.int x67, .int x66, .ref 1] (c0 :: bk0 o_roomsOfType o_roomsAtLeast o_firstRoomOfType o_slotActive o_slotType o_slotArrive o_slotNights o_exactCount o_atLeastCount o_planRoom o_planGrid o_planOrder o_totalRooms o_activeStays o_planOrderLength o_planCurrent o_planUnplaced po) _
        obtain ⟨r68, hq68, h⟩ := bnd h
        refine OEnds.call0 hm_35 rfl rfl (by decide) rfl (as := [.ref 1, .int x66, .int x67]) (rest := []) rfl rfl (ok_endOf hq68) ?_
        refine OEnds.adv hm_35 3 (pc' := 53) (L' := [.val (.ref 1), .val (.int v1), .val (.int v2), .val (.int x64), .val (.int x66), .val (.int r68), .val (.int x66), .unset]) (S' := []) (H' := (c0 :: bk0 o_roomsOfType o_roomsAtLeast o_firstRoomOfType o_slotActive o_slotType o_slotArrive o_slotNights o_exactCount o_atLeastCount o_planRoom o_planGrid o_planOrder o_totalRooms o_activeStays o_planOrderLength o_planCurrent o_planUnplaced po)) rfl ?_
        exact ok_adjustCoverage_53 100000 h
    · simp only [if_neg hc65] at h
      refine OEnds.icmpF hm_35 rfl ((flt hc65).1) ?_
      show OEnds own_P 35 10 [.val (.ref 1), .val (.int v1), .val (.int v2), .unset, .unset, .unset, .unset, .unset] [] (c0 :: bk0 o_roomsOfType o_roomsAtLeast o_firstRoomOfType o_slotActive o_slotType o_slotArrive o_slotNights o_exactCount o_atLeastCount o_planRoom o_planGrid o_planOrder o_totalRooms o_activeStays o_planOrderLength o_planCurrent o_planUnplaced po) _
      cases h
      exact OEnds.vret hm_35 rfl rfl
theorem ok_activateStay {o_roomsOfType : List Int32} {o_roomsAtLeast : List Int32} {o_firstRoomOfType : List Int32} {o_planRoom : List Int32} {o_planGrid : List Int32} {o_planOrder : List Int32} {o_totalRooms : Int32} {o_planOrderLength : Int32} {o_planCurrent : Int32} {o_planUnplaced : Int32} {c0 : ACell} {po : List ACell} {o_slotActive : List Int32} {o_slotType : List Int32} {o_slotArrive : List Int32} {o_slotNights : List Int32} {o_exactCount : List Int32} {o_atLeastCount : List Int32} {o_activeStays : Int32} {v1 : Int32} {v2 : Int32} {v3 : Int32} {v4 : Int32} {w_o_slotActive : List Int32} {w_o_slotType : List Int32} {w_o_slotArrive : List Int32} {w_o_slotNights : List Int32} {w_o_exactCount : List Int32} {w_o_atLeastCount : List Int32} {w_o_activeStays : Int32} (h : f_activateStay o_slotActive o_slotType o_slotArrive o_slotNights o_exactCount o_atLeastCount o_activeStays v1 v2 v3 v4 = some (w_o_slotActive, w_o_slotType, w_o_slotArrive, w_o_slotNights, w_o_exactCount, w_o_atLeastCount, w_o_activeStays)) : OEnds own_P 33 0 [.val (.ref 1), .val (.int v1), .val (.int v2), .val (.int v3), .val (.int v4)] [] (c0 :: bk0 o_roomsOfType o_roomsAtLeast o_firstRoomOfType o_slotActive o_slotType o_slotArrive o_slotNights o_exactCount o_atLeastCount o_planRoom o_planGrid o_planOrder o_totalRooms o_activeStays o_planOrderLength o_planCurrent o_planUnplaced po) (none, (c0 :: bk0 o_roomsOfType o_roomsAtLeast o_firstRoomOfType w_o_slotActive w_o_slotType w_o_slotArrive w_o_slotNights w_o_exactCount w_o_atLeastCount o_planRoom o_planGrid o_planOrder o_totalRooms w_o_activeStays o_planOrderLength o_planCurrent o_planUnplaced po), 0, 0) := by
  unfold f_activateStay at h
  refine OEnds.adv hm_33 5 (pc' := 6) (L' := [.val (.ref 1), .val (.int v1), .val (.int v2), .val (.int v3), .val (.int v4)]) (S' := [.int v4, .int v3, .int v2, .int v1, .ref 1]) (H' := (c0 :: bk0 o_roomsOfType o_roomsAtLeast o_firstRoomOfType o_slotActive o_slotType o_slotArrive o_slotNights o_exactCount o_atLeastCount o_planRoom o_planGrid o_planOrder o_totalRooms o_activeStays o_planOrderLength o_planCurrent o_planUnplaced po)) rfl ?_
  obtain ⟨⟨s75, s76, s77⟩, hq69, h⟩ := bnd h
  refine OEnds.call0 hm_33 rfl rfl (by decide) rfl (as := [.ref 1, .int v1, .int v2, .int v3, .int v4]) (rest := []) rfl rfl (ok_storeStay hq69) ?_
  refine OEnds.adv hm_33 4 (pc' := 15) (L' := [.val (.ref 1), .val (.int v1), .val (.int v2), .val (.int v3), .val (.int v4)]) (S' := [.int 1, .int v1, .ref 5]) (H' := (c0 :: bk0 o_roomsOfType o_roomsAtLeast o_firstRoomOfType o_slotActive s75 s76 s77 o_exactCount o_atLeastCount o_planRoom o_planGrid o_planOrder o_totalRooms o_activeStays o_planOrderLength o_planCurrent o_planUnplaced po)) rfl ?_
  obtain ⟨A78, hA78, h⟩ := bnd h
  refine OEnds.plain hm_33 rfl rfl (x_bastore rfl (Nat.le_of_ble_eq_true rfl) hA78) ?_
  refine OEnds.adv hm_33 9 (pc' := 29) (L' := [.val (.ref 1), .val (.int v1), .val (.int v2), .val (.int v3), .val (.int v4)]) (S' := [.int 1, .int v1, .ref 1]) (H' := (c0 :: bk0 o_roomsOfType o_roomsAtLeast o_firstRoomOfType A78 s75 s76 s77 o_exactCount o_atLeastCount o_planRoom o_planGrid o_planOrder o_totalRooms (o_activeStays + (1 : Int32)) o_planOrderLength o_planCurrent o_planUnplaced po)) rfl ?_
  obtain ⟨⟨s79, s80⟩, hq70, h⟩ := bnd h
  refine OEnds.call0 hm_33 rfl rfl (by decide) rfl (as := [.ref 1, .int v1, .int 1]) (rest := []) rfl rfl (ok_adjustCoverage hq70) ?_
  show OEnds own_P 33 32 [.val (.ref 1), .val (.int v1), .val (.int v2), .val (.int v3), .val (.int v4)] [] (c0 :: bk0 o_roomsOfType o_roomsAtLeast o_firstRoomOfType A78 s75 s76 s77 s79 s80 o_planRoom o_planGrid o_planOrder o_totalRooms (o_activeStays + (1 : Int32)) o_planOrderLength o_planCurrent o_planUnplaced po) _
  cases h
  exact OEnds.vret hm_33 rfl rfl
theorem ok_discardPlan {o_roomsOfType : List Int32} {o_roomsAtLeast : List Int32} {o_firstRoomOfType : List Int32} {o_slotActive : List Int32} {o_slotType : List Int32} {o_slotArrive : List Int32} {o_slotNights : List Int32} {o_exactCount : List Int32} {o_atLeastCount : List Int32} {o_planRoom : List Int32} {o_planGrid : List Int32} {o_planOrder : List Int32} {o_totalRooms : Int32} {o_activeStays : Int32} {o_planOrderLength : Int32} {o_planUnplaced : Int32} {c0 : ACell} {po : List ACell} {o_planCurrent : Int32} {w_o_planCurrent : Int32} (h : f_discardPlan o_planCurrent = some w_o_planCurrent) : OEnds own_P 8 0 [.val (.ref 1)] [] (c0 :: bk0 o_roomsOfType o_roomsAtLeast o_firstRoomOfType o_slotActive o_slotType o_slotArrive o_slotNights o_exactCount o_atLeastCount o_planRoom o_planGrid o_planOrder o_totalRooms o_activeStays o_planOrderLength o_planCurrent o_planUnplaced po) (none, (c0 :: bk0 o_roomsOfType o_roomsAtLeast o_firstRoomOfType o_slotActive o_slotType o_slotArrive o_slotNights o_exactCount o_atLeastCount o_planRoom o_planGrid o_planOrder o_totalRooms o_activeStays o_planOrderLength w_o_planCurrent o_planUnplaced po), 0, 0) := by
  unfold f_discardPlan at h
  refine OEnds.adv hm_8 3 (pc' := 5) (L' := [.val (.ref 1)]) (S' := []) (H' := (c0 :: bk0 o_roomsOfType o_roomsAtLeast o_firstRoomOfType o_slotActive o_slotType o_slotArrive o_slotNights o_exactCount o_atLeastCount o_planRoom o_planGrid o_planOrder o_totalRooms o_activeStays o_planOrderLength 0 o_planUnplaced po)) rfl ?_
  cases h
  exact OEnds.vret hm_8 rfl rfl
theorem ok_book {o_roomsOfType : List Int32} {o_roomsAtLeast : List Int32} {o_firstRoomOfType : List Int32} {o_planRoom : List Int32} {o_planGrid : List Int32} {o_planOrder : List Int32} {o_totalRooms : Int32} {o_planOrderLength : Int32} {o_planUnplaced : Int32} {c0 : ACell} {po : List ACell} {o_slotActive : List Int32} {o_slotType : List Int32} {o_slotArrive : List Int32} {o_slotNights : List Int32} {o_exactCount : List Int32} {o_atLeastCount : List Int32} {o_activeStays : Int32} {o_planCurrent : Int32} {v1 : Int32} {v2 : Int32} {v3 : Int32} {res : Int32} {w_o_slotActive : List Int32} {w_o_slotType : List Int32} {w_o_slotArrive : List Int32} {w_o_slotNights : List Int32} {w_o_exactCount : List Int32} {w_o_atLeastCount : List Int32} {w_o_activeStays : Int32} {w_o_planCurrent : Int32} (h : f_book o_roomsAtLeast o_slotActive o_slotType o_slotArrive o_slotNights o_exactCount o_atLeastCount o_activeStays o_planCurrent v1 v2 v3 = some (res, w_o_slotActive, w_o_slotType, w_o_slotArrive, w_o_slotNights, w_o_exactCount, w_o_atLeastCount, w_o_activeStays, w_o_planCurrent)) : OEnds own_P 31 0 [.val (.ref 1), .val (.int v1), .val (.int v2), .val (.int v3), .unset, .unset] [] (c0 :: bk0 o_roomsOfType o_roomsAtLeast o_firstRoomOfType o_slotActive o_slotType o_slotArrive o_slotNights o_exactCount o_atLeastCount o_planRoom o_planGrid o_planOrder o_totalRooms o_activeStays o_planOrderLength o_planCurrent o_planUnplaced po) (some (.int res), (c0 :: bk0 o_roomsOfType o_roomsAtLeast o_firstRoomOfType w_o_slotActive w_o_slotType w_o_slotArrive w_o_slotNights w_o_exactCount w_o_atLeastCount o_planRoom o_planGrid o_planOrder o_totalRooms w_o_activeStays o_planOrderLength w_o_planCurrent o_planUnplaced po), 0, 0) := by
  unfold f_book at h
  refine OEnds.adv hm_31 4 (pc' := 4) (L' := [.val (.ref 1), .val (.int v1), .val (.int v2), .val (.int v3), .unset, .unset]) (S' := [.int v3, .int v2, .int v1, .ref 1]) (H' := (c0 :: bk0 o_roomsOfType o_roomsAtLeast o_firstRoomOfType o_slotActive o_slotType o_slotArrive o_slotNights o_exactCount o_atLeastCount o_planRoom o_planGrid o_planOrder o_totalRooms o_activeStays o_planOrderLength o_planCurrent o_planUnplaced po)) rfl ?_
  obtain ⟨r81, hq71, h⟩ := bnd h
  refine OEnds.call0 hm_31 rfl rfl (by decide) rfl (as := [.ref 1, .int v1, .int v2, .int v3]) (rest := []) rfl rfl (ok_requestError hq71) ?_
  refine OEnds.adv hm_31 2 (pc' := 11) (L' := [.val (.ref 1), .val (.int v1), .val (.int v2), .val (.int v3), .val (.int r81), .unset]) (S' := [.int r81]) (H' := (c0 :: bk0 o_roomsOfType o_roomsAtLeast o_firstRoomOfType o_slotActive o_slotType o_slotArrive o_slotNights o_exactCount o_atLeastCount o_planRoom o_planGrid o_planOrder o_totalRooms o_activeStays o_planOrderLength o_planCurrent o_planUnplaced po)) rfl ?_
  by_cases hc72 : r81 = (0 : Int32)
  · simp only [if_pos hc72] at h
    refine OEnds.ifT hm_31 rfl (q := 17) rfl ((teq hc72).1) ?_
    refine OEnds.adv hm_31 3 (pc' := 23) (L' := [.val (.ref 1), .val (.int v1), .val (.int v2), .val (.int v3), .val (.int r81), .unset]) (S' := [.int 32, .int o_activeStays]) (H' := (c0 :: bk0 o_roomsOfType o_roomsAtLeast o_firstRoomOfType o_slotActive o_slotType o_slotArrive o_slotNights o_exactCount o_atLeastCount o_planRoom o_planGrid o_planOrder o_totalRooms o_activeStays o_planOrderLength o_planCurrent o_planUnplaced po)) rfl ?_
    by_cases hc73 : o_activeStays < (32 : Int32)
    · simp only [if_pos hc73] at h
      refine OEnds.icmpT hm_31 rfl (q := 29) rfl ((tlt hc73).1) ?_
      refine OEnds.adv hm_31 5 (pc' := 34) (L' := [.val (.ref 1), .val (.int v1), .val (.int v2), .val (.int v3), .val (.int r81), .unset]) (S' := [.int v3, .int v2, .int v1, .int (-1), .ref 1]) (H' := (c0 :: bk0 o_roomsOfType o_roomsAtLeast o_firstRoomOfType o_slotActive o_slotType o_slotArrive o_slotNights o_exactCount o_atLeastCount o_planRoom o_planGrid o_planOrder o_totalRooms o_activeStays o_planOrderLength o_planCurrent o_planUnplaced po)) rfl ?_
      obtain ⟨r82, hq74, h⟩ := bnd h
      refine OEnds.call0 hm_31 rfl rfl (by decide) rfl (as := [.ref 1, .int (-1), .int v1, .int v2, .int v3]) (rest := []) rfl rfl (ok_fitsWith hq74) ?_
      show OEnds own_P 31 37 [.val (.ref 1), .val (.int v1), .val (.int v2), .val (.int v3), .val (.int r81), .unset] [.int r82] (c0 :: bk0 o_roomsOfType o_roomsAtLeast o_firstRoomOfType o_slotActive o_slotType o_slotArrive o_slotNights o_exactCount o_atLeastCount o_planRoom o_planGrid o_planOrder o_totalRooms o_activeStays o_planOrderLength o_planCurrent o_planUnplaced po) _
      by_cases hc75 : r82 = (0 : Int32)
      · simp only [if_pos hc75] at h
        refine OEnds.ifF hm_31 rfl ((teq hc75).2) ?_
        refine OEnds.adv hm_31 1 (pc' := 42) (L' := [.val (.ref 1), .val (.int v1), .val (.int v2), .val (.int v3), .val (.int r81), .unset]) (S' := [.int (-4)]) (H' := (c0 :: bk0 o_roomsOfType o_roomsAtLeast o_firstRoomOfType o_slotActive o_slotType o_slotArrive o_slotNights o_exactCount o_atLeastCount o_planRoom o_planGrid o_planOrder o_totalRooms o_activeStays o_planOrderLength o_planCurrent o_planUnplaced po)) rfl ?_
        cases h
        exact OEnds.iret hm_31 rfl rfl
      · simp only [if_neg hc75] at h
        refine OEnds.ifT hm_31 rfl (q := 43) rfl ((feq hc75).2) ?_
        refine OEnds.adv hm_31 1 (pc' := 44) (L' := [.val (.ref 1), .val (.int v1), .val (.int v2), .val (.int v3), .val (.int r81), .unset]) (S' := [.ref 1]) (H' := (c0 :: bk0 o_roomsOfType o_roomsAtLeast o_firstRoomOfType o_slotActive o_slotType o_slotArrive o_slotNights o_exactCount o_atLeastCount o_planRoom o_planGrid o_planOrder o_totalRooms o_activeStays o_planOrderLength o_planCurrent o_planUnplaced po)) rfl ?_
        obtain ⟨r83, hq76, h⟩ := bnd h
        refine OEnds.call0 hm_31 rfl rfl (by decide) rfl (as := [.ref 1]) (rest := []) rfl rfl (ok_lowestInactiveSlot hq76) ?_
        refine OEnds.adv hm_31 2 (pc' := 51) (L' := [.val (.ref 1), .val (.int v1), .val (.int v2), .val (.int v3), .val (.int r81), .val (.int r83)]) (S' := [.int r83]) (H' := (c0 :: bk0 o_roomsOfType o_roomsAtLeast o_firstRoomOfType o_slotActive o_slotType o_slotArrive o_slotNights o_exactCount o_atLeastCount o_planRoom o_planGrid o_planOrder o_totalRooms o_activeStays o_planOrderLength o_planCurrent o_planUnplaced po)) rfl ?_
        by_cases hc77 : r83 < (0 : Int32)
        · simp only [if_pos hc77] at h
          refine OEnds.ifF hm_31 rfl ((tlt hc77).2.1) ?_
          refine OEnds.adv hm_31 1 (pc' := 56) (L' := [.val (.ref 1), .val (.int v1), .val (.int v2), .val (.int v3), .val (.int r81), .val (.int r83)]) (S' := [.int (-3)]) (H' := (c0 :: bk0 o_roomsOfType o_roomsAtLeast o_firstRoomOfType o_slotActive o_slotType o_slotArrive o_slotNights o_exactCount o_atLeastCount o_planRoom o_planGrid o_planOrder o_totalRooms o_activeStays o_planOrderLength o_planCurrent o_planUnplaced po)) rfl ?_
          cases h
          exact OEnds.iret hm_31 rfl rfl
        · simp only [if_neg hc77] at h
          refine OEnds.ifT hm_31 rfl (q := 57) rfl ((flt hc77).2.1) ?_
          refine OEnds.adv hm_31 5 (pc' := 63) (L' := [.val (.ref 1), .val (.int v1), .val (.int v2), .val (.int v3), .val (.int r81), .val (.int r83)]) (S' := [.int v3, .int v2, .int v1, .int r83, .ref 1]) (H' := (c0 :: bk0 o_roomsOfType o_roomsAtLeast o_firstRoomOfType o_slotActive o_slotType o_slotArrive o_slotNights o_exactCount o_atLeastCount o_planRoom o_planGrid o_planOrder o_totalRooms o_activeStays o_planOrderLength o_planCurrent o_planUnplaced po)) rfl ?_
          obtain ⟨⟨s84, s85, s86, s87, s88, s89, s90⟩, hq78, h⟩ := bnd h
          refine OEnds.call0 hm_31 rfl rfl (by decide) rfl (as := [.ref 1, .int r83, .int v1, .int v2, .int v3]) (rest := []) rfl rfl (ok_activateStay hq78) ?_
          refine OEnds.adv hm_31 1 (pc' := 67) (L' := [.val (.ref 1), .val (.int v1), .val (.int v2), .val (.int v3), .val (.int r81), .val (.int r83)]) (S' := [.ref 1]) (H' := (c0 :: bk0 o_roomsOfType o_roomsAtLeast o_firstRoomOfType s84 s85 s86 s87 s88 s89 o_planRoom o_planGrid o_planOrder o_totalRooms s90 o_planOrderLength o_planCurrent o_planUnplaced po)) rfl ?_
          obtain ⟨s91, hq79, h⟩ := bnd h
          refine OEnds.call0 hm_31 rfl rfl (by decide) rfl (as := [.ref 1]) (rest := []) rfl rfl (ok_discardPlan hq79) ?_
          refine OEnds.adv hm_31 1 (pc' := 72) (L' := [.val (.ref 1), .val (.int v1), .val (.int v2), .val (.int v3), .val (.int r81), .val (.int r83)]) (S' := [.int r83]) (H' := (c0 :: bk0 o_roomsOfType o_roomsAtLeast o_firstRoomOfType s84 s85 s86 s87 s88 s89 o_planRoom o_planGrid o_planOrder o_totalRooms s90 o_planOrderLength s91 o_planUnplaced po)) rfl ?_
          cases h
          exact OEnds.iret hm_31 rfl rfl
    · simp only [if_neg hc73] at h
      refine OEnds.icmpF hm_31 rfl ((flt hc73).1) ?_
      refine OEnds.adv hm_31 1 (pc' := 28) (L' := [.val (.ref 1), .val (.int v1), .val (.int v2), .val (.int v3), .val (.int r81), .unset]) (S' := [.int (-3)]) (H' := (c0 :: bk0 o_roomsOfType o_roomsAtLeast o_firstRoomOfType o_slotActive o_slotType o_slotArrive o_slotNights o_exactCount o_atLeastCount o_planRoom o_planGrid o_planOrder o_totalRooms o_activeStays o_planOrderLength o_planCurrent o_planUnplaced po)) rfl ?_
      cases h
      exact OEnds.iret hm_31 rfl rfl
  · simp only [if_neg hc72] at h
    refine OEnds.ifF hm_31 rfl ((feq hc72).1) ?_
    refine OEnds.adv hm_31 1 (pc' := 16) (L' := [.val (.ref 1), .val (.int v1), .val (.int v2), .val (.int v3), .val (.int r81), .unset]) (S' := [.int r81]) (H' := (c0 :: bk0 o_roomsOfType o_roomsAtLeast o_firstRoomOfType o_slotActive o_slotType o_slotArrive o_slotNights o_exactCount o_atLeastCount o_planRoom o_planGrid o_planOrder o_totalRooms o_activeStays o_planOrderLength o_planCurrent o_planUnplaced po)) rfl ?_
    cases h
    exact OEnds.iret hm_31 rfl rfl
theorem ok_stayNights {o_roomsOfType : List Int32} {o_roomsAtLeast : List Int32} {o_firstRoomOfType : List Int32} {o_slotActive : List Int32} {o_slotType : List Int32} {o_slotArrive : List Int32} {o_slotNights : List Int32} {o_exactCount : List Int32} {o_atLeastCount : List Int32} {o_planRoom : List Int32} {o_planGrid : List Int32} {o_planOrder : List Int32} {o_totalRooms : Int32} {o_activeStays : Int32} {o_planOrderLength : Int32} {o_planCurrent : Int32} {o_planUnplaced : Int32} {c0 : ACell} {po : List ACell} {v1 : Int32} {res : Int32} (h : f_stayNights o_slotActive o_slotNights v1 = some res) : OEnds own_P 38 0 [.val (.ref 1), .val (.int v1)] [] (c0 :: bk0 o_roomsOfType o_roomsAtLeast o_firstRoomOfType o_slotActive o_slotType o_slotArrive o_slotNights o_exactCount o_atLeastCount o_planRoom o_planGrid o_planOrder o_totalRooms o_activeStays o_planOrderLength o_planCurrent o_planUnplaced po) (some (.int res), (c0 :: bk0 o_roomsOfType o_roomsAtLeast o_firstRoomOfType o_slotActive o_slotType o_slotArrive o_slotNights o_exactCount o_atLeastCount o_planRoom o_planGrid o_planOrder o_totalRooms o_activeStays o_planOrderLength o_planCurrent o_planUnplaced po), 0, 0) := by
  unfold f_stayNights at h
  refine OEnds.adv hm_38 2 (pc' := 2) (L' := [.val (.ref 1), .val (.int v1)]) (S' := [.int v1, .ref 1]) (H' := (c0 :: bk0 o_roomsOfType o_roomsAtLeast o_firstRoomOfType o_slotActive o_slotType o_slotArrive o_slotNights o_exactCount o_atLeastCount o_planRoom o_planGrid o_planOrder o_totalRooms o_activeStays o_planOrderLength o_planCurrent o_planUnplaced po)) rfl ?_
  obtain ⟨r92, hq80, h⟩ := bnd h
  refine OEnds.call0 hm_38 rfl rfl (by decide) rfl (as := [.ref 1, .int v1]) (rest := []) rfl rfl (ok_isActiveStay hq80) ?_
  show OEnds own_P 38 5 [.val (.ref 1), .val (.int v1)] [.int r92] (c0 :: bk0 o_roomsOfType o_roomsAtLeast o_firstRoomOfType o_slotActive o_slotType o_slotArrive o_slotNights o_exactCount o_atLeastCount o_planRoom o_planGrid o_planOrder o_totalRooms o_activeStays o_planOrderLength o_planCurrent o_planUnplaced po) _
  by_cases hc81 : r92 = (0 : Int32)
  · simp only [if_pos hc81] at h
    refine OEnds.ifF hm_38 rfl ((teq hc81).2) ?_
    refine OEnds.adv hm_38 1 (pc' := 9) (L' := [.val (.ref 1), .val (.int v1)]) (S' := [.int (-1)]) (H' := (c0 :: bk0 o_roomsOfType o_roomsAtLeast o_firstRoomOfType o_slotActive o_slotType o_slotArrive o_slotNights o_exactCount o_atLeastCount o_planRoom o_planGrid o_planOrder o_totalRooms o_activeStays o_planOrderLength o_planCurrent o_planUnplaced po)) rfl ?_
    cases h
    exact OEnds.iret hm_38 rfl rfl
  · simp only [if_neg hc81] at h
    refine OEnds.ifT hm_38 rfl (q := 10) rfl ((feq hc81).2) ?_
    refine OEnds.adv hm_38 3 (pc' := 15) (L' := [.val (.ref 1), .val (.int v1)]) (S' := [.int v1, .ref 8]) (H' := (c0 :: bk0 o_roomsOfType o_roomsAtLeast o_firstRoomOfType o_slotActive o_slotType o_slotArrive o_slotNights o_exactCount o_atLeastCount o_planRoom o_planGrid o_planOrder o_totalRooms o_activeStays o_planOrderLength o_planCurrent o_planUnplaced po)) rfl ?_
    obtain ⟨x93, hx93, h⟩ := bnd h
    refine OEnds.plain hm_38 rfl rfl (x_iaload rfl hx93) ?_
    show OEnds own_P 38 16 [.val (.ref 1), .val (.int v1)] [.int x93] (c0 :: bk0 o_roomsOfType o_roomsAtLeast o_firstRoomOfType o_slotActive o_slotType o_slotArrive o_slotNights o_exactCount o_atLeastCount o_planRoom o_planGrid o_planOrder o_totalRooms o_activeStays o_planOrderLength o_planCurrent o_planUnplaced po) _
    cases h
    exact OEnds.iret hm_38 rfl rfl
theorem ok_amend {o_roomsOfType : List Int32} {o_roomsAtLeast : List Int32} {o_firstRoomOfType : List Int32} {o_slotActive : List Int32} {o_planRoom : List Int32} {o_planGrid : List Int32} {o_planOrder : List Int32} {o_totalRooms : Int32} {o_activeStays : Int32} {o_planOrderLength : Int32} {o_planUnplaced : Int32} {c0 : ACell} {po : List ACell} {o_slotType : List Int32} {o_slotArrive : List Int32} {o_slotNights : List Int32} {o_exactCount : List Int32} {o_atLeastCount : List Int32} {o_planCurrent : Int32} {v1 : Int32} {v2 : Int32} {v3 : Int32} {v4 : Int32} {res : Int32} {w_o_slotType : List Int32} {w_o_slotArrive : List Int32} {w_o_slotNights : List Int32} {w_o_exactCount : List Int32} {w_o_atLeastCount : List Int32} {w_o_planCurrent : Int32} (h : f_amend o_roomsAtLeast o_slotActive o_slotType o_slotArrive o_slotNights o_exactCount o_atLeastCount o_planCurrent v1 v2 v3 v4 = some (res, w_o_slotType, w_o_slotArrive, w_o_slotNights, w_o_exactCount, w_o_atLeastCount, w_o_planCurrent)) : OEnds own_P 41 0 [.val (.ref 1), .val (.int v1), .val (.int v2), .val (.int v3), .val (.int v4), .unset] [] (c0 :: bk0 o_roomsOfType o_roomsAtLeast o_firstRoomOfType o_slotActive o_slotType o_slotArrive o_slotNights o_exactCount o_atLeastCount o_planRoom o_planGrid o_planOrder o_totalRooms o_activeStays o_planOrderLength o_planCurrent o_planUnplaced po) (some (.int res), (c0 :: bk0 o_roomsOfType o_roomsAtLeast o_firstRoomOfType o_slotActive w_o_slotType w_o_slotArrive w_o_slotNights w_o_exactCount w_o_atLeastCount o_planRoom o_planGrid o_planOrder o_totalRooms o_activeStays o_planOrderLength w_o_planCurrent o_planUnplaced po), 0, 0) := by
  unfold f_amend at h
  refine OEnds.adv hm_41 2 (pc' := 2) (L' := [.val (.ref 1), .val (.int v1), .val (.int v2), .val (.int v3), .val (.int v4), .unset]) (S' := [.int v1, .ref 1]) (H' := (c0 :: bk0 o_roomsOfType o_roomsAtLeast o_firstRoomOfType o_slotActive o_slotType o_slotArrive o_slotNights o_exactCount o_atLeastCount o_planRoom o_planGrid o_planOrder o_totalRooms o_activeStays o_planOrderLength o_planCurrent o_planUnplaced po)) rfl ?_
  obtain ⟨r94, hq82, h⟩ := bnd h
  refine OEnds.call0 hm_41 rfl rfl (by decide) rfl (as := [.ref 1, .int v1]) (rest := []) rfl rfl (ok_isActiveStay hq82) ?_
  show OEnds own_P 41 5 [.val (.ref 1), .val (.int v1), .val (.int v2), .val (.int v3), .val (.int v4), .unset] [.int r94] (c0 :: bk0 o_roomsOfType o_roomsAtLeast o_firstRoomOfType o_slotActive o_slotType o_slotArrive o_slotNights o_exactCount o_atLeastCount o_planRoom o_planGrid o_planOrder o_totalRooms o_activeStays o_planOrderLength o_planCurrent o_planUnplaced po) _
  by_cases hc83 : r94 = (0 : Int32)
  · simp only [if_pos hc83] at h
    refine OEnds.ifF hm_41 rfl ((teq hc83).2) ?_
    refine OEnds.adv hm_41 1 (pc' := 10) (L' := [.val (.ref 1), .val (.int v1), .val (.int v2), .val (.int v3), .val (.int v4), .unset]) (S' := [.int (-5)]) (H' := (c0 :: bk0 o_roomsOfType o_roomsAtLeast o_firstRoomOfType o_slotActive o_slotType o_slotArrive o_slotNights o_exactCount o_atLeastCount o_planRoom o_planGrid o_planOrder o_totalRooms o_activeStays o_planOrderLength o_planCurrent o_planUnplaced po)) rfl ?_
    cases h
    exact OEnds.iret hm_41 rfl rfl
  · simp only [if_neg hc83] at h
    refine OEnds.ifT hm_41 rfl (q := 11) rfl ((feq hc83).2) ?_
    refine OEnds.adv hm_41 4 (pc' := 16) (L' := [.val (.ref 1), .val (.int v1), .val (.int v2), .val (.int v3), .val (.int v4), .unset]) (S' := [.int v4, .int v3, .int v2, .ref 1]) (H' := (c0 :: bk0 o_roomsOfType o_roomsAtLeast o_firstRoomOfType o_slotActive o_slotType o_slotArrive o_slotNights o_exactCount o_atLeastCount o_planRoom o_planGrid o_planOrder o_totalRooms o_activeStays o_planOrderLength o_planCurrent o_planUnplaced po)) rfl ?_
    obtain ⟨r95, hq84, h⟩ := bnd h
    refine OEnds.call0 hm_41 rfl rfl (by decide) rfl (as := [.ref 1, .int v2, .int v3, .int v4]) (rest := []) rfl rfl (ok_requestError hq84) ?_
    refine OEnds.adv hm_41 2 (pc' := 23) (L' := [.val (.ref 1), .val (.int v1), .val (.int v2), .val (.int v3), .val (.int v4), .val (.int r95)]) (S' := [.int r95]) (H' := (c0 :: bk0 o_roomsOfType o_roomsAtLeast o_firstRoomOfType o_slotActive o_slotType o_slotArrive o_slotNights o_exactCount o_atLeastCount o_planRoom o_planGrid o_planOrder o_totalRooms o_activeStays o_planOrderLength o_planCurrent o_planUnplaced po)) rfl ?_
    by_cases hc85 : r95 = (0 : Int32)
    · simp only [if_pos hc85] at h
      refine OEnds.ifT hm_41 rfl (q := 29) rfl ((teq hc85).1) ?_
      refine OEnds.adv hm_41 5 (pc' := 35) (L' := [.val (.ref 1), .val (.int v1), .val (.int v2), .val (.int v3), .val (.int v4), .val (.int r95)]) (S' := [.int v4, .int v3, .int v2, .int v1, .ref 1]) (H' := (c0 :: bk0 o_roomsOfType o_roomsAtLeast o_firstRoomOfType o_slotActive o_slotType o_slotArrive o_slotNights o_exactCount o_atLeastCount o_planRoom o_planGrid o_planOrder o_totalRooms o_activeStays o_planOrderLength o_planCurrent o_planUnplaced po)) rfl ?_
      obtain ⟨r96, hq86, h⟩ := bnd h
      refine OEnds.call0 hm_41 rfl rfl (by decide) rfl (as := [.ref 1, .int v1, .int v2, .int v3, .int v4]) (rest := []) rfl rfl (ok_fitsWith hq86) ?_
      show OEnds own_P 41 38 [.val (.ref 1), .val (.int v1), .val (.int v2), .val (.int v3), .val (.int v4), .val (.int r95)] [.int r96] (c0 :: bk0 o_roomsOfType o_roomsAtLeast o_firstRoomOfType o_slotActive o_slotType o_slotArrive o_slotNights o_exactCount o_atLeastCount o_planRoom o_planGrid o_planOrder o_totalRooms o_activeStays o_planOrderLength o_planCurrent o_planUnplaced po) _
      by_cases hc87 : r96 = (0 : Int32)
      · simp only [if_pos hc87] at h
        refine OEnds.ifF hm_41 rfl ((teq hc87).2) ?_
        refine OEnds.adv hm_41 1 (pc' := 43) (L' := [.val (.ref 1), .val (.int v1), .val (.int v2), .val (.int v3), .val (.int v4), .val (.int r95)]) (S' := [.int (-4)]) (H' := (c0 :: bk0 o_roomsOfType o_roomsAtLeast o_firstRoomOfType o_slotActive o_slotType o_slotArrive o_slotNights o_exactCount o_atLeastCount o_planRoom o_planGrid o_planOrder o_totalRooms o_activeStays o_planOrderLength o_planCurrent o_planUnplaced po)) rfl ?_
        cases h
        exact OEnds.iret hm_41 rfl rfl
      · simp only [if_neg hc87] at h
        refine OEnds.ifT hm_41 rfl (q := 44) rfl ((feq hc87).2) ?_
        refine OEnds.adv hm_41 3 (pc' := 47) (L' := [.val (.ref 1), .val (.int v1), .val (.int v2), .val (.int v3), .val (.int v4), .val (.int r95)]) (S' := [.int (-1), .int v1, .ref 1]) (H' := (c0 :: bk0 o_roomsOfType o_roomsAtLeast o_firstRoomOfType o_slotActive o_slotType o_slotArrive o_slotNights o_exactCount o_atLeastCount o_planRoom o_planGrid o_planOrder o_totalRooms o_activeStays o_planOrderLength o_planCurrent o_planUnplaced po)) rfl ?_
        obtain ⟨⟨s97, s98⟩, hq88, h⟩ := bnd h
        refine OEnds.call0 hm_41 rfl rfl (by decide) rfl (as := [.ref 1, .int v1, .int (-1)]) (rest := []) rfl rfl (ok_adjustCoverage hq88) ?_
        refine OEnds.adv hm_41 5 (pc' := 56) (L' := [.val (.ref 1), .val (.int v1), .val (.int v2), .val (.int v3), .val (.int v4), .val (.int r95)]) (S' := [.int v4, .int v3, .int v2, .int v1, .ref 1]) (H' := (c0 :: bk0 o_roomsOfType o_roomsAtLeast o_firstRoomOfType o_slotActive o_slotType o_slotArrive o_slotNights s97 s98 o_planRoom o_planGrid o_planOrder o_totalRooms o_activeStays o_planOrderLength o_planCurrent o_planUnplaced po)) rfl ?_
        obtain ⟨⟨s99, s100, s101⟩, hq89, h⟩ := bnd h
        refine OEnds.call0 hm_41 rfl rfl (by decide) rfl (as := [.ref 1, .int v1, .int v2, .int v3, .int v4]) (rest := []) rfl rfl (ok_storeStay hq89) ?_
        refine OEnds.adv hm_41 3 (pc' := 62) (L' := [.val (.ref 1), .val (.int v1), .val (.int v2), .val (.int v3), .val (.int v4), .val (.int r95)]) (S' := [.int 1, .int v1, .ref 1]) (H' := (c0 :: bk0 o_roomsOfType o_roomsAtLeast o_firstRoomOfType o_slotActive s99 s100 s101 s97 s98 o_planRoom o_planGrid o_planOrder o_totalRooms o_activeStays o_planOrderLength o_planCurrent o_planUnplaced po)) rfl ?_
        obtain ⟨⟨s102, s103⟩, hq90, h⟩ := bnd h
        refine OEnds.call0 hm_41 rfl rfl (by decide) rfl (as := [.ref 1, .int v1, .int 1]) (rest := []) rfl rfl (ok_adjustCoverage hq90) ?_
        refine OEnds.adv hm_41 1 (pc' := 66) (L' := [.val (.ref 1), .val (.int v1), .val (.int v2), .val (.int v3), .val (.int v4), .val (.int r95)]) (S' := [.ref 1]) (H' := (c0 :: bk0 o_roomsOfType o_roomsAtLeast o_firstRoomOfType o_slotActive s99 s100 s101 s102 s103 o_planRoom o_planGrid o_planOrder o_totalRooms o_activeStays o_planOrderLength o_planCurrent o_planUnplaced po)) rfl ?_
        obtain ⟨s104, hq91, h⟩ := bnd h
        refine OEnds.call0 hm_41 rfl rfl (by decide) rfl (as := [.ref 1]) (rest := []) rfl rfl (ok_discardPlan hq91) ?_
        refine OEnds.adv hm_41 1 (pc' := 70) (L' := [.val (.ref 1), .val (.int v1), .val (.int v2), .val (.int v3), .val (.int v4), .val (.int r95)]) (S' := [.int 0]) (H' := (c0 :: bk0 o_roomsOfType o_roomsAtLeast o_firstRoomOfType o_slotActive s99 s100 s101 s102 s103 o_planRoom o_planGrid o_planOrder o_totalRooms o_activeStays o_planOrderLength s104 o_planUnplaced po)) rfl ?_
        cases h
        exact OEnds.iret hm_41 rfl rfl
    · simp only [if_neg hc85] at h
      refine OEnds.ifF hm_41 rfl ((feq hc85).1) ?_
      refine OEnds.adv hm_41 1 (pc' := 28) (L' := [.val (.ref 1), .val (.int v1), .val (.int v2), .val (.int v3), .val (.int v4), .val (.int r95)]) (S' := [.int r95]) (H' := (c0 :: bk0 o_roomsOfType o_roomsAtLeast o_firstRoomOfType o_slotActive o_slotType o_slotArrive o_slotNights o_exactCount o_atLeastCount o_planRoom o_planGrid o_planOrder o_totalRooms o_activeStays o_planOrderLength o_planCurrent o_planUnplaced po)) rfl ?_
      cases h
      exact OEnds.iret hm_41 rfl rfl
theorem ok_deactivateStay {o_roomsOfType : List Int32} {o_roomsAtLeast : List Int32} {o_firstRoomOfType : List Int32} {o_planRoom : List Int32} {o_planGrid : List Int32} {o_planOrder : List Int32} {o_totalRooms : Int32} {o_planOrderLength : Int32} {o_planCurrent : Int32} {o_planUnplaced : Int32} {c0 : ACell} {po : List ACell} {o_slotActive : List Int32} {o_slotType : List Int32} {o_slotArrive : List Int32} {o_slotNights : List Int32} {o_exactCount : List Int32} {o_atLeastCount : List Int32} {o_activeStays : Int32} {v1 : Int32} {w_o_slotActive : List Int32} {w_o_slotType : List Int32} {w_o_slotArrive : List Int32} {w_o_slotNights : List Int32} {w_o_exactCount : List Int32} {w_o_atLeastCount : List Int32} {w_o_activeStays : Int32} (h : f_deactivateStay o_slotActive o_slotType o_slotArrive o_slotNights o_exactCount o_atLeastCount o_activeStays v1 = some (w_o_slotActive, w_o_slotType, w_o_slotArrive, w_o_slotNights, w_o_exactCount, w_o_atLeastCount, w_o_activeStays)) : OEnds own_P 40 0 [.val (.ref 1), .val (.int v1)] [] (c0 :: bk0 o_roomsOfType o_roomsAtLeast o_firstRoomOfType o_slotActive o_slotType o_slotArrive o_slotNights o_exactCount o_atLeastCount o_planRoom o_planGrid o_planOrder o_totalRooms o_activeStays o_planOrderLength o_planCurrent o_planUnplaced po) (none, (c0 :: bk0 o_roomsOfType o_roomsAtLeast o_firstRoomOfType w_o_slotActive w_o_slotType w_o_slotArrive w_o_slotNights w_o_exactCount w_o_atLeastCount o_planRoom o_planGrid o_planOrder o_totalRooms w_o_activeStays o_planOrderLength o_planCurrent o_planUnplaced po), 0, 0) := by
  unfold f_deactivateStay at h
  refine OEnds.adv hm_40 3 (pc' := 3) (L' := [.val (.ref 1), .val (.int v1)]) (S' := [.int (-1), .int v1, .ref 1]) (H' := (c0 :: bk0 o_roomsOfType o_roomsAtLeast o_firstRoomOfType o_slotActive o_slotType o_slotArrive o_slotNights o_exactCount o_atLeastCount o_planRoom o_planGrid o_planOrder o_totalRooms o_activeStays o_planOrderLength o_planCurrent o_planUnplaced po)) rfl ?_
  obtain ⟨⟨s105, s106⟩, hq92, h⟩ := bnd h
  refine OEnds.call0 hm_40 rfl rfl (by decide) rfl (as := [.ref 1, .int v1, .int (-1)]) (rest := []) rfl rfl (ok_adjustCoverage hq92) ?_
  refine OEnds.adv hm_40 4 (pc' := 12) (L' := [.val (.ref 1), .val (.int v1)]) (S' := [.int 0, .int v1, .ref 5]) (H' := (c0 :: bk0 o_roomsOfType o_roomsAtLeast o_firstRoomOfType o_slotActive o_slotType o_slotArrive o_slotNights s105 s106 o_planRoom o_planGrid o_planOrder o_totalRooms o_activeStays o_planOrderLength o_planCurrent o_planUnplaced po)) rfl ?_
  obtain ⟨A107, hA107, h⟩ := bnd h
  refine OEnds.plain hm_40 rfl rfl (x_bastore rfl (Nat.le_of_ble_eq_true rfl) hA107) ?_
  refine OEnds.adv hm_40 5 (pc' := 18) (L' := [.val (.ref 1), .val (.int v1)]) (S' := [.int 0, .int 0, .int 0, .int v1, .ref 1]) (H' := (c0 :: bk0 o_roomsOfType o_roomsAtLeast o_firstRoomOfType A107 o_slotType o_slotArrive o_slotNights s105 s106 o_planRoom o_planGrid o_planOrder o_totalRooms o_activeStays o_planOrderLength o_planCurrent o_planUnplaced po)) rfl ?_
  obtain ⟨⟨s108, s109, s110⟩, hq93, h⟩ := bnd h
  refine OEnds.call0 hm_40 rfl rfl (by decide) rfl (as := [.ref 1, .int v1, .int 0, .int 0, .int 0]) (rest := []) rfl rfl (ok_storeStay hq93) ?_
  refine OEnds.adv hm_40 6 (pc' := 31) (L' := [.val (.ref 1), .val (.int v1)]) (S' := []) (H' := (c0 :: bk0 o_roomsOfType o_roomsAtLeast o_firstRoomOfType A107 s108 s109 s110 s105 s106 o_planRoom o_planGrid o_planOrder o_totalRooms (o_activeStays - (1 : Int32)) o_planOrderLength o_planCurrent o_planUnplaced po)) rfl ?_
  cases h
  exact OEnds.vret hm_40 rfl rfl
theorem ok_cancel {o_roomsOfType : List Int32} {o_roomsAtLeast : List Int32} {o_firstRoomOfType : List Int32} {o_planRoom : List Int32} {o_planGrid : List Int32} {o_planOrder : List Int32} {o_totalRooms : Int32} {o_planOrderLength : Int32} {o_planUnplaced : Int32} {c0 : ACell} {po : List ACell} {o_slotActive : List Int32} {o_slotType : List Int32} {o_slotArrive : List Int32} {o_slotNights : List Int32} {o_exactCount : List Int32} {o_atLeastCount : List Int32} {o_activeStays : Int32} {o_planCurrent : Int32} {v1 : Int32} {res : Int32} {w_o_slotActive : List Int32} {w_o_slotType : List Int32} {w_o_slotArrive : List Int32} {w_o_slotNights : List Int32} {w_o_exactCount : List Int32} {w_o_atLeastCount : List Int32} {w_o_activeStays : Int32} {w_o_planCurrent : Int32} (h : f_cancel o_slotActive o_slotType o_slotArrive o_slotNights o_exactCount o_atLeastCount o_activeStays o_planCurrent v1 = some (res, w_o_slotActive, w_o_slotType, w_o_slotArrive, w_o_slotNights, w_o_exactCount, w_o_atLeastCount, w_o_activeStays, w_o_planCurrent)) : OEnds own_P 39 0 [.val (.ref 1), .val (.int v1)] [] (c0 :: bk0 o_roomsOfType o_roomsAtLeast o_firstRoomOfType o_slotActive o_slotType o_slotArrive o_slotNights o_exactCount o_atLeastCount o_planRoom o_planGrid o_planOrder o_totalRooms o_activeStays o_planOrderLength o_planCurrent o_planUnplaced po) (some (.int res), (c0 :: bk0 o_roomsOfType o_roomsAtLeast o_firstRoomOfType w_o_slotActive w_o_slotType w_o_slotArrive w_o_slotNights w_o_exactCount w_o_atLeastCount o_planRoom o_planGrid o_planOrder o_totalRooms w_o_activeStays o_planOrderLength w_o_planCurrent o_planUnplaced po), 0, 0) := by
  unfold f_cancel at h
  refine OEnds.adv hm_39 2 (pc' := 2) (L' := [.val (.ref 1), .val (.int v1)]) (S' := [.int v1, .ref 1]) (H' := (c0 :: bk0 o_roomsOfType o_roomsAtLeast o_firstRoomOfType o_slotActive o_slotType o_slotArrive o_slotNights o_exactCount o_atLeastCount o_planRoom o_planGrid o_planOrder o_totalRooms o_activeStays o_planOrderLength o_planCurrent o_planUnplaced po)) rfl ?_
  obtain ⟨r111, hq94, h⟩ := bnd h
  refine OEnds.call0 hm_39 rfl rfl (by decide) rfl (as := [.ref 1, .int v1]) (rest := []) rfl rfl (ok_isActiveStay hq94) ?_
  show OEnds own_P 39 5 [.val (.ref 1), .val (.int v1)] [.int r111] (c0 :: bk0 o_roomsOfType o_roomsAtLeast o_firstRoomOfType o_slotActive o_slotType o_slotArrive o_slotNights o_exactCount o_atLeastCount o_planRoom o_planGrid o_planOrder o_totalRooms o_activeStays o_planOrderLength o_planCurrent o_planUnplaced po) _
  by_cases hc95 : r111 = (0 : Int32)
  · simp only [if_pos hc95] at h
    refine OEnds.ifF hm_39 rfl ((teq hc95).2) ?_
    refine OEnds.adv hm_39 1 (pc' := 10) (L' := [.val (.ref 1), .val (.int v1)]) (S' := [.int (-5)]) (H' := (c0 :: bk0 o_roomsOfType o_roomsAtLeast o_firstRoomOfType o_slotActive o_slotType o_slotArrive o_slotNights o_exactCount o_atLeastCount o_planRoom o_planGrid o_planOrder o_totalRooms o_activeStays o_planOrderLength o_planCurrent o_planUnplaced po)) rfl ?_
    cases h
    exact OEnds.iret hm_39 rfl rfl
  · simp only [if_neg hc95] at h
    refine OEnds.ifT hm_39 rfl (q := 11) rfl ((feq hc95).2) ?_
    refine OEnds.adv hm_39 2 (pc' := 13) (L' := [.val (.ref 1), .val (.int v1)]) (S' := [.int v1, .ref 1]) (H' := (c0 :: bk0 o_roomsOfType o_roomsAtLeast o_firstRoomOfType o_slotActive o_slotType o_slotArrive o_slotNights o_exactCount o_atLeastCount o_planRoom o_planGrid o_planOrder o_totalRooms o_activeStays o_planOrderLength o_planCurrent o_planUnplaced po)) rfl ?_
    obtain ⟨⟨s112, s113, s114, s115, s116, s117, s118⟩, hq96, h⟩ := bnd h
    refine OEnds.call0 hm_39 rfl rfl (by decide) rfl (as := [.ref 1, .int v1]) (rest := []) rfl rfl (ok_deactivateStay hq96) ?_
    refine OEnds.adv hm_39 1 (pc' := 17) (L' := [.val (.ref 1), .val (.int v1)]) (S' := [.ref 1]) (H' := (c0 :: bk0 o_roomsOfType o_roomsAtLeast o_firstRoomOfType s112 s113 s114 s115 s116 s117 o_planRoom o_planGrid o_planOrder o_totalRooms s118 o_planOrderLength o_planCurrent o_planUnplaced po)) rfl ?_
    obtain ⟨s119, hq97, h⟩ := bnd h
    refine OEnds.call0 hm_39 rfl rfl (by decide) rfl (as := [.ref 1]) (rest := []) rfl rfl (ok_discardPlan hq97) ?_
    refine OEnds.adv hm_39 1 (pc' := 21) (L' := [.val (.ref 1), .val (.int v1)]) (S' := [.int 0]) (H' := (c0 :: bk0 o_roomsOfType o_roomsAtLeast o_firstRoomOfType s112 s113 s114 s115 s116 s117 o_planRoom o_planGrid o_planOrder o_totalRooms s118 o_planOrderLength s119 o_planUnplaced po)) rfl ?_
    cases h
    exact OEnds.iret hm_39 rfl rfl
theorem ok_appendToOrder {o_roomsOfType : List Int32} {o_roomsAtLeast : List Int32} {o_firstRoomOfType : List Int32} {o_slotActive : List Int32} {o_slotType : List Int32} {o_slotArrive : List Int32} {o_slotNights : List Int32} {o_exactCount : List Int32} {o_atLeastCount : List Int32} {o_planRoom : List Int32} {o_planGrid : List Int32} {o_totalRooms : Int32} {o_activeStays : Int32} {o_planCurrent : Int32} {o_planUnplaced : Int32} {c0 : ACell} {po : List ACell} {o_planOrder : List Int32} {o_planOrderLength : Int32} {v1 : Int32} {w_o_planOrder : List Int32} {w_o_planOrderLength : Int32} (h : f_appendToOrder o_planOrder o_planOrderLength v1 = some (w_o_planOrder, w_o_planOrderLength)) : OEnds own_P 42 0 [.val (.ref 1), .val (.int v1)] [] (c0 :: bk0 o_roomsOfType o_roomsAtLeast o_firstRoomOfType o_slotActive o_slotType o_slotArrive o_slotNights o_exactCount o_atLeastCount o_planRoom o_planGrid o_planOrder o_totalRooms o_activeStays o_planOrderLength o_planCurrent o_planUnplaced po) (none, (c0 :: bk0 o_roomsOfType o_roomsAtLeast o_firstRoomOfType o_slotActive o_slotType o_slotArrive o_slotNights o_exactCount o_atLeastCount o_planRoom o_planGrid w_o_planOrder o_totalRooms o_activeStays w_o_planOrderLength o_planCurrent o_planUnplaced po), 0, 0) := by
  unfold f_appendToOrder at h
  refine OEnds.adv hm_42 2 (pc' := 4) (L' := [.val (.ref 1), .val (.int v1)]) (S' := [.int o_planOrderLength]) (H' := (c0 :: bk0 o_roomsOfType o_roomsAtLeast o_firstRoomOfType o_slotActive o_slotType o_slotArrive o_slotNights o_exactCount o_atLeastCount o_planRoom o_planGrid o_planOrder o_totalRooms o_activeStays o_planOrderLength o_planCurrent o_planUnplaced po)) rfl ?_
  by_cases hc98 : o_planOrderLength < (0 : Int32)
  · simp only [if_pos hc98] at h
    refine OEnds.ifT hm_42 rfl (q := 16) rfl ((tlt hc98).1) ?_
    show OEnds own_P 42 16 [.val (.ref 1), .val (.int v1)] [] (c0 :: bk0 o_roomsOfType o_roomsAtLeast o_firstRoomOfType o_slotActive o_slotType o_slotArrive o_slotNights o_exactCount o_atLeastCount o_planRoom o_planGrid o_planOrder o_totalRooms o_activeStays o_planOrderLength o_planCurrent o_planUnplaced po) _
    cases h
    exact OEnds.vret hm_42 rfl rfl
  · simp only [if_neg hc98] at h
    refine OEnds.ifF hm_42 rfl ((flt hc98).1) ?_
    refine OEnds.adv hm_42 3 (pc' := 13) (L' := [.val (.ref 1), .val (.int v1)]) (S' := [.int 32, .int o_planOrderLength]) (H' := (c0 :: bk0 o_roomsOfType o_roomsAtLeast o_firstRoomOfType o_slotActive o_slotType o_slotArrive o_slotNights o_exactCount o_atLeastCount o_planRoom o_planGrid o_planOrder o_totalRooms o_activeStays o_planOrderLength o_planCurrent o_planUnplaced po)) rfl ?_
    by_cases hc99 : o_planOrderLength < (32 : Int32)
    · simp only [if_pos hc99] at h
      refine OEnds.icmpT hm_42 rfl (q := 17) rfl ((tlt hc99).1) ?_
      refine OEnds.adv hm_42 5 (pc' := 26) (L' := [.val (.ref 1), .val (.int v1)]) (S' := [.int v1, .int o_planOrderLength, .ref 13]) (H' := (c0 :: bk0 o_roomsOfType o_roomsAtLeast o_firstRoomOfType o_slotActive o_slotType o_slotArrive o_slotNights o_exactCount o_atLeastCount o_planRoom o_planGrid o_planOrder o_totalRooms o_activeStays o_planOrderLength o_planCurrent o_planUnplaced po)) rfl ?_
      obtain ⟨A120, hA120, h⟩ := bnd h
      refine OEnds.plain hm_42 rfl rfl (x_iastore rfl (Nat.le_of_ble_eq_true rfl) hA120) ?_
      refine OEnds.adv hm_42 6 (pc' := 37) (L' := [.val (.ref 1), .val (.int v1)]) (S' := []) (H' := (c0 :: bk0 o_roomsOfType o_roomsAtLeast o_firstRoomOfType o_slotActive o_slotType o_slotArrive o_slotNights o_exactCount o_atLeastCount o_planRoom o_planGrid A120 o_totalRooms o_activeStays (o_planOrderLength + (1 : Int32)) o_planCurrent o_planUnplaced po)) rfl ?_
      cases h
      exact OEnds.vret hm_42 rfl rfl
    · simp only [if_neg hc99] at h
      refine OEnds.icmpF hm_42 rfl ((flt hc99).1) ?_
      show OEnds own_P 42 16 [.val (.ref 1), .val (.int v1)] [] (c0 :: bk0 o_roomsOfType o_roomsAtLeast o_firstRoomOfType o_slotActive o_slotType o_slotArrive o_slotNights o_exactCount o_atLeastCount o_planRoom o_planGrid o_planOrder o_totalRooms o_activeStays o_planOrderLength o_planCurrent o_planUnplaced po) _
      cases h
      exact OEnds.vret hm_42 rfl rfl
theorem ok_buildOrder_15 {o_roomsOfType : List Int32} {o_roomsAtLeast : List Int32} {o_firstRoomOfType : List Int32} {o_slotActive : List Int32} {o_slotType : List Int32} {o_slotArrive : List Int32} {o_slotNights : List Int32} {o_exactCount : List Int32} {o_atLeastCount : List Int32} {o_planRoom : List Int32} {o_planGrid : List Int32} {o_totalRooms : Int32} {o_activeStays : Int32} {o_planCurrent : Int32} {o_planUnplaced : Int32} {c0 : ACell} {po : List ACell} {k7 : List Int32 → Int32 → Int32 → Option (List Int32 × Int32)} (hk7 : ∀ {o_planOrder : List Int32} {o_planOrderLength : Int32} {v1 : Int32} {d2 : Slot} {w_o_planOrder : List Int32} {w_o_planOrderLength : Int32}, k7 o_planOrder o_planOrderLength v1 = some (w_o_planOrder, w_o_planOrderLength) → OEnds own_P 9 7 [.val (.ref 1), .val (.int v1), d2] [] (c0 :: bk0 o_roomsOfType o_roomsAtLeast o_firstRoomOfType o_slotActive o_slotType o_slotArrive o_slotNights o_exactCount o_atLeastCount o_planRoom o_planGrid o_planOrder o_totalRooms o_activeStays o_planOrderLength o_planCurrent o_planUnplaced po) (none, (c0 :: bk0 o_roomsOfType o_roomsAtLeast o_firstRoomOfType o_slotActive o_slotType o_slotArrive o_slotNights o_exactCount o_atLeastCount o_planRoom o_planGrid w_o_planOrder o_totalRooms o_activeStays w_o_planOrderLength o_planCurrent o_planUnplaced po), 0, 0)) : ∀ (n : Nat), ∀ {o_planOrder : List Int32} {o_planOrderLength : Int32} {v1 : Int32} {v2 : Int32} {w_o_planOrder : List Int32} {w_o_planOrderLength : Int32}, f_buildOrder_15 k7 o_slotActive o_slotArrive n o_planOrder o_planOrderLength v1 v2 = some (w_o_planOrder, w_o_planOrderLength) → OEnds own_P 9 15 [.val (.ref 1), .val (.int v1), .val (.int v2)] [] (c0 :: bk0 o_roomsOfType o_roomsAtLeast o_firstRoomOfType o_slotActive o_slotType o_slotArrive o_slotNights o_exactCount o_atLeastCount o_planRoom o_planGrid o_planOrder o_totalRooms o_activeStays o_planOrderLength o_planCurrent o_planUnplaced po) (none, (c0 :: bk0 o_roomsOfType o_roomsAtLeast o_firstRoomOfType o_slotActive o_slotType o_slotArrive o_slotNights o_exactCount o_atLeastCount o_planRoom o_planGrid w_o_planOrder o_totalRooms o_activeStays w_o_planOrderLength o_planCurrent o_planUnplaced po), 0, 0) := by
  intro n
  induction n with
  | zero => intro o_planOrder o_planOrderLength v1 v2 w_o_planOrder w_o_planOrderLength h; cases h
  | succ n ih =>
    intro o_planOrder o_planOrderLength v1 v2 w_o_planOrder w_o_planOrderLength h
    unfold f_buildOrder_15 at h
    refine OEnds.adv hm_9 2 (pc' := 18) (L' := [.val (.ref 1), .val (.int v1), .val (.int v2)]) (S' := [.int 32, .int v2]) (H' := (c0 :: bk0 o_roomsOfType o_roomsAtLeast o_firstRoomOfType o_slotActive o_slotType o_slotArrive o_slotNights o_exactCount o_atLeastCount o_planRoom o_planGrid o_planOrder o_totalRooms o_activeStays o_planOrderLength o_planCurrent o_planUnplaced po)) rfl ?_
    by_cases hc100 : v2 < (32 : Int32)
    · simp only [if_pos hc100] at h
      refine OEnds.icmpF hm_9 rfl ((tlt hc100).2.1) ?_
      refine OEnds.adv hm_9 3 (pc' := 26) (L' := [.val (.ref 1), .val (.int v1), .val (.int v2)]) (S' := [.int v2, .ref 5]) (H' := (c0 :: bk0 o_roomsOfType o_roomsAtLeast o_firstRoomOfType o_slotActive o_slotType o_slotArrive o_slotNights o_exactCount o_atLeastCount o_planRoom o_planGrid o_planOrder o_totalRooms o_activeStays o_planOrderLength o_planCurrent o_planUnplaced po)) rfl ?_
      obtain ⟨x121, hx121, h⟩ := bnd h
      refine OEnds.plain hm_9 rfl rfl (x_baload rfl hx121) ?_
      show OEnds own_P 9 27 [.val (.ref 1), .val (.int v1), .val (.int v2)] [.int x121] (c0 :: bk0 o_roomsOfType o_roomsAtLeast o_firstRoomOfType o_slotActive o_slotType o_slotArrive o_slotNights o_exactCount o_atLeastCount o_planRoom o_planGrid o_planOrder o_totalRooms o_activeStays o_planOrderLength o_planCurrent o_planUnplaced po) _
      by_cases hc101 : x121 = (0 : Int32)
      · simp only [if_pos hc101] at h
        refine OEnds.ifT hm_9 rfl (q := 45) rfl ((teq hc101).1) ?_
        refine OEnds.adv hm_9 2 (pc' := 15) (L' := [.val (.ref 1), .val (.int v1), .val (.int (v2 + (1 : Int32)))]) (S' := []) (H' := (c0 :: bk0 o_roomsOfType o_roomsAtLeast o_firstRoomOfType o_slotActive o_slotType o_slotArrive o_slotNights o_exactCount o_atLeastCount o_planRoom o_planGrid o_planOrder o_totalRooms o_activeStays o_planOrderLength o_planCurrent o_planUnplaced po)) rfl ?_
        exact ih h
      · simp only [if_neg hc101] at h
        refine OEnds.ifF hm_9 rfl ((feq hc101).1) ?_
        refine OEnds.adv hm_9 3 (pc' := 35) (L' := [.val (.ref 1), .val (.int v1), .val (.int v2)]) (S' := [.int v2, .ref 7]) (H' := (c0 :: bk0 o_roomsOfType o_roomsAtLeast o_firstRoomOfType o_slotActive o_slotType o_slotArrive o_slotNights o_exactCount o_atLeastCount o_planRoom o_planGrid o_planOrder o_totalRooms o_activeStays o_planOrderLength o_planCurrent o_planUnplaced po)) rfl ?_
        obtain ⟨x122, hx122, h⟩ := bnd h
        refine OEnds.plain hm_9 rfl rfl (x_iaload rfl hx122) ?_
        refine OEnds.adv hm_9 1 (pc' := 37) (L' := [.val (.ref 1), .val (.int v1), .val (.int v2)]) (S' := [.int v1, .int x122]) (H' := (c0 :: bk0 o_roomsOfType o_roomsAtLeast o_firstRoomOfType o_slotActive o_slotType o_slotArrive o_slotNights o_exactCount o_atLeastCount o_planRoom o_planGrid o_planOrder o_totalRooms o_activeStays o_planOrderLength o_planCurrent o_planUnplaced po)) rfl ?_
        by_cases hc102 : x122 = v1
        · simp only [if_pos hc102] at h
          refine OEnds.icmpF hm_9 rfl ((teq hc102).2) ?_
          refine OEnds.adv hm_9 2 (pc' := 42) (L' := [.val (.ref 1), .val (.int v1), .val (.int v2)]) (S' := [.int v2, .ref 1]) (H' := (c0 :: bk0 o_roomsOfType o_roomsAtLeast o_firstRoomOfType o_slotActive o_slotType o_slotArrive o_slotNights o_exactCount o_atLeastCount o_planRoom o_planGrid o_planOrder o_totalRooms o_activeStays o_planOrderLength o_planCurrent o_planUnplaced po)) rfl ?_
          obtain ⟨⟨s123, s124⟩, hq103, h⟩ := bnd h
          refine OEnds.call0 hm_9 rfl rfl (by decide) rfl (as := [.ref 1, .int v2]) (rest := []) rfl rfl (ok_appendToOrder hq103) ?_
          refine OEnds.adv hm_9 2 (pc' := 15) (L' := [.val (.ref 1), .val (.int v1), .val (.int (v2 + (1 : Int32)))]) (S' := []) (H' := (c0 :: bk0 o_roomsOfType o_roomsAtLeast o_firstRoomOfType o_slotActive o_slotType o_slotArrive o_slotNights o_exactCount o_atLeastCount o_planRoom o_planGrid s123 o_totalRooms o_activeStays s124 o_planCurrent o_planUnplaced po)) rfl ?_
          exact ih h
        · simp only [if_neg hc102] at h
          refine OEnds.icmpT hm_9 rfl (q := 45) rfl ((feq hc102).2) ?_
          refine OEnds.adv hm_9 2 (pc' := 15) (L' := [.val (.ref 1), .val (.int v1), .val (.int (v2 + (1 : Int32)))]) (S' := []) (H' := (c0 :: bk0 o_roomsOfType o_roomsAtLeast o_firstRoomOfType o_slotActive o_slotType o_slotArrive o_slotNights o_exactCount o_atLeastCount o_planRoom o_planGrid o_planOrder o_totalRooms o_activeStays o_planOrderLength o_planCurrent o_planUnplaced po)) rfl ?_
          exact ih h
    · simp only [if_neg hc100] at h
      refine OEnds.icmpT hm_9 rfl (q := 51) rfl ((flt hc100).2.1) ?_
      refine OEnds.adv hm_9 2 (pc' := 7) (L' := [.val (.ref 1), .val (.int (v1 + (1 : Int32))), .val (.int v2)]) (S' := []) (H' := (c0 :: bk0 o_roomsOfType o_roomsAtLeast o_firstRoomOfType o_slotActive o_slotType o_slotArrive o_slotNights o_exactCount o_atLeastCount o_planRoom o_planGrid o_planOrder o_totalRooms o_activeStays o_planOrderLength o_planCurrent o_planUnplaced po)) rfl ?_
      exact hk7 h
theorem ok_buildOrder_7 {o_roomsOfType : List Int32} {o_roomsAtLeast : List Int32} {o_firstRoomOfType : List Int32} {o_slotActive : List Int32} {o_slotType : List Int32} {o_slotArrive : List Int32} {o_slotNights : List Int32} {o_exactCount : List Int32} {o_atLeastCount : List Int32} {o_planRoom : List Int32} {o_planGrid : List Int32} {o_totalRooms : Int32} {o_activeStays : Int32} {o_planCurrent : Int32} {o_planUnplaced : Int32} {c0 : ACell} {po : List ACell} : ∀ (n : Nat), ∀ {o_planOrder : List Int32} {o_planOrderLength : Int32} {v1 : Int32} {d2 : Slot} {w_o_planOrder : List Int32} {w_o_planOrderLength : Int32}, f_buildOrder_7 o_slotActive o_slotArrive n o_planOrder o_planOrderLength v1 = some (w_o_planOrder, w_o_planOrderLength) → OEnds own_P 9 7 [.val (.ref 1), .val (.int v1), d2] [] (c0 :: bk0 o_roomsOfType o_roomsAtLeast o_firstRoomOfType o_slotActive o_slotType o_slotArrive o_slotNights o_exactCount o_atLeastCount o_planRoom o_planGrid o_planOrder o_totalRooms o_activeStays o_planOrderLength o_planCurrent o_planUnplaced po) (none, (c0 :: bk0 o_roomsOfType o_roomsAtLeast o_firstRoomOfType o_slotActive o_slotType o_slotArrive o_slotNights o_exactCount o_atLeastCount o_planRoom o_planGrid w_o_planOrder o_totalRooms o_activeStays w_o_planOrderLength o_planCurrent o_planUnplaced po), 0, 0) := by
  intro n
  induction n with
  | zero => intro o_planOrder o_planOrderLength v1 d2 w_o_planOrder w_o_planOrderLength h; cases h
  | succ n ih =>
    intro o_planOrder o_planOrderLength v1 d2 w_o_planOrder w_o_planOrderLength h
    unfold f_buildOrder_7 at h
    refine OEnds.adv hm_9 2 (pc' := 10) (L' := [.val (.ref 1), .val (.int v1), .unset]) (S' := [.int 32, .int v1]) (H' := (c0 :: bk0 o_roomsOfType o_roomsAtLeast o_firstRoomOfType o_slotActive o_slotType o_slotArrive o_slotNights o_exactCount o_atLeastCount o_planRoom o_planGrid o_planOrder o_totalRooms o_activeStays o_planOrderLength o_planCurrent o_planUnplaced po)) rfl ?_
    by_cases hc104 : v1 < (32 : Int32)
    · simp only [if_pos hc104] at h
      refine OEnds.icmpF hm_9 rfl ((tlt hc104).2.1) ?_
      refine OEnds.adv hm_9 2 (pc' := 15) (L' := [.val (.ref 1), .val (.int v1), .val (.int 0)]) (S' := []) (H' := (c0 :: bk0 o_roomsOfType o_roomsAtLeast o_firstRoomOfType o_slotActive o_slotType o_slotArrive o_slotNights o_exactCount o_atLeastCount o_planRoom o_planGrid o_planOrder o_totalRooms o_activeStays o_planOrderLength o_planCurrent o_planUnplaced po)) rfl ?_
      exact ok_buildOrder_15 (k7 := f_buildOrder_7 o_slotActive o_slotArrive n) ih 100000 h
    · simp only [if_neg hc104] at h
      refine OEnds.icmpT hm_9 rfl (q := 57) rfl ((flt hc104).2.1) ?_
      show OEnds own_P 9 57 [.val (.ref 1), .val (.int v1), .unset] [] (c0 :: bk0 o_roomsOfType o_roomsAtLeast o_firstRoomOfType o_slotActive o_slotType o_slotArrive o_slotNights o_exactCount o_atLeastCount o_planRoom o_planGrid o_planOrder o_totalRooms o_activeStays o_planOrderLength o_planCurrent o_planUnplaced po) _
      cases h
      exact OEnds.vret hm_9 rfl rfl
theorem ok_buildOrder {o_roomsOfType : List Int32} {o_roomsAtLeast : List Int32} {o_firstRoomOfType : List Int32} {o_slotActive : List Int32} {o_slotType : List Int32} {o_slotArrive : List Int32} {o_slotNights : List Int32} {o_exactCount : List Int32} {o_atLeastCount : List Int32} {o_planRoom : List Int32} {o_planGrid : List Int32} {o_totalRooms : Int32} {o_activeStays : Int32} {o_planCurrent : Int32} {o_planUnplaced : Int32} {c0 : ACell} {po : List ACell} {o_planOrder : List Int32} {o_planOrderLength : Int32} {w_o_planOrder : List Int32} {w_o_planOrderLength : Int32} (h : f_buildOrder o_slotActive o_slotArrive o_planOrder o_planOrderLength = some (w_o_planOrder, w_o_planOrderLength)) : OEnds own_P 9 0 [.val (.ref 1), .unset, .unset] [] (c0 :: bk0 o_roomsOfType o_roomsAtLeast o_firstRoomOfType o_slotActive o_slotType o_slotArrive o_slotNights o_exactCount o_atLeastCount o_planRoom o_planGrid o_planOrder o_totalRooms o_activeStays o_planOrderLength o_planCurrent o_planUnplaced po) (none, (c0 :: bk0 o_roomsOfType o_roomsAtLeast o_firstRoomOfType o_slotActive o_slotType o_slotArrive o_slotNights o_exactCount o_atLeastCount o_planRoom o_planGrid w_o_planOrder o_totalRooms o_activeStays w_o_planOrderLength o_planCurrent o_planUnplaced po), 0, 0) := by
  unfold f_buildOrder at h
  refine OEnds.adv hm_9 5 (pc' := 7) (L' := [.val (.ref 1), .val (.int 0), .unset]) (S' := []) (H' := (c0 :: bk0 o_roomsOfType o_roomsAtLeast o_firstRoomOfType o_slotActive o_slotType o_slotArrive o_slotNights o_exactCount o_atLeastCount o_planRoom o_planGrid o_planOrder o_totalRooms o_activeStays 0 o_planCurrent o_planUnplaced po)) rfl ?_
  exact ok_buildOrder_7 100000 h
theorem ok_gridIndex {o_roomsOfType : List Int32} {o_roomsAtLeast : List Int32} {o_firstRoomOfType : List Int32} {o_slotActive : List Int32} {o_slotType : List Int32} {o_slotArrive : List Int32} {o_slotNights : List Int32} {o_exactCount : List Int32} {o_atLeastCount : List Int32} {o_planRoom : List Int32} {o_planGrid : List Int32} {o_planOrder : List Int32} {o_totalRooms : Int32} {o_activeStays : Int32} {o_planOrderLength : Int32} {o_planCurrent : Int32} {o_planUnplaced : Int32} {c0 : ACell} {po : List ACell} {v1 : Int32} {v2 : Int32} {res : Int32} (h : f_gridIndex v1 v2 = some res) : OEnds own_P 46 0 [.val (.ref 1), .val (.int v1), .val (.int v2)] [] (c0 :: bk0 o_roomsOfType o_roomsAtLeast o_firstRoomOfType o_slotActive o_slotType o_slotArrive o_slotNights o_exactCount o_atLeastCount o_planRoom o_planGrid o_planOrder o_totalRooms o_activeStays o_planOrderLength o_planCurrent o_planUnplaced po) (some (.int res), (c0 :: bk0 o_roomsOfType o_roomsAtLeast o_firstRoomOfType o_slotActive o_slotType o_slotArrive o_slotNights o_exactCount o_atLeastCount o_planRoom o_planGrid o_planOrder o_totalRooms o_activeStays o_planOrderLength o_planCurrent o_planUnplaced po), 0, 0) := by
  unfold f_gridIndex at h
  refine OEnds.adv hm_46 5 (pc' := 6) (L' := [.val (.ref 1), .val (.int v1), .val (.int v2)]) (S' := [.int ((v1 * (32 : Int32)) + v2)]) (H' := (c0 :: bk0 o_roomsOfType o_roomsAtLeast o_firstRoomOfType o_slotActive o_slotType o_slotArrive o_slotNights o_exactCount o_atLeastCount o_planRoom o_planGrid o_planOrder o_totalRooms o_activeStays o_planOrderLength o_planCurrent o_planUnplaced po)) rfl ?_
  cases h
  exact OEnds.iret hm_46 rfl rfl
theorem ok_gridAt {o_roomsOfType : List Int32} {o_roomsAtLeast : List Int32} {o_firstRoomOfType : List Int32} {o_slotActive : List Int32} {o_slotType : List Int32} {o_slotArrive : List Int32} {o_slotNights : List Int32} {o_exactCount : List Int32} {o_atLeastCount : List Int32} {o_planRoom : List Int32} {o_planGrid : List Int32} {o_planOrder : List Int32} {o_totalRooms : Int32} {o_activeStays : Int32} {o_planOrderLength : Int32} {o_planCurrent : Int32} {o_planUnplaced : Int32} {c0 : ACell} {po : List ACell} {v1 : Int32} {v2 : Int32} {res : Int32} (h : f_gridAt o_planGrid v1 v2 = some res) : OEnds own_P 45 0 [.val (.ref 1), .val (.int v1), .val (.int v2)] [] (c0 :: bk0 o_roomsOfType o_roomsAtLeast o_firstRoomOfType o_slotActive o_slotType o_slotArrive o_slotNights o_exactCount o_atLeastCount o_planRoom o_planGrid o_planOrder o_totalRooms o_activeStays o_planOrderLength o_planCurrent o_planUnplaced po) (some (.int res), (c0 :: bk0 o_roomsOfType o_roomsAtLeast o_firstRoomOfType o_slotActive o_slotType o_slotArrive o_slotNights o_exactCount o_atLeastCount o_planRoom o_planGrid o_planOrder o_totalRooms o_activeStays o_planOrderLength o_planCurrent o_planUnplaced po), 0, 0) := by
  unfold f_gridAt at h
  refine OEnds.adv hm_45 1 (pc' := 1) (L' := [.val (.ref 1), .val (.int v1), .val (.int v2)]) (S' := [.int v1]) (H' := (c0 :: bk0 o_roomsOfType o_roomsAtLeast o_firstRoomOfType o_slotActive o_slotType o_slotArrive o_slotNights o_exactCount o_atLeastCount o_planRoom o_planGrid o_planOrder o_totalRooms o_activeStays o_planOrderLength o_planCurrent o_planUnplaced po)) rfl ?_
  by_cases hc105 : v1 < (0 : Int32)
  · simp only [if_pos hc105] at h
    refine OEnds.ifT hm_45 rfl (q := 18) rfl ((tlt hc105).1) ?_
    refine OEnds.adv hm_45 1 (pc' := 19) (L' := [.val (.ref 1), .val (.int v1), .val (.int v2)]) (S' := [.int (-1)]) (H' := (c0 :: bk0 o_roomsOfType o_roomsAtLeast o_firstRoomOfType o_slotActive o_slotType o_slotArrive o_slotNights o_exactCount o_atLeastCount o_planRoom o_planGrid o_planOrder o_totalRooms o_activeStays o_planOrderLength o_planCurrent o_planUnplaced po)) rfl ?_
    cases h
    exact OEnds.iret hm_45 rfl rfl
  · simp only [if_neg hc105] at h
    refine OEnds.ifF hm_45 rfl ((flt hc105).1) ?_
    refine OEnds.adv hm_45 2 (pc' := 7) (L' := [.val (.ref 1), .val (.int v1), .val (.int v2)]) (S' := [.int 24, .int v1]) (H' := (c0 :: bk0 o_roomsOfType o_roomsAtLeast o_firstRoomOfType o_slotActive o_slotType o_slotArrive o_slotNights o_exactCount o_atLeastCount o_planRoom o_planGrid o_planOrder o_totalRooms o_activeStays o_planOrderLength o_planCurrent o_planUnplaced po)) rfl ?_
    by_cases hc106 : v1 < (24 : Int32)
    · simp only [if_pos hc106] at h
      refine OEnds.icmpF hm_45 rfl ((tlt hc106).2.1) ?_
      refine OEnds.adv hm_45 2 (pc' := 12) (L' := [.val (.ref 1), .val (.int v1), .val (.int v2)]) (S' := [.int v2, .ref 1]) (H' := (c0 :: bk0 o_roomsOfType o_roomsAtLeast o_firstRoomOfType o_slotActive o_slotType o_slotArrive o_slotNights o_exactCount o_atLeastCount o_planRoom o_planGrid o_planOrder o_totalRooms o_activeStays o_planOrderLength o_planCurrent o_planUnplaced po)) rfl ?_
      obtain ⟨r125, hq107, h⟩ := bnd h
      refine OEnds.call0 hm_45 rfl rfl (by decide) rfl (as := [.ref 1, .int v2]) (rest := []) rfl rfl (ok_isValidNight hq107) ?_
      show OEnds own_P 45 15 [.val (.ref 1), .val (.int v1), .val (.int v2)] [.int r125] (c0 :: bk0 o_roomsOfType o_roomsAtLeast o_firstRoomOfType o_slotActive o_slotType o_slotArrive o_slotNights o_exactCount o_atLeastCount o_planRoom o_planGrid o_planOrder o_totalRooms o_activeStays o_planOrderLength o_planCurrent o_planUnplaced po) _
      by_cases hc108 : r125 = (0 : Int32)
      · simp only [if_pos hc108] at h
        refine OEnds.ifF hm_45 rfl ((teq hc108).2) ?_
        refine OEnds.adv hm_45 1 (pc' := 19) (L' := [.val (.ref 1), .val (.int v1), .val (.int v2)]) (S' := [.int (-1)]) (H' := (c0 :: bk0 o_roomsOfType o_roomsAtLeast o_firstRoomOfType o_slotActive o_slotType o_slotArrive o_slotNights o_exactCount o_atLeastCount o_planRoom o_planGrid o_planOrder o_totalRooms o_activeStays o_planOrderLength o_planCurrent o_planUnplaced po)) rfl ?_
        cases h
        exact OEnds.iret hm_45 rfl rfl
      · simp only [if_neg hc108] at h
        refine OEnds.ifT hm_45 rfl (q := 20) rfl ((feq hc108).2) ?_
        refine OEnds.adv hm_45 5 (pc' := 27) (L' := [.val (.ref 1), .val (.int v1), .val (.int v2)]) (S' := [.int v2, .int v1, .ref 1, .ref 12]) (H' := (c0 :: bk0 o_roomsOfType o_roomsAtLeast o_firstRoomOfType o_slotActive o_slotType o_slotArrive o_slotNights o_exactCount o_atLeastCount o_planRoom o_planGrid o_planOrder o_totalRooms o_activeStays o_planOrderLength o_planCurrent o_planUnplaced po)) rfl ?_
        obtain ⟨r126, hq109, h⟩ := bnd h
        refine OEnds.call0 hm_45 rfl rfl (by decide) rfl (as := [.ref 1, .int v1, .int v2]) (rest := [.ref 12]) rfl rfl (ok_gridIndex hq109) ?_
        show OEnds own_P 45 30 [.val (.ref 1), .val (.int v1), .val (.int v2)] [.int r126, .ref 12] (c0 :: bk0 o_roomsOfType o_roomsAtLeast o_firstRoomOfType o_slotActive o_slotType o_slotArrive o_slotNights o_exactCount o_atLeastCount o_planRoom o_planGrid o_planOrder o_totalRooms o_activeStays o_planOrderLength o_planCurrent o_planUnplaced po) _
        obtain ⟨x127, hx127, h⟩ := bnd h
        refine OEnds.plain hm_45 rfl rfl (x_iaload rfl hx127) ?_
        show OEnds own_P 45 31 [.val (.ref 1), .val (.int v1), .val (.int v2)] [.int x127] (c0 :: bk0 o_roomsOfType o_roomsAtLeast o_firstRoomOfType o_slotActive o_slotType o_slotArrive o_slotNights o_exactCount o_atLeastCount o_planRoom o_planGrid o_planOrder o_totalRooms o_activeStays o_planOrderLength o_planCurrent o_planUnplaced po) _
        cases h
        exact OEnds.iret hm_45 rfl rfl
    · simp only [if_neg hc106] at h
      refine OEnds.icmpT hm_45 rfl (q := 18) rfl ((flt hc106).2.1) ?_
      refine OEnds.adv hm_45 1 (pc' := 19) (L' := [.val (.ref 1), .val (.int v1), .val (.int v2)]) (S' := [.int (-1)]) (H' := (c0 :: bk0 o_roomsOfType o_roomsAtLeast o_firstRoomOfType o_slotActive o_slotType o_slotArrive o_slotNights o_exactCount o_atLeastCount o_planRoom o_planGrid o_planOrder o_totalRooms o_activeStays o_planOrderLength o_planCurrent o_planUnplaced po)) rfl ?_
      cases h
      exact OEnds.iret hm_45 rfl rfl
theorem ok_roomIsFree_11 {o_roomsOfType : List Int32} {o_roomsAtLeast : List Int32} {o_firstRoomOfType : List Int32} {o_slotActive : List Int32} {o_slotType : List Int32} {o_slotArrive : List Int32} {o_slotNights : List Int32} {o_exactCount : List Int32} {o_atLeastCount : List Int32} {o_planRoom : List Int32} {o_planGrid : List Int32} {o_planOrder : List Int32} {o_totalRooms : Int32} {o_activeStays : Int32} {o_planOrderLength : Int32} {o_planCurrent : Int32} {o_planUnplaced : Int32} {c0 : ACell} {po : List ACell} : ∀ (n : Nat), ∀ {v1 : Int32} {v4 : Int32} {v5 : Int32} {d2 d3 : Slot} {res : Int32}, f_roomIsFree_11 o_planGrid n v1 v4 v5 = some res → OEnds own_P 44 11 [.val (.ref 1), .val (.int v1), d2, d3, .val (.int v4), .val (.int v5)] [] (c0 :: bk0 o_roomsOfType o_roomsAtLeast o_firstRoomOfType o_slotActive o_slotType o_slotArrive o_slotNights o_exactCount o_atLeastCount o_planRoom o_planGrid o_planOrder o_totalRooms o_activeStays o_planOrderLength o_planCurrent o_planUnplaced po) (some (.int res), (c0 :: bk0 o_roomsOfType o_roomsAtLeast o_firstRoomOfType o_slotActive o_slotType o_slotArrive o_slotNights o_exactCount o_atLeastCount o_planRoom o_planGrid o_planOrder o_totalRooms o_activeStays o_planOrderLength o_planCurrent o_planUnplaced po), 0, 0) := by
  intro n
  induction n with
  | zero => intro v1 v4 v5 d2 d3 res h; cases h
  | succ n ih =>
    intro v1 v4 v5 d2 d3 res h
    unfold f_roomIsFree_11 at h
    refine OEnds.adv hm_44 1 (pc' := 13) (L' := [.val (.ref 1), .val (.int v1), .unset, .unset, .val (.int v4), .val (.int v5)]) (S' := [.int v5]) (H' := (c0 :: bk0 o_roomsOfType o_roomsAtLeast o_firstRoomOfType o_slotActive o_slotType o_slotArrive o_slotNights o_exactCount o_atLeastCount o_planRoom o_planGrid o_planOrder o_totalRooms o_activeStays o_planOrderLength o_planCurrent o_planUnplaced po)) rfl ?_
    by_cases hc110 : v5 < (0 : Int32)
    · simp only [if_pos hc110] at h
      refine OEnds.ifT hm_44 rfl (q := 42) rfl ((tlt hc110).1) ?_
      refine OEnds.adv hm_44 1 (pc' := 43) (L' := [.val (.ref 1), .val (.int v1), .unset, .unset, .val (.int v4), .val (.int v5)]) (S' := [.int 1]) (H' := (c0 :: bk0 o_roomsOfType o_roomsAtLeast o_firstRoomOfType o_slotActive o_slotType o_slotArrive o_slotNights o_exactCount o_atLeastCount o_planRoom o_planGrid o_planOrder o_totalRooms o_activeStays o_planOrderLength o_planCurrent o_planUnplaced po)) rfl ?_
      cases h
      exact OEnds.iret hm_44 rfl rfl
    · simp only [if_neg hc110] at h
      refine OEnds.ifF hm_44 rfl ((flt hc110).1) ?_
      refine OEnds.adv hm_44 2 (pc' := 20) (L' := [.val (.ref 1), .val (.int v1), .unset, .unset, .val (.int v4), .val (.int v5)]) (S' := [.int v4, .int v5]) (H' := (c0 :: bk0 o_roomsOfType o_roomsAtLeast o_firstRoomOfType o_slotActive o_slotType o_slotArrive o_slotNights o_exactCount o_atLeastCount o_planRoom o_planGrid o_planOrder o_totalRooms o_activeStays o_planOrderLength o_planCurrent o_planUnplaced po)) rfl ?_
      by_cases hc111 : v5 < v4
      · simp only [if_pos hc111] at h
        refine OEnds.icmpF hm_44 rfl ((tlt hc111).2.1) ?_
        refine OEnds.adv hm_44 3 (pc' := 27) (L' := [.val (.ref 1), .val (.int v1), .unset, .unset, .val (.int v4), .val (.int v5)]) (S' := [.int v5, .int v1, .ref 1]) (H' := (c0 :: bk0 o_roomsOfType o_roomsAtLeast o_firstRoomOfType o_slotActive o_slotType o_slotArrive o_slotNights o_exactCount o_atLeastCount o_planRoom o_planGrid o_planOrder o_totalRooms o_activeStays o_planOrderLength o_planCurrent o_planUnplaced po)) rfl ?_
        obtain ⟨r129, hq112, h⟩ := bnd h
        refine OEnds.call0 hm_44 rfl rfl (by decide) rfl (as := [.ref 1, .int v1, .int v5]) (rest := []) rfl rfl (ok_gridAt hq112) ?_
        refine OEnds.adv hm_44 1 (pc' := 31) (L' := [.val (.ref 1), .val (.int v1), .unset, .unset, .val (.int v4), .val (.int v5)]) (S' := [.int (-1), .int r129]) (H' := (c0 :: bk0 o_roomsOfType o_roomsAtLeast o_firstRoomOfType o_slotActive o_slotType o_slotArrive o_slotNights o_exactCount o_atLeastCount o_planRoom o_planGrid o_planOrder o_totalRooms o_activeStays o_planOrderLength o_planCurrent o_planUnplaced po)) rfl ?_
        by_cases hc113 : r129 = (-1 : Int32)
        · simp only [if_pos hc113] at h
          refine OEnds.icmpT hm_44 rfl (q := 36) rfl ((teq hc113).1) ?_
          refine OEnds.adv hm_44 2 (pc' := 11) (L' := [.val (.ref 1), .val (.int v1), .unset, .unset, .val (.int v4), .val (.int (v5 + (1 : Int32)))]) (S' := []) (H' := (c0 :: bk0 o_roomsOfType o_roomsAtLeast o_firstRoomOfType o_slotActive o_slotType o_slotArrive o_slotNights o_exactCount o_atLeastCount o_planRoom o_planGrid o_planOrder o_totalRooms o_activeStays o_planOrderLength o_planCurrent o_planUnplaced po)) rfl ?_
          exact ih h
        · simp only [if_neg hc113] at h
          refine OEnds.icmpF hm_44 rfl ((feq hc113).1) ?_
          refine OEnds.adv hm_44 1 (pc' := 35) (L' := [.val (.ref 1), .val (.int v1), .unset, .unset, .val (.int v4), .val (.int v5)]) (S' := [.int 0]) (H' := (c0 :: bk0 o_roomsOfType o_roomsAtLeast o_firstRoomOfType o_slotActive o_slotType o_slotArrive o_slotNights o_exactCount o_atLeastCount o_planRoom o_planGrid o_planOrder o_totalRooms o_activeStays o_planOrderLength o_planCurrent o_planUnplaced po)) rfl ?_
          cases h
          exact OEnds.iret hm_44 rfl rfl
      · simp only [if_neg hc111] at h
        refine OEnds.icmpT hm_44 rfl (q := 42) rfl ((flt hc111).2.1) ?_
        refine OEnds.adv hm_44 1 (pc' := 43) (L' := [.val (.ref 1), .val (.int v1), .unset, .unset, .val (.int v4), .val (.int v5)]) (S' := [.int 1]) (H' := (c0 :: bk0 o_roomsOfType o_roomsAtLeast o_firstRoomOfType o_slotActive o_slotType o_slotArrive o_slotNights o_exactCount o_atLeastCount o_planRoom o_planGrid o_planOrder o_totalRooms o_activeStays o_planOrderLength o_planCurrent o_planUnplaced po)) rfl ?_
        cases h
        exact OEnds.iret hm_44 rfl rfl
theorem ok_roomIsFree {o_roomsOfType : List Int32} {o_roomsAtLeast : List Int32} {o_firstRoomOfType : List Int32} {o_slotActive : List Int32} {o_slotType : List Int32} {o_slotArrive : List Int32} {o_slotNights : List Int32} {o_exactCount : List Int32} {o_atLeastCount : List Int32} {o_planRoom : List Int32} {o_planGrid : List Int32} {o_planOrder : List Int32} {o_totalRooms : Int32} {o_activeStays : Int32} {o_planOrderLength : Int32} {o_planCurrent : Int32} {o_planUnplaced : Int32} {c0 : ACell} {po : List ACell} {v1 : Int32} {v2 : Int32} {v3 : Int32} {res : Int32} (h : f_roomIsFree o_planGrid v1 v2 v3 = some res) : OEnds own_P 44 0 [.val (.ref 1), .val (.int v1), .val (.int v2), .val (.int v3), .unset, .unset] [] (c0 :: bk0 o_roomsOfType o_roomsAtLeast o_firstRoomOfType o_slotActive o_slotType o_slotArrive o_slotNights o_exactCount o_atLeastCount o_planRoom o_planGrid o_planOrder o_totalRooms o_activeStays o_planOrderLength o_planCurrent o_planUnplaced po) (some (.int res), (c0 :: bk0 o_roomsOfType o_roomsAtLeast o_firstRoomOfType o_slotActive o_slotType o_slotArrive o_slotNights o_exactCount o_atLeastCount o_planRoom o_planGrid o_planOrder o_totalRooms o_activeStays o_planOrderLength o_planCurrent o_planUnplaced po), 0, 0) := by
  unfold f_roomIsFree at h
  refine OEnds.adv hm_44 3 (pc' := 3) (L' := [.val (.ref 1), .val (.int v1), .val (.int v2), .val (.int v3), .unset, .unset]) (S' := [.int v3, .int v2, .ref 1]) (H' := (c0 :: bk0 o_roomsOfType o_roomsAtLeast o_firstRoomOfType o_slotActive o_slotType o_slotArrive o_slotNights o_exactCount o_atLeastCount o_planRoom o_planGrid o_planOrder o_totalRooms o_activeStays o_planOrderLength o_planCurrent o_planUnplaced po)) rfl ?_
  obtain ⟨r128, hq114, h⟩ := bnd h
  refine OEnds.call0 hm_44 rfl rfl (by decide) rfl (as := [.ref 1, .int v2, .int v3]) (rest := []) rfl rfl (ok_endOf hq114) ?_
  refine OEnds.adv hm_44 3 (pc' := 11) (L' := [.val (.ref 1), .val (.int v1), .val (.int v2), .val (.int v3), .val (.int r128), .val (.int v2)]) (S' := []) (H' := (c0 :: bk0 o_roomsOfType o_roomsAtLeast o_firstRoomOfType o_slotActive o_slotType o_slotArrive o_slotNights o_exactCount o_atLeastCount o_planRoom o_planGrid o_planOrder o_totalRooms o_activeStays o_planOrderLength o_planCurrent o_planUnplaced po)) rfl ?_
  exact ok_roomIsFree_11 100000 h
theorem ok_markRoom_23 {o_roomsOfType : List Int32} {o_roomsAtLeast : List Int32} {o_firstRoomOfType : List Int32} {o_slotActive : List Int32} {o_slotType : List Int32} {o_slotArrive : List Int32} {o_slotNights : List Int32} {o_exactCount : List Int32} {o_atLeastCount : List Int32} {o_planRoom : List Int32} {o_planOrder : List Int32} {o_totalRooms : Int32} {o_activeStays : Int32} {o_planOrderLength : Int32} {o_planCurrent : Int32} {o_planUnplaced : Int32} {c0 : ACell} {po : List ACell} : ∀ (n : Nat), ∀ {o_planGrid : List Int32} {v1 : Int32} {v2 : Int32} {v5 : Int32} {v6 : Int32} {d3 d4 : Slot} {w_o_planGrid : List Int32}, f_markRoom_23 n o_planGrid v1 v2 v5 v6 = some w_o_planGrid → OEnds own_P 47 23 [.val (.ref 1), .val (.int v1), .val (.int v2), d3, d4, .val (.int v5), .val (.int v6)] [] (c0 :: bk0 o_roomsOfType o_roomsAtLeast o_firstRoomOfType o_slotActive o_slotType o_slotArrive o_slotNights o_exactCount o_atLeastCount o_planRoom o_planGrid o_planOrder o_totalRooms o_activeStays o_planOrderLength o_planCurrent o_planUnplaced po) (none, (c0 :: bk0 o_roomsOfType o_roomsAtLeast o_firstRoomOfType o_slotActive o_slotType o_slotArrive o_slotNights o_exactCount o_atLeastCount o_planRoom w_o_planGrid o_planOrder o_totalRooms o_activeStays o_planOrderLength o_planCurrent o_planUnplaced po), 0, 0) := by
  intro n
  induction n with
  | zero => intro o_planGrid v1 v2 v5 v6 d3 d4 w_o_planGrid h; cases h
  | succ n ih =>
    intro o_planGrid v1 v2 v5 v6 d3 d4 w_o_planGrid h
    unfold f_markRoom_23 at h
    refine OEnds.adv hm_47 1 (pc' := 25) (L' := [.val (.ref 1), .val (.int v1), .val (.int v2), .unset, .unset, .val (.int v5), .val (.int v6)]) (S' := [.int v6]) (H' := (c0 :: bk0 o_roomsOfType o_roomsAtLeast o_firstRoomOfType o_slotActive o_slotType o_slotArrive o_slotNights o_exactCount o_atLeastCount o_planRoom o_planGrid o_planOrder o_totalRooms o_activeStays o_planOrderLength o_planCurrent o_planUnplaced po)) rfl ?_
    by_cases hc115 : v6 < (0 : Int32)
    · simp only [if_pos hc115] at h
      refine OEnds.ifT hm_47 rfl (q := 54) rfl ((tlt hc115).1) ?_
      show OEnds own_P 47 54 [.val (.ref 1), .val (.int v1), .val (.int v2), .unset, .unset, .val (.int v5), .val (.int v6)] [] (c0 :: bk0 o_roomsOfType o_roomsAtLeast o_firstRoomOfType o_slotActive o_slotType o_slotArrive o_slotNights o_exactCount o_atLeastCount o_planRoom o_planGrid o_planOrder o_totalRooms o_activeStays o_planOrderLength o_planCurrent o_planUnplaced po) _
      cases h
      exact OEnds.vret hm_47 rfl rfl
    · simp only [if_neg hc115] at h
      refine OEnds.ifF hm_47 rfl ((flt hc115).1) ?_
      refine OEnds.adv hm_47 2 (pc' := 32) (L' := [.val (.ref 1), .val (.int v1), .val (.int v2), .unset, .unset, .val (.int v5), .val (.int v6)]) (S' := [.int v5, .int v6]) (H' := (c0 :: bk0 o_roomsOfType o_roomsAtLeast o_firstRoomOfType o_slotActive o_slotType o_slotArrive o_slotNights o_exactCount o_atLeastCount o_planRoom o_planGrid o_planOrder o_totalRooms o_activeStays o_planOrderLength o_planCurrent o_planUnplaced po)) rfl ?_
      by_cases hc116 : v6 < v5
      · simp only [if_pos hc116] at h
        refine OEnds.icmpF hm_47 rfl ((tlt hc116).2.1) ?_
        refine OEnds.adv hm_47 5 (pc' := 43) (L' := [.val (.ref 1), .val (.int v1), .val (.int v2), .unset, .unset, .val (.int v5), .val (.int v6)]) (S' := [.int v6, .int v1, .ref 1, .ref 12]) (H' := (c0 :: bk0 o_roomsOfType o_roomsAtLeast o_firstRoomOfType o_slotActive o_slotType o_slotArrive o_slotNights o_exactCount o_atLeastCount o_planRoom o_planGrid o_planOrder o_totalRooms o_activeStays o_planOrderLength o_planCurrent o_planUnplaced po)) rfl ?_
        obtain ⟨r131, hq117, h⟩ := bnd h
        refine OEnds.call0 hm_47 rfl rfl (by decide) rfl (as := [.ref 1, .int v1, .int v6]) (rest := [.ref 12]) rfl rfl (ok_gridIndex hq117) ?_
        refine OEnds.adv hm_47 1 (pc' := 47) (L' := [.val (.ref 1), .val (.int v1), .val (.int v2), .unset, .unset, .val (.int v5), .val (.int v6)]) (S' := [.int v2, .int r131, .ref 12]) (H' := (c0 :: bk0 o_roomsOfType o_roomsAtLeast o_firstRoomOfType o_slotActive o_slotType o_slotArrive o_slotNights o_exactCount o_atLeastCount o_planRoom o_planGrid o_planOrder o_totalRooms o_activeStays o_planOrderLength o_planCurrent o_planUnplaced po)) rfl ?_
        obtain ⟨A132, hA132, h⟩ := bnd h
        refine OEnds.plain hm_47 rfl rfl (x_iastore rfl (Nat.le_of_ble_eq_true rfl) hA132) ?_
        refine OEnds.adv hm_47 2 (pc' := 23) (L' := [.val (.ref 1), .val (.int v1), .val (.int v2), .unset, .unset, .val (.int v5), .val (.int (v6 + (1 : Int32)))]) (S' := []) (H' := (c0 :: bk0 o_roomsOfType o_roomsAtLeast o_firstRoomOfType o_slotActive o_slotType o_slotArrive o_slotNights o_exactCount o_atLeastCount o_planRoom A132 o_planOrder o_totalRooms o_activeStays o_planOrderLength o_planCurrent o_planUnplaced po)) rfl ?_
        exact ih h
      · simp only [if_neg hc116] at h
        refine OEnds.icmpT hm_47 rfl (q := 54) rfl ((flt hc116).2.1) ?_
        show OEnds own_P 47 54 [.val (.ref 1), .val (.int v1), .val (.int v2), .unset, .unset, .val (.int v5), .val (.int v6)] [] (c0 :: bk0 o_roomsOfType o_roomsAtLeast o_firstRoomOfType o_slotActive o_slotType o_slotArrive o_slotNights o_exactCount o_atLeastCount o_planRoom o_planGrid o_planOrder o_totalRooms o_activeStays o_planOrderLength o_planCurrent o_planUnplaced po) _
        cases h
        exact OEnds.vret hm_47 rfl rfl
theorem ok_markRoom {o_roomsOfType : List Int32} {o_roomsAtLeast : List Int32} {o_firstRoomOfType : List Int32} {o_slotActive : List Int32} {o_slotType : List Int32} {o_slotArrive : List Int32} {o_slotNights : List Int32} {o_exactCount : List Int32} {o_atLeastCount : List Int32} {o_planRoom : List Int32} {o_planOrder : List Int32} {o_totalRooms : Int32} {o_activeStays : Int32} {o_planOrderLength : Int32} {o_planCurrent : Int32} {o_planUnplaced : Int32} {c0 : ACell} {po : List ACell} {o_planGrid : List Int32} {v1 : Int32} {v2 : Int32} {v3 : Int32} {v4 : Int32} {w_o_planGrid : List Int32} (h : f_markRoom o_planGrid v1 v2 v3 v4 = some w_o_planGrid) : OEnds own_P 47 0 [.val (.ref 1), .val (.int v1), .val (.int v2), .val (.int v3), .val (.int v4), .unset, .unset] [] (c0 :: bk0 o_roomsOfType o_roomsAtLeast o_firstRoomOfType o_slotActive o_slotType o_slotArrive o_slotNights o_exactCount o_atLeastCount o_planRoom o_planGrid o_planOrder o_totalRooms o_activeStays o_planOrderLength o_planCurrent o_planUnplaced po) (none, (c0 :: bk0 o_roomsOfType o_roomsAtLeast o_firstRoomOfType o_slotActive o_slotType o_slotArrive o_slotNights o_exactCount o_atLeastCount o_planRoom w_o_planGrid o_planOrder o_totalRooms o_activeStays o_planOrderLength o_planCurrent o_planUnplaced po), 0, 0) := by
  unfold f_markRoom at h
  refine OEnds.adv hm_47 1 (pc' := 1) (L' := [.val (.ref 1), .val (.int v1), .val (.int v2), .val (.int v3), .val (.int v4), .unset, .unset]) (S' := [.int v1]) (H' := (c0 :: bk0 o_roomsOfType o_roomsAtLeast o_firstRoomOfType o_slotActive o_slotType o_slotArrive o_slotNights o_exactCount o_atLeastCount o_planRoom o_planGrid o_planOrder o_totalRooms o_activeStays o_planOrderLength o_planCurrent o_planUnplaced po)) rfl ?_
  by_cases hc118 : v1 < (0 : Int32)
  · simp only [if_pos hc118] at h
    refine OEnds.ifT hm_47 rfl (q := 10) rfl ((tlt hc118).1) ?_
    show OEnds own_P 47 10 [.val (.ref 1), .val (.int v1), .val (.int v2), .val (.int v3), .val (.int v4), .unset, .unset] [] (c0 :: bk0 o_roomsOfType o_roomsAtLeast o_firstRoomOfType o_slotActive o_slotType o_slotArrive o_slotNights o_exactCount o_atLeastCount o_planRoom o_planGrid o_planOrder o_totalRooms o_activeStays o_planOrderLength o_planCurrent o_planUnplaced po) _
    cases h
    exact OEnds.vret hm_47 rfl rfl
  · simp only [if_neg hc118] at h
    refine OEnds.ifF hm_47 rfl ((flt hc118).1) ?_
    refine OEnds.adv hm_47 2 (pc' := 7) (L' := [.val (.ref 1), .val (.int v1), .val (.int v2), .val (.int v3), .val (.int v4), .unset, .unset]) (S' := [.int 24, .int v1]) (H' := (c0 :: bk0 o_roomsOfType o_roomsAtLeast o_firstRoomOfType o_slotActive o_slotType o_slotArrive o_slotNights o_exactCount o_atLeastCount o_planRoom o_planGrid o_planOrder o_totalRooms o_activeStays o_planOrderLength o_planCurrent o_planUnplaced po)) rfl ?_
    by_cases hc119 : v1 < (24 : Int32)
    · simp only [if_pos hc119] at h
      refine OEnds.icmpT hm_47 rfl (q := 11) rfl ((tlt hc119).1) ?_
      refine OEnds.adv hm_47 3 (pc' := 15) (L' := [.val (.ref 1), .val (.int v1), .val (.int v2), .val (.int v3), .val (.int v4), .unset, .unset]) (S' := [.int v4, .int v3, .ref 1]) (H' := (c0 :: bk0 o_roomsOfType o_roomsAtLeast o_firstRoomOfType o_slotActive o_slotType o_slotArrive o_slotNights o_exactCount o_atLeastCount o_planRoom o_planGrid o_planOrder o_totalRooms o_activeStays o_planOrderLength o_planCurrent o_planUnplaced po)) rfl ?_
      obtain ⟨r130, hq120, h⟩ := bnd h
      refine OEnds.call0 hm_47 rfl rfl (by decide) rfl (as := [.ref 1, .int v3, .int v4]) (rest := []) rfl rfl (ok_endOf hq120) ?_
      refine OEnds.adv hm_47 3 (pc' := 23) (L' := [.val (.ref 1), .val (.int v1), .val (.int v2), .val (.int v3), .val (.int v4), .val (.int r130), .val (.int v3)]) (S' := []) (H' := (c0 :: bk0 o_roomsOfType o_roomsAtLeast o_firstRoomOfType o_slotActive o_slotType o_slotArrive o_slotNights o_exactCount o_atLeastCount o_planRoom o_planGrid o_planOrder o_totalRooms o_activeStays o_planOrderLength o_planCurrent o_planUnplaced po)) rfl ?_
      exact ok_markRoom_23 100000 h
    · simp only [if_neg hc119] at h
      refine OEnds.icmpF hm_47 rfl ((flt hc119).1) ?_
      show OEnds own_P 47 10 [.val (.ref 1), .val (.int v1), .val (.int v2), .val (.int v3), .val (.int v4), .unset, .unset] [] (c0 :: bk0 o_roomsOfType o_roomsAtLeast o_firstRoomOfType o_slotActive o_slotType o_slotArrive o_slotNights o_exactCount o_atLeastCount o_planRoom o_planGrid o_planOrder o_totalRooms o_activeStays o_planOrderLength o_planCurrent o_planUnplaced po) _
      cases h
      exact OEnds.vret hm_47 rfl rfl
theorem ok_placeStay_78 {o_roomsOfType : List Int32} {o_roomsAtLeast : List Int32} {o_firstRoomOfType : List Int32} {o_slotActive : List Int32} {o_slotType : List Int32} {o_slotArrive : List Int32} {o_slotNights : List Int32} {o_exactCount : List Int32} {o_atLeastCount : List Int32} {o_planOrder : List Int32} {o_totalRooms : Int32} {o_activeStays : Int32} {o_planOrderLength : Int32} {o_planCurrent : Int32} {o_planUnplaced : Int32} {c0 : ACell} {po : List ACell} : ∀ {o_planRoom : List Int32} {o_planGrid : List Int32} {v1 : Int32} {v3 : Int32} {v4 : Int32} {v5 : Int32} {d2 : Slot} {res : Int32} {w_o_planRoom : List Int32} {w_o_planGrid : List Int32}, f_placeStay_78 o_firstRoomOfType o_slotActive o_slotType o_slotArrive o_slotNights o_totalRooms o_planRoom o_planGrid v1 v3 v4 v5 = some (res, w_o_planRoom, w_o_planGrid) → OEnds own_P 43 78 [.val (.ref 1), .val (.int v1), d2, .val (.int v3), .val (.int v4), .val (.int v5)] [] (c0 :: bk0 o_roomsOfType o_roomsAtLeast o_firstRoomOfType o_slotActive o_slotType o_slotArrive o_slotNights o_exactCount o_atLeastCount o_planRoom o_planGrid o_planOrder o_totalRooms o_activeStays o_planOrderLength o_planCurrent o_planUnplaced po) (some (.int res), (c0 :: bk0 o_roomsOfType o_roomsAtLeast o_firstRoomOfType o_slotActive o_slotType o_slotArrive o_slotNights o_exactCount o_atLeastCount w_o_planRoom w_o_planGrid o_planOrder o_totalRooms o_activeStays o_planOrderLength o_planCurrent o_planUnplaced po), 0, 0) := by
  intro o_planRoom o_planGrid v1 v3 v4 v5 d2 res w_o_planRoom w_o_planGrid h
  unfold f_placeStay_78 at h
  refine OEnds.adv hm_43 5 (pc' := 85) (L' := [.val (.ref 1), .val (.int v1), .unset, .val (.int v3), .val (.int v4), .val (.int v5)]) (S' := [.int v4, .int v3, .int v1, .int v5, .ref 1]) (H' := (c0 :: bk0 o_roomsOfType o_roomsAtLeast o_firstRoomOfType o_slotActive o_slotType o_slotArrive o_slotNights o_exactCount o_atLeastCount o_planRoom o_planGrid o_planOrder o_totalRooms o_activeStays o_planOrderLength o_planCurrent o_planUnplaced po)) rfl ?_
  obtain ⟨s140, hq121, h⟩ := bnd h
  refine OEnds.call0 hm_43 rfl rfl (by decide) rfl (as := [.ref 1, .int v5, .int v1, .int v3, .int v4]) (rest := []) rfl rfl (ok_markRoom hq121) ?_
  refine OEnds.adv hm_43 4 (pc' := 95) (L' := [.val (.ref 1), .val (.int v1), .unset, .val (.int v3), .val (.int v4), .val (.int v5)]) (S' := [.int v5, .int v1, .ref 11]) (H' := (c0 :: bk0 o_roomsOfType o_roomsAtLeast o_firstRoomOfType o_slotActive o_slotType o_slotArrive o_slotNights o_exactCount o_atLeastCount o_planRoom s140 o_planOrder o_totalRooms o_activeStays o_planOrderLength o_planCurrent o_planUnplaced po)) rfl ?_
  obtain ⟨A141, hA141, h⟩ := bnd h
  refine OEnds.plain hm_43 rfl rfl (x_iastore rfl (Nat.le_of_ble_eq_true rfl) hA141) ?_
  refine OEnds.adv hm_43 1 (pc' := 97) (L' := [.val (.ref 1), .val (.int v1), .unset, .val (.int v3), .val (.int v4), .val (.int v5)]) (S' := [.int 1]) (H' := (c0 :: bk0 o_roomsOfType o_roomsAtLeast o_firstRoomOfType o_slotActive o_slotType o_slotArrive o_slotNights o_exactCount o_atLeastCount A141 s140 o_planOrder o_totalRooms o_activeStays o_planOrderLength o_planCurrent o_planUnplaced po)) rfl ?_
  cases h
  exact OEnds.iret hm_43 rfl rfl
theorem ok_placeStay_50 {o_roomsOfType : List Int32} {o_roomsAtLeast : List Int32} {o_firstRoomOfType : List Int32} {o_slotActive : List Int32} {o_slotType : List Int32} {o_slotArrive : List Int32} {o_slotNights : List Int32} {o_exactCount : List Int32} {o_atLeastCount : List Int32} {o_planOrder : List Int32} {o_totalRooms : Int32} {o_activeStays : Int32} {o_planOrderLength : Int32} {o_planCurrent : Int32} {o_planUnplaced : Int32} {c0 : ACell} {po : List ACell} {k78 : List Int32 → List Int32 → Int32 → Int32 → Int32 → Int32 → Option (Int32 × List Int32 × List Int32)} (hk78 : ∀ {o_planRoom : List Int32} {o_planGrid : List Int32} {v1 : Int32} {v3 : Int32} {v4 : Int32} {v5 : Int32} {d2 : Slot} {res : Int32} {w_o_planRoom : List Int32} {w_o_planGrid : List Int32}, k78 o_planRoom o_planGrid v1 v3 v4 v5 = some (res, w_o_planRoom, w_o_planGrid) → OEnds own_P 43 78 [.val (.ref 1), .val (.int v1), d2, .val (.int v3), .val (.int v4), .val (.int v5)] [] (c0 :: bk0 o_roomsOfType o_roomsAtLeast o_firstRoomOfType o_slotActive o_slotType o_slotArrive o_slotNights o_exactCount o_atLeastCount o_planRoom o_planGrid o_planOrder o_totalRooms o_activeStays o_planOrderLength o_planCurrent o_planUnplaced po) (some (.int res), (c0 :: bk0 o_roomsOfType o_roomsAtLeast o_firstRoomOfType o_slotActive o_slotType o_slotArrive o_slotNights o_exactCount o_atLeastCount w_o_planRoom w_o_planGrid o_planOrder o_totalRooms o_activeStays o_planOrderLength o_planCurrent o_planUnplaced po), 0, 0)) : ∀ (n : Nat), ∀ {o_planRoom : List Int32} {o_planGrid : List Int32} {v1 : Int32} {v3 : Int32} {v4 : Int32} {v5 : Int32} {d2 : Slot} {res : Int32} {w_o_planRoom : List Int32} {w_o_planGrid : List Int32}, f_placeStay_50 k78 o_firstRoomOfType o_slotActive o_slotType o_slotArrive o_slotNights o_totalRooms n o_planRoom o_planGrid v1 v3 v4 v5 = some (res, w_o_planRoom, w_o_planGrid) → OEnds own_P 43 50 [.val (.ref 1), .val (.int v1), d2, .val (.int v3), .val (.int v4), .val (.int v5)] [] (c0 :: bk0 o_roomsOfType o_roomsAtLeast o_firstRoomOfType o_slotActive o_slotType o_slotArrive o_slotNights o_exactCount o_atLeastCount o_planRoom o_planGrid o_planOrder o_totalRooms o_activeStays o_planOrderLength o_planCurrent o_planUnplaced po) (some (.int res), (c0 :: bk0 o_roomsOfType o_roomsAtLeast o_firstRoomOfType o_slotActive o_slotType o_slotArrive o_slotNights o_exactCount o_atLeastCount w_o_planRoom w_o_planGrid o_planOrder o_totalRooms o_activeStays o_planOrderLength o_planCurrent o_planUnplaced po), 0, 0) := by
  intro n
  induction n with
  | zero => intro o_planRoom o_planGrid v1 v3 v4 v5 d2 res w_o_planRoom w_o_planGrid h; cases h
  | succ n ih =>
    intro o_planRoom o_planGrid v1 v3 v4 v5 d2 res w_o_planRoom w_o_planGrid h
    unfold f_placeStay_50 at h
    refine OEnds.adv hm_43 3 (pc' := 56) (L' := [.val (.ref 1), .val (.int v1), .unset, .val (.int v3), .val (.int v4), .val (.int v5)]) (S' := [.int o_totalRooms, .int v5]) (H' := (c0 :: bk0 o_roomsOfType o_roomsAtLeast o_firstRoomOfType o_slotActive o_slotType o_slotArrive o_slotNights o_exactCount o_atLeastCount o_planRoom o_planGrid o_planOrder o_totalRooms o_activeStays o_planOrderLength o_planCurrent o_planUnplaced po)) rfl ?_
    by_cases hc122 : v5 < o_totalRooms
    · simp only [if_pos hc122] at h
      refine OEnds.icmpF hm_43 rfl ((tlt hc122).2.1) ?_
      refine OEnds.adv hm_43 2 (pc' := 63) (L' := [.val (.ref 1), .val (.int v1), .unset, .val (.int v3), .val (.int v4), .val (.int v5)]) (S' := [.int 24, .int v5]) (H' := (c0 :: bk0 o_roomsOfType o_roomsAtLeast o_firstRoomOfType o_slotActive o_slotType o_slotArrive o_slotNights o_exactCount o_atLeastCount o_planRoom o_planGrid o_planOrder o_totalRooms o_activeStays o_planOrderLength o_planCurrent o_planUnplaced po)) rfl ?_
      by_cases hc123 : v5 < (24 : Int32)
      · simp only [if_pos hc123] at h
        refine OEnds.icmpF hm_43 rfl ((tlt hc123).2.1) ?_
        refine OEnds.adv hm_43 4 (pc' := 72) (L' := [.val (.ref 1), .val (.int v1), .unset, .val (.int v3), .val (.int v4), .val (.int v5)]) (S' := [.int v4, .int v3, .int v5, .ref 1]) (H' := (c0 :: bk0 o_roomsOfType o_roomsAtLeast o_firstRoomOfType o_slotActive o_slotType o_slotArrive o_slotNights o_exactCount o_atLeastCount o_planRoom o_planGrid o_planOrder o_totalRooms o_activeStays o_planOrderLength o_planCurrent o_planUnplaced po)) rfl ?_
        obtain ⟨r139, hq124, h⟩ := bnd h
        refine OEnds.call0 hm_43 rfl rfl (by decide) rfl (as := [.ref 1, .int v5, .int v3, .int v4]) (rest := []) rfl rfl (ok_roomIsFree hq124) ?_
        show OEnds own_P 43 75 [.val (.ref 1), .val (.int v1), .unset, .val (.int v3), .val (.int v4), .val (.int v5)] [.int r139] (c0 :: bk0 o_roomsOfType o_roomsAtLeast o_firstRoomOfType o_slotActive o_slotType o_slotArrive o_slotNights o_exactCount o_atLeastCount o_planRoom o_planGrid o_planOrder o_totalRooms o_activeStays o_planOrderLength o_planCurrent o_planUnplaced po) _
        by_cases hc125 : r139 = (0 : Int32)
        · simp only [if_pos hc125] at h
          refine OEnds.ifT hm_43 rfl (q := 98) rfl ((teq hc125).1) ?_
          refine OEnds.adv hm_43 2 (pc' := 50) (L' := [.val (.ref 1), .val (.int v1), .unset, .val (.int v3), .val (.int v4), .val (.int (v5 + (1 : Int32)))]) (S' := []) (H' := (c0 :: bk0 o_roomsOfType o_roomsAtLeast o_firstRoomOfType o_slotActive o_slotType o_slotArrive o_slotNights o_exactCount o_atLeastCount o_planRoom o_planGrid o_planOrder o_totalRooms o_activeStays o_planOrderLength o_planCurrent o_planUnplaced po)) rfl ?_
          exact ih h
        · simp only [if_neg hc125] at h
          refine OEnds.ifF hm_43 rfl ((feq hc125).1) ?_
          show OEnds own_P 43 78 [.val (.ref 1), .val (.int v1), .unset, .val (.int v3), .val (.int v4), .val (.int v5)] [] (c0 :: bk0 o_roomsOfType o_roomsAtLeast o_firstRoomOfType o_slotActive o_slotType o_slotArrive o_slotNights o_exactCount o_atLeastCount o_planRoom o_planGrid o_planOrder o_totalRooms o_activeStays o_planOrderLength o_planCurrent o_planUnplaced po) _
          exact hk78 h
      · simp only [if_neg hc123] at h
        refine OEnds.icmpT hm_43 rfl (q := 104) rfl ((flt hc123).2.1) ?_
        refine OEnds.adv hm_43 1 (pc' := 105) (L' := [.val (.ref 1), .val (.int v1), .unset, .val (.int v3), .val (.int v4), .val (.int v5)]) (S' := [.int 0]) (H' := (c0 :: bk0 o_roomsOfType o_roomsAtLeast o_firstRoomOfType o_slotActive o_slotType o_slotArrive o_slotNights o_exactCount o_atLeastCount o_planRoom o_planGrid o_planOrder o_totalRooms o_activeStays o_planOrderLength o_planCurrent o_planUnplaced po)) rfl ?_
        cases h
        exact OEnds.iret hm_43 rfl rfl
    · simp only [if_neg hc122] at h
      refine OEnds.icmpT hm_43 rfl (q := 104) rfl ((flt hc122).2.1) ?_
      refine OEnds.adv hm_43 1 (pc' := 105) (L' := [.val (.ref 1), .val (.int v1), .unset, .val (.int v3), .val (.int v4), .val (.int v5)]) (S' := [.int 0]) (H' := (c0 :: bk0 o_roomsOfType o_roomsAtLeast o_firstRoomOfType o_slotActive o_slotType o_slotArrive o_slotNights o_exactCount o_atLeastCount o_planRoom o_planGrid o_planOrder o_totalRooms o_activeStays o_planOrderLength o_planCurrent o_planUnplaced po)) rfl ?_
      cases h
      exact OEnds.iret hm_43 rfl rfl
theorem ok_placeStay {o_roomsOfType : List Int32} {o_roomsAtLeast : List Int32} {o_firstRoomOfType : List Int32} {o_slotActive : List Int32} {o_slotType : List Int32} {o_slotArrive : List Int32} {o_slotNights : List Int32} {o_exactCount : List Int32} {o_atLeastCount : List Int32} {o_planOrder : List Int32} {o_totalRooms : Int32} {o_activeStays : Int32} {o_planOrderLength : Int32} {o_planCurrent : Int32} {o_planUnplaced : Int32} {c0 : ACell} {po : List ACell} {o_planRoom : List Int32} {o_planGrid : List Int32} {v1 : Int32} {res : Int32} {w_o_planRoom : List Int32} {w_o_planGrid : List Int32} (h : f_placeStay o_firstRoomOfType o_slotActive o_slotType o_slotArrive o_slotNights o_totalRooms o_planRoom o_planGrid v1 = some (res, w_o_planRoom, w_o_planGrid)) : OEnds own_P 43 0 [.val (.ref 1), .val (.int v1), .unset, .unset, .unset, .unset] [] (c0 :: bk0 o_roomsOfType o_roomsAtLeast o_firstRoomOfType o_slotActive o_slotType o_slotArrive o_slotNights o_exactCount o_atLeastCount o_planRoom o_planGrid o_planOrder o_totalRooms o_activeStays o_planOrderLength o_planCurrent o_planUnplaced po) (some (.int res), (c0 :: bk0 o_roomsOfType o_roomsAtLeast o_firstRoomOfType o_slotActive o_slotType o_slotArrive o_slotNights o_exactCount o_atLeastCount w_o_planRoom w_o_planGrid o_planOrder o_totalRooms o_activeStays o_planOrderLength o_planCurrent o_planUnplaced po), 0, 0) := by
  unfold f_placeStay at h
  refine OEnds.adv hm_43 2 (pc' := 2) (L' := [.val (.ref 1), .val (.int v1), .unset, .unset, .unset, .unset]) (S' := [.int v1, .ref 1]) (H' := (c0 :: bk0 o_roomsOfType o_roomsAtLeast o_firstRoomOfType o_slotActive o_slotType o_slotArrive o_slotNights o_exactCount o_atLeastCount o_planRoom o_planGrid o_planOrder o_totalRooms o_activeStays o_planOrderLength o_planCurrent o_planUnplaced po)) rfl ?_
  obtain ⟨r133, hq126, h⟩ := bnd h
  refine OEnds.call0 hm_43 rfl rfl (by decide) rfl (as := [.ref 1, .int v1]) (rest := []) rfl rfl (ok_isActiveStay hq126) ?_
  show OEnds own_P 43 5 [.val (.ref 1), .val (.int v1), .unset, .unset, .unset, .unset] [.int r133] (c0 :: bk0 o_roomsOfType o_roomsAtLeast o_firstRoomOfType o_slotActive o_slotType o_slotArrive o_slotNights o_exactCount o_atLeastCount o_planRoom o_planGrid o_planOrder o_totalRooms o_activeStays o_planOrderLength o_planCurrent o_planUnplaced po) _
  by_cases hc127 : r133 = (0 : Int32)
  · simp only [if_pos hc127] at h
    refine OEnds.ifF hm_43 rfl ((teq hc127).2) ?_
    refine OEnds.adv hm_43 1 (pc' := 9) (L' := [.val (.ref 1), .val (.int v1), .unset, .unset, .unset, .unset]) (S' := [.int 0]) (H' := (c0 :: bk0 o_roomsOfType o_roomsAtLeast o_firstRoomOfType o_slotActive o_slotType o_slotArrive o_slotNights o_exactCount o_atLeastCount o_planRoom o_planGrid o_planOrder o_totalRooms o_activeStays o_planOrderLength o_planCurrent o_planUnplaced po)) rfl ?_
    cases h
    exact OEnds.iret hm_43 rfl rfl
  · simp only [if_neg hc127] at h
    refine OEnds.ifT hm_43 rfl (q := 10) rfl ((feq hc127).2) ?_
    refine OEnds.adv hm_43 3 (pc' := 15) (L' := [.val (.ref 1), .val (.int v1), .unset, .unset, .unset, .unset]) (S' := [.int v1, .ref 6]) (H' := (c0 :: bk0 o_roomsOfType o_roomsAtLeast o_firstRoomOfType o_slotActive o_slotType o_slotArrive o_slotNights o_exactCount o_atLeastCount o_planRoom o_planGrid o_planOrder o_totalRooms o_activeStays o_planOrderLength o_planCurrent o_planUnplaced po)) rfl ?_
    obtain ⟨x134, hx134, h⟩ := bnd h
    refine OEnds.plain hm_43 rfl rfl (x_iaload rfl hx134) ?_
    refine OEnds.adv hm_43 3 (pc' := 19) (L' := [.val (.ref 1), .val (.int v1), .val (.int x134), .unset, .unset, .unset]) (S' := [.int x134, .ref 1]) (H' := (c0 :: bk0 o_roomsOfType o_roomsAtLeast o_firstRoomOfType o_slotActive o_slotType o_slotArrive o_slotNights o_exactCount o_atLeastCount o_planRoom o_planGrid o_planOrder o_totalRooms o_activeStays o_planOrderLength o_planCurrent o_planUnplaced po)) rfl ?_
    obtain ⟨r135, hq128, h⟩ := bnd h
    refine OEnds.call0 hm_43 rfl rfl (by decide) rfl (as := [.ref 1, .int x134]) (rest := []) rfl rfl (ok_isValidType hq128) ?_
    show OEnds own_P 43 22 [.val (.ref 1), .val (.int v1), .val (.int x134), .unset, .unset, .unset] [.int r135] (c0 :: bk0 o_roomsOfType o_roomsAtLeast o_firstRoomOfType o_slotActive o_slotType o_slotArrive o_slotNights o_exactCount o_atLeastCount o_planRoom o_planGrid o_planOrder o_totalRooms o_activeStays o_planOrderLength o_planCurrent o_planUnplaced po) _
    by_cases hc129 : r135 = (0 : Int32)
    · simp only [if_pos hc129] at h
      refine OEnds.ifF hm_43 rfl ((teq hc129).2) ?_
      refine OEnds.adv hm_43 1 (pc' := 26) (L' := [.val (.ref 1), .val (.int v1), .val (.int x134), .unset, .unset, .unset]) (S' := [.int 0]) (H' := (c0 :: bk0 o_roomsOfType o_roomsAtLeast o_firstRoomOfType o_slotActive o_slotType o_slotArrive o_slotNights o_exactCount o_atLeastCount o_planRoom o_planGrid o_planOrder o_totalRooms o_activeStays o_planOrderLength o_planCurrent o_planUnplaced po)) rfl ?_
      cases h
      exact OEnds.iret hm_43 rfl rfl
    · simp only [if_neg hc129] at h
      refine OEnds.ifT hm_43 rfl (q := 27) rfl ((feq hc129).2) ?_
      refine OEnds.adv hm_43 3 (pc' := 32) (L' := [.val (.ref 1), .val (.int v1), .val (.int x134), .unset, .unset, .unset]) (S' := [.int v1, .ref 7]) (H' := (c0 :: bk0 o_roomsOfType o_roomsAtLeast o_firstRoomOfType o_slotActive o_slotType o_slotArrive o_slotNights o_exactCount o_atLeastCount o_planRoom o_planGrid o_planOrder o_totalRooms o_activeStays o_planOrderLength o_planCurrent o_planUnplaced po)) rfl ?_
      obtain ⟨x136, hx136, h⟩ := bnd h
      refine OEnds.plain hm_43 rfl rfl (x_iaload rfl hx136) ?_
      refine OEnds.adv hm_43 4 (pc' := 39) (L' := [.val (.ref 1), .val (.int v1), .val (.int x134), .val (.int x136), .unset, .unset]) (S' := [.int v1, .ref 8]) (H' := (c0 :: bk0 o_roomsOfType o_roomsAtLeast o_firstRoomOfType o_slotActive o_slotType o_slotArrive o_slotNights o_exactCount o_atLeastCount o_planRoom o_planGrid o_planOrder o_totalRooms o_activeStays o_planOrderLength o_planCurrent o_planUnplaced po)) rfl ?_
      obtain ⟨x137, hx137, h⟩ := bnd h
      refine OEnds.plain hm_43 rfl rfl (x_iaload rfl hx137) ?_
      refine OEnds.adv hm_43 4 (pc' := 47) (L' := [.val (.ref 1), .val (.int v1), .val (.int x134), .val (.int x136), .val (.int x137), .unset]) (S' := [.int x134, .ref 4]) (H' := (c0 :: bk0 o_roomsOfType o_roomsAtLeast o_firstRoomOfType o_slotActive o_slotType o_slotArrive o_slotNights o_exactCount o_atLeastCount o_planRoom o_planGrid o_planOrder o_totalRooms o_activeStays o_planOrderLength o_planCurrent o_planUnplaced po)) rfl ?_
      obtain ⟨x138, hx138, h⟩ := bnd h
      refine OEnds.plain hm_43 rfl rfl (x_iaload rfl hx138) ?_
      refine OEnds.adv hm_43 1 (pc' := 50) (L' := [.val (.ref 1), .val (.int v1), .val (.int x134), .val (.int x136), .val (.int x137), .val (.int x138)]) (S' := []) (H' := (c0 :: bk0 o_roomsOfType o_roomsAtLeast o_firstRoomOfType o_slotActive o_slotType o_slotArrive o_slotNights o_exactCount o_atLeastCount o_planRoom o_planGrid o_planOrder o_totalRooms o_activeStays o_planOrderLength o_planCurrent o_planUnplaced po)) rfl ?_
      exact ok_placeStay_50 (k78 := f_placeStay_78 o_firstRoomOfType o_slotActive o_slotType o_slotArrive o_slotNights o_totalRooms) ok_placeStay_78 100000 h
theorem ok_assign_58 {o_roomsOfType : List Int32} {o_roomsAtLeast : List Int32} {o_firstRoomOfType : List Int32} {o_slotActive : List Int32} {o_slotType : List Int32} {o_slotArrive : List Int32} {o_slotNights : List Int32} {o_exactCount : List Int32} {o_atLeastCount : List Int32} {o_totalRooms : Int32} {o_activeStays : Int32} {c0 : ACell} {po : List ACell} : ∀ {o_planRoom : List Int32} {o_planGrid : List Int32} {o_planOrder : List Int32} {o_planOrderLength : Int32} {o_planCurrent : Int32} {o_planUnplaced : Int32} {v1 : Int32} {d2 d3 d4 : Slot} {res : Int32} {w_o_planRoom : List Int32} {w_o_planGrid : List Int32} {w_o_planOrder : List Int32} {w_o_planOrderLength : Int32} {w_o_planCurrent : Int32} {w_o_planUnplaced : Int32}, f_assign_58 o_firstRoomOfType o_slotActive o_slotType o_slotArrive o_slotNights o_totalRooms o_planRoom o_planGrid o_planOrder o_planOrderLength o_planCurrent o_planUnplaced v1 = some (res, w_o_planRoom, w_o_planGrid, w_o_planOrder, w_o_planOrderLength, w_o_planCurrent, w_o_planUnplaced) → OEnds own_P 7 58 [.val (.ref 1), .val (.int v1), d2, d3, d4] [] (c0 :: bk0 o_roomsOfType o_roomsAtLeast o_firstRoomOfType o_slotActive o_slotType o_slotArrive o_slotNights o_exactCount o_atLeastCount o_planRoom o_planGrid o_planOrder o_totalRooms o_activeStays o_planOrderLength o_planCurrent o_planUnplaced po) (some (.int res), (c0 :: bk0 o_roomsOfType o_roomsAtLeast o_firstRoomOfType o_slotActive o_slotType o_slotArrive o_slotNights o_exactCount o_atLeastCount w_o_planRoom w_o_planGrid w_o_planOrder o_totalRooms o_activeStays w_o_planOrderLength w_o_planCurrent w_o_planUnplaced po), 0, 0) := by
  intro o_planRoom o_planGrid o_planOrder o_planOrderLength o_planCurrent o_planUnplaced v1 d2 d3 d4 res w_o_planRoom w_o_planGrid w_o_planOrder w_o_planOrderLength w_o_planCurrent w_o_planUnplaced h
  unfold f_assign_58 at h
  refine OEnds.adv hm_7 7 (pc' := 69) (L' := [.val (.ref 1), .val (.int v1), .unset, .unset, .unset]) (S' := [.int v1]) (H' := (c0 :: bk0 o_roomsOfType o_roomsAtLeast o_firstRoomOfType o_slotActive o_slotType o_slotArrive o_slotNights o_exactCount o_atLeastCount o_planRoom o_planGrid o_planOrder o_totalRooms o_activeStays o_planOrderLength 1 v1 po)) rfl ?_
  cases h
  exact OEnds.iret hm_7 rfl rfl
theorem ok_assign_16 {o_roomsOfType : List Int32} {o_roomsAtLeast : List Int32} {o_firstRoomOfType : List Int32} {o_slotActive : List Int32} {o_slotType : List Int32} {o_slotArrive : List Int32} {o_slotNights : List Int32} {o_exactCount : List Int32} {o_atLeastCount : List Int32} {o_totalRooms : Int32} {o_activeStays : Int32} {c0 : ACell} {po : List ACell} {k58 : List Int32 → List Int32 → List Int32 → Int32 → Int32 → Int32 → Int32 → Option (Int32 × List Int32 × List Int32 × List Int32 × Int32 × Int32 × Int32)} (hk58 : ∀ {o_planRoom : List Int32} {o_planGrid : List Int32} {o_planOrder : List Int32} {o_planOrderLength : Int32} {o_planCurrent : Int32} {o_planUnplaced : Int32} {v1 : Int32} {d2 d3 d4 : Slot} {res : Int32} {w_o_planRoom : List Int32} {w_o_planGrid : List Int32} {w_o_planOrder : List Int32} {w_o_planOrderLength : Int32} {w_o_planCurrent : Int32} {w_o_planUnplaced : Int32}, k58 o_planRoom o_planGrid o_planOrder o_planOrderLength o_planCurrent o_planUnplaced v1 = some (res, w_o_planRoom, w_o_planGrid, w_o_planOrder, w_o_planOrderLength, w_o_planCurrent, w_o_planUnplaced) → OEnds own_P 7 58 [.val (.ref 1), .val (.int v1), d2, d3, d4] [] (c0 :: bk0 o_roomsOfType o_roomsAtLeast o_firstRoomOfType o_slotActive o_slotType o_slotArrive o_slotNights o_exactCount o_atLeastCount o_planRoom o_planGrid o_planOrder o_totalRooms o_activeStays o_planOrderLength o_planCurrent o_planUnplaced po) (some (.int res), (c0 :: bk0 o_roomsOfType o_roomsAtLeast o_firstRoomOfType o_slotActive o_slotType o_slotArrive o_slotNights o_exactCount o_atLeastCount w_o_planRoom w_o_planGrid w_o_planOrder o_totalRooms o_activeStays w_o_planOrderLength w_o_planCurrent w_o_planUnplaced po), 0, 0)) : ∀ (n : Nat), ∀ {o_planRoom : List Int32} {o_planGrid : List Int32} {o_planOrder : List Int32} {o_planOrderLength : Int32} {o_planCurrent : Int32} {o_planUnplaced : Int32} {v1 : Int32} {v2 : Int32} {d3 d4 : Slot} {res : Int32} {w_o_planRoom : List Int32} {w_o_planGrid : List Int32} {w_o_planOrder : List Int32} {w_o_planOrderLength : Int32} {w_o_planCurrent : Int32} {w_o_planUnplaced : Int32}, f_assign_16 k58 o_firstRoomOfType o_slotActive o_slotType o_slotArrive o_slotNights o_totalRooms n o_planRoom o_planGrid o_planOrder o_planOrderLength o_planCurrent o_planUnplaced v1 v2 = some (res, w_o_planRoom, w_o_planGrid, w_o_planOrder, w_o_planOrderLength, w_o_planCurrent, w_o_planUnplaced) → OEnds own_P 7 16 [.val (.ref 1), .val (.int v1), .val (.int v2), d3, d4] [] (c0 :: bk0 o_roomsOfType o_roomsAtLeast o_firstRoomOfType o_slotActive o_slotType o_slotArrive o_slotNights o_exactCount o_atLeastCount o_planRoom o_planGrid o_planOrder o_totalRooms o_activeStays o_planOrderLength o_planCurrent o_planUnplaced po) (some (.int res), (c0 :: bk0 o_roomsOfType o_roomsAtLeast o_firstRoomOfType o_slotActive o_slotType o_slotArrive o_slotNights o_exactCount o_atLeastCount w_o_planRoom w_o_planGrid w_o_planOrder o_totalRooms o_activeStays w_o_planOrderLength w_o_planCurrent w_o_planUnplaced po), 0, 0) := by
  intro n
  induction n with
  | zero => intro o_planRoom o_planGrid o_planOrder o_planOrderLength o_planCurrent o_planUnplaced v1 v2 d3 d4 res w_o_planRoom w_o_planGrid w_o_planOrder w_o_planOrderLength w_o_planCurrent w_o_planUnplaced h; cases h
  | succ n ih =>
    intro o_planRoom o_planGrid o_planOrder o_planOrderLength o_planCurrent o_planUnplaced v1 v2 d3 d4 res w_o_planRoom w_o_planGrid w_o_planOrder w_o_planOrderLength w_o_planCurrent w_o_planUnplaced h
    unfold f_assign_16 at h
    refine OEnds.adv hm_7 3 (pc' := 21) (L' := [.val (.ref 1), .val (.int v1), .val (.int v2), .unset, .unset]) (S' := [.int o_planOrderLength, .int v2]) (H' := (c0 :: bk0 o_roomsOfType o_roomsAtLeast o_firstRoomOfType o_slotActive o_slotType o_slotArrive o_slotNights o_exactCount o_atLeastCount o_planRoom o_planGrid o_planOrder o_totalRooms o_activeStays o_planOrderLength o_planCurrent o_planUnplaced po)) rfl ?_
    by_cases hc130 : v2 < o_planOrderLength
    · simp only [if_pos hc130] at h
      refine OEnds.icmpF hm_7 rfl ((tlt hc130).2.1) ?_
      refine OEnds.adv hm_7 2 (pc' := 27) (L' := [.val (.ref 1), .val (.int v1), .val (.int v2), .unset, .unset]) (S' := [.int 32, .int v2]) (H' := (c0 :: bk0 o_roomsOfType o_roomsAtLeast o_firstRoomOfType o_slotActive o_slotType o_slotArrive o_slotNights o_exactCount o_atLeastCount o_planRoom o_planGrid o_planOrder o_totalRooms o_activeStays o_planOrderLength o_planCurrent o_planUnplaced po)) rfl ?_
      by_cases hc131 : v2 < (32 : Int32)
      · simp only [if_pos hc131] at h
        refine OEnds.icmpF hm_7 rfl ((tlt hc131).2.1) ?_
        refine OEnds.adv hm_7 3 (pc' := 35) (L' := [.val (.ref 1), .val (.int v1), .val (.int v2), .unset, .unset]) (S' := [.int v2, .ref 13]) (H' := (c0 :: bk0 o_roomsOfType o_roomsAtLeast o_firstRoomOfType o_slotActive o_slotType o_slotArrive o_slotNights o_exactCount o_atLeastCount o_planRoom o_planGrid o_planOrder o_totalRooms o_activeStays o_planOrderLength o_planCurrent o_planUnplaced po)) rfl ?_
        obtain ⟨x149, hx149, h⟩ := bnd h
        refine OEnds.plain hm_7 rfl rfl (x_iaload rfl hx149) ?_
        refine OEnds.adv hm_7 3 (pc' := 39) (L' := [.val (.ref 1), .val (.int v1), .val (.int v2), .val (.int x149), .unset]) (S' := [.int x149, .ref 1]) (H' := (c0 :: bk0 o_roomsOfType o_roomsAtLeast o_firstRoomOfType o_slotActive o_slotType o_slotArrive o_slotNights o_exactCount o_atLeastCount o_planRoom o_planGrid o_planOrder o_totalRooms o_activeStays o_planOrderLength o_planCurrent o_planUnplaced po)) rfl ?_
        obtain ⟨⟨r150, s151, s152⟩, hq132, h⟩ := bnd h
        refine OEnds.call0 hm_7 rfl rfl (by decide) rfl (as := [.ref 1, .int x149]) (rest := []) rfl rfl (ok_placeStay hq132) ?_
        refine OEnds.adv hm_7 2 (pc' := 46) (L' := [.val (.ref 1), .val (.int v1), .val (.int v2), .val (.int x149), .val (.int r150)]) (S' := [.int r150]) (H' := (c0 :: bk0 o_roomsOfType o_roomsAtLeast o_firstRoomOfType o_slotActive o_slotType o_slotArrive o_slotNights o_exactCount o_atLeastCount s151 s152 o_planOrder o_totalRooms o_activeStays o_planOrderLength o_planCurrent o_planUnplaced po)) rfl ?_
        by_cases hc133 : r150 = (0 : Int32)
        · simp only [if_pos hc133] at h
          refine OEnds.ifF hm_7 rfl ((teq hc133).2) ?_
          refine OEnds.adv hm_7 3 (pc' := 16) (L' := [.val (.ref 1), .val (.int (v1 + (1 : Int32))), .val (.int (v2 + (1 : Int32))), .val (.int x149), .val (.int r150)]) (S' := []) (H' := (c0 :: bk0 o_roomsOfType o_roomsAtLeast o_firstRoomOfType o_slotActive o_slotType o_slotArrive o_slotNights o_exactCount o_atLeastCount s151 s152 o_planOrder o_totalRooms o_activeStays o_planOrderLength o_planCurrent o_planUnplaced po)) rfl ?_
          exact ih h
        · simp only [if_neg hc133] at h
          refine OEnds.ifT hm_7 rfl (q := 52) rfl ((feq hc133).2) ?_
          refine OEnds.adv hm_7 2 (pc' := 16) (L' := [.val (.ref 1), .val (.int v1), .val (.int (v2 + (1 : Int32))), .val (.int x149), .val (.int r150)]) (S' := []) (H' := (c0 :: bk0 o_roomsOfType o_roomsAtLeast o_firstRoomOfType o_slotActive o_slotType o_slotArrive o_slotNights o_exactCount o_atLeastCount s151 s152 o_planOrder o_totalRooms o_activeStays o_planOrderLength o_planCurrent o_planUnplaced po)) rfl ?_
          exact ih h
      · simp only [if_neg hc131] at h
        refine OEnds.icmpT hm_7 rfl (q := 58) rfl ((flt hc131).2.1) ?_
        show OEnds own_P 7 58 [.val (.ref 1), .val (.int v1), .val (.int v2), .unset, .unset] [] (c0 :: bk0 o_roomsOfType o_roomsAtLeast o_firstRoomOfType o_slotActive o_slotType o_slotArrive o_slotNights o_exactCount o_atLeastCount o_planRoom o_planGrid o_planOrder o_totalRooms o_activeStays o_planOrderLength o_planCurrent o_planUnplaced po) _
        exact hk58 h
    · simp only [if_neg hc130] at h
      refine OEnds.icmpT hm_7 rfl (q := 58) rfl ((flt hc130).2.1) ?_
      show OEnds own_P 7 58 [.val (.ref 1), .val (.int v1), .val (.int v2), .unset, .unset] [] (c0 :: bk0 o_roomsOfType o_roomsAtLeast o_firstRoomOfType o_slotActive o_slotType o_slotArrive o_slotNights o_exactCount o_atLeastCount o_planRoom o_planGrid o_planOrder o_totalRooms o_activeStays o_planOrderLength o_planCurrent o_planUnplaced po) _
      exact hk58 h
theorem ok_assign {o_roomsOfType : List Int32} {o_roomsAtLeast : List Int32} {o_firstRoomOfType : List Int32} {o_slotActive : List Int32} {o_slotType : List Int32} {o_slotArrive : List Int32} {o_slotNights : List Int32} {o_exactCount : List Int32} {o_atLeastCount : List Int32} {o_totalRooms : Int32} {o_activeStays : Int32} {c0 : ACell} {po : List ACell} {o_planRoom : List Int32} {o_planGrid : List Int32} {o_planOrder : List Int32} {o_planOrderLength : Int32} {o_planCurrent : Int32} {o_planUnplaced : Int32} {res : Int32} {w_o_planRoom : List Int32} {w_o_planGrid : List Int32} {w_o_planOrder : List Int32} {w_o_planOrderLength : Int32} {w_o_planCurrent : Int32} {w_o_planUnplaced : Int32} (h : f_assign o_firstRoomOfType o_slotActive o_slotType o_slotArrive o_slotNights o_totalRooms o_planRoom o_planGrid o_planOrder o_planOrderLength o_planCurrent o_planUnplaced = some (res, w_o_planRoom, w_o_planGrid, w_o_planOrder, w_o_planOrderLength, w_o_planCurrent, w_o_planUnplaced)) : OEnds own_P 7 0 [.val (.ref 1), .unset, .unset, .unset, .unset] [] (c0 :: bk0 o_roomsOfType o_roomsAtLeast o_firstRoomOfType o_slotActive o_slotType o_slotArrive o_slotNights o_exactCount o_atLeastCount o_planRoom o_planGrid o_planOrder o_totalRooms o_activeStays o_planOrderLength o_planCurrent o_planUnplaced po) (some (.int res), (c0 :: bk0 o_roomsOfType o_roomsAtLeast o_firstRoomOfType o_slotActive o_slotType o_slotArrive o_slotNights o_exactCount o_atLeastCount w_o_planRoom w_o_planGrid w_o_planOrder o_totalRooms o_activeStays w_o_planOrderLength w_o_planCurrent w_o_planUnplaced po), 0, 0) := by
  unfold f_assign at h
  refine OEnds.adv hm_7 1 (pc' := 1) (L' := [.val (.ref 1), .unset, .unset, .unset, .unset]) (S' := [.ref 1]) (H' := (c0 :: bk0 o_roomsOfType o_roomsAtLeast o_firstRoomOfType o_slotActive o_slotType o_slotArrive o_slotNights o_exactCount o_atLeastCount o_planRoom o_planGrid o_planOrder o_totalRooms o_activeStays o_planOrderLength o_planCurrent o_planUnplaced po)) rfl ?_
  obtain ⟨s142, hq134, h⟩ := bnd h
  refine OEnds.call0 hm_7 rfl rfl (by decide) rfl (as := [.ref 1]) (rest := []) rfl rfl (ok_discardPlan hq134) ?_
  refine OEnds.adv hm_7 1 (pc' := 5) (L' := [.val (.ref 1), .unset, .unset, .unset, .unset]) (S' := [.ref 1]) (H' := (c0 :: bk0 o_roomsOfType o_roomsAtLeast o_firstRoomOfType o_slotActive o_slotType o_slotArrive o_slotNights o_exactCount o_atLeastCount o_planRoom o_planGrid o_planOrder o_totalRooms o_activeStays o_planOrderLength s142 o_planUnplaced po)) rfl ?_
  obtain ⟨⟨s143, s144, s145, s146⟩, hq135, h⟩ := bnd h
  refine OEnds.call0 hm_7 rfl rfl (by decide) rfl (as := [.ref 1]) (rest := []) rfl rfl (ok_clearPlan hq135) ?_
  refine OEnds.adv hm_7 1 (pc' := 9) (L' := [.val (.ref 1), .unset, .unset, .unset, .unset]) (S' := [.ref 1]) (H' := (c0 :: bk0 o_roomsOfType o_roomsAtLeast o_firstRoomOfType o_slotActive o_slotType o_slotArrive o_slotNights o_exactCount o_atLeastCount s143 s144 s145 o_totalRooms o_activeStays s146 s142 o_planUnplaced po)) rfl ?_
  obtain ⟨⟨s147, s148⟩, hq136, h⟩ := bnd h
  refine OEnds.call0 hm_7 rfl rfl (by decide) rfl (as := [.ref 1]) (rest := []) rfl rfl (ok_buildOrder hq136) ?_
  refine OEnds.adv hm_7 4 (pc' := 16) (L' := [.val (.ref 1), .val (.int 0), .val (.int 0), .unset, .unset]) (S' := []) (H' := (c0 :: bk0 o_roomsOfType o_roomsAtLeast o_firstRoomOfType o_slotActive o_slotType o_slotArrive o_slotNights o_exactCount o_atLeastCount s143 s144 s147 o_totalRooms o_activeStays s148 s142 o_planUnplaced po)) rfl ?_
  exact ok_assign_16 (k58 := f_assign_58 o_firstRoomOfType o_slotActive o_slotType o_slotArrive o_slotNights o_totalRooms) ok_assign_58 100000 h
theorem ok_L_lowestFree_2 {c0 : ACell} {po : List ACell} : ∀ (n : Nat), ∀ {v0 : Int32} {v1 : Int32} {res : Int32}, f_L_lowestFree_2 n v0 v1 = some res → OEnds own_P 36 2 [.val (.int v0), .val (.int v1)] [] (c0 :: po) (some (.int res), (c0 :: po), 0, 0) := by
  intro n
  induction n with
  | zero => intro v0 v1 res h; cases h
  | succ n ih =>
    intro v0 v1 res h
    unfold f_L_lowestFree_2 at h
    refine OEnds.adv hm_36 2 (pc' := 5) (L' := [.val (.int v0), .val (.int v1)]) (S' := [.int 32, .int v1]) (H' := (c0 :: po)) rfl ?_
    by_cases hc137 : v1 < (32 : Int32)
    · simp only [if_pos hc137] at h
      refine OEnds.icmpF hm_36 rfl ((tlt hc137).2.1) ?_
      refine OEnds.adv hm_36 5 (pc' := 13) (L' := [.val (.int v0), .val (.int v1)]) (S' := [.int ((XT.ushr v0 v1) &&& (1 : Int32))]) (H' := (c0 :: po)) rfl ?_
      by_cases hc138 : ((XT.ushr v0 v1) &&& (1 : Int32)) = (0 : Int32)
      · simp only [if_pos hc138] at h
        refine OEnds.ifF hm_36 rfl ((teq hc138).2) ?_
        refine OEnds.adv hm_36 1 (pc' := 17) (L' := [.val (.int v0), .val (.int v1)]) (S' := [.int v1]) (H' := (c0 :: po)) rfl ?_
        cases h
        exact OEnds.iret hm_36 rfl rfl
      · simp only [if_neg hc138] at h
        refine OEnds.ifT hm_36 rfl (q := 18) rfl ((feq hc138).2) ?_
        refine OEnds.adv hm_36 2 (pc' := 2) (L' := [.val (.int v0), .val (.int (v1 + (1 : Int32)))]) (S' := []) (H' := (c0 :: po)) rfl ?_
        exact ih h
    · simp only [if_neg hc137] at h
      refine OEnds.icmpT hm_36 rfl (q := 24) rfl ((flt hc137).2.1) ?_
      refine OEnds.adv hm_36 1 (pc' := 25) (L' := [.val (.int v0), .val (.int v1)]) (S' := [.int (-1)]) (H' := (c0 :: po)) rfl ?_
      cases h
      exact OEnds.iret hm_36 rfl rfl
theorem ok_L_lowestFree {c0 : ACell} {po : List ACell} {v0 : Int32} {res : Int32} (h : f_L_lowestFree v0 = some res) : OEnds own_P 36 0 [.val (.int v0), .unset] [] (c0 :: po) (some (.int res), (c0 :: po), 0, 0) := by
  unfold f_L_lowestFree at h
  refine OEnds.adv hm_36 2 (pc' := 2) (L' := [.val (.int v0), .val (.int 0)]) (S' := []) (H' := (c0 :: po)) rfl ?_
  exact ok_L_lowestFree_2 100000 h
theorem ok_stayType {o_roomsOfType : List Int32} {o_roomsAtLeast : List Int32} {o_firstRoomOfType : List Int32} {o_slotActive : List Int32} {o_slotType : List Int32} {o_slotArrive : List Int32} {o_slotNights : List Int32} {o_exactCount : List Int32} {o_atLeastCount : List Int32} {o_planRoom : List Int32} {o_planGrid : List Int32} {o_planOrder : List Int32} {o_totalRooms : Int32} {o_activeStays : Int32} {o_planOrderLength : Int32} {o_planCurrent : Int32} {o_planUnplaced : Int32} {c0 : ACell} {po : List ACell} {v1 : Int32} {res : Int32} (h : f_stayType o_slotActive o_slotType v1 = some res) : OEnds own_P 10 0 [.val (.ref 1), .val (.int v1)] [] (c0 :: bk0 o_roomsOfType o_roomsAtLeast o_firstRoomOfType o_slotActive o_slotType o_slotArrive o_slotNights o_exactCount o_atLeastCount o_planRoom o_planGrid o_planOrder o_totalRooms o_activeStays o_planOrderLength o_planCurrent o_planUnplaced po) (some (.int res), (c0 :: bk0 o_roomsOfType o_roomsAtLeast o_firstRoomOfType o_slotActive o_slotType o_slotArrive o_slotNights o_exactCount o_atLeastCount o_planRoom o_planGrid o_planOrder o_totalRooms o_activeStays o_planOrderLength o_planCurrent o_planUnplaced po), 0, 0) := by
  unfold f_stayType at h
  refine OEnds.adv hm_10 2 (pc' := 2) (L' := [.val (.ref 1), .val (.int v1)]) (S' := [.int v1, .ref 1]) (H' := (c0 :: bk0 o_roomsOfType o_roomsAtLeast o_firstRoomOfType o_slotActive o_slotType o_slotArrive o_slotNights o_exactCount o_atLeastCount o_planRoom o_planGrid o_planOrder o_totalRooms o_activeStays o_planOrderLength o_planCurrent o_planUnplaced po)) rfl ?_
  obtain ⟨r153, hq139, h⟩ := bnd h
  refine OEnds.call0 hm_10 rfl rfl (by decide) rfl (as := [.ref 1, .int v1]) (rest := []) rfl rfl (ok_isActiveStay hq139) ?_
  show OEnds own_P 10 5 [.val (.ref 1), .val (.int v1)] [.int r153] (c0 :: bk0 o_roomsOfType o_roomsAtLeast o_firstRoomOfType o_slotActive o_slotType o_slotArrive o_slotNights o_exactCount o_atLeastCount o_planRoom o_planGrid o_planOrder o_totalRooms o_activeStays o_planOrderLength o_planCurrent o_planUnplaced po) _
  by_cases hc140 : r153 = (0 : Int32)
  · simp only [if_pos hc140] at h
    refine OEnds.ifF hm_10 rfl ((teq hc140).2) ?_
    refine OEnds.adv hm_10 1 (pc' := 9) (L' := [.val (.ref 1), .val (.int v1)]) (S' := [.int (-1)]) (H' := (c0 :: bk0 o_roomsOfType o_roomsAtLeast o_firstRoomOfType o_slotActive o_slotType o_slotArrive o_slotNights o_exactCount o_atLeastCount o_planRoom o_planGrid o_planOrder o_totalRooms o_activeStays o_planOrderLength o_planCurrent o_planUnplaced po)) rfl ?_
    cases h
    exact OEnds.iret hm_10 rfl rfl
  · simp only [if_neg hc140] at h
    refine OEnds.ifT hm_10 rfl (q := 10) rfl ((feq hc140).2) ?_
    refine OEnds.adv hm_10 3 (pc' := 15) (L' := [.val (.ref 1), .val (.int v1)]) (S' := [.int v1, .ref 6]) (H' := (c0 :: bk0 o_roomsOfType o_roomsAtLeast o_firstRoomOfType o_slotActive o_slotType o_slotArrive o_slotNights o_exactCount o_atLeastCount o_planRoom o_planGrid o_planOrder o_totalRooms o_activeStays o_planOrderLength o_planCurrent o_planUnplaced po)) rfl ?_
    obtain ⟨x154, hx154, h⟩ := bnd h
    refine OEnds.plain hm_10 rfl rfl (x_iaload rfl hx154) ?_
    show OEnds own_P 10 16 [.val (.ref 1), .val (.int v1)] [.int x154] (c0 :: bk0 o_roomsOfType o_roomsAtLeast o_firstRoomOfType o_slotActive o_slotType o_slotArrive o_slotNights o_exactCount o_atLeastCount o_planRoom o_planGrid o_planOrder o_totalRooms o_activeStays o_planOrderLength o_planCurrent o_planUnplaced po) _
    cases h
    exact OEnds.iret hm_10 rfl rfl
theorem ok_exactAt {o_roomsOfType : List Int32} {o_roomsAtLeast : List Int32} {o_firstRoomOfType : List Int32} {o_slotActive : List Int32} {o_slotType : List Int32} {o_slotArrive : List Int32} {o_slotNights : List Int32} {o_exactCount : List Int32} {o_atLeastCount : List Int32} {o_planRoom : List Int32} {o_planGrid : List Int32} {o_planOrder : List Int32} {o_totalRooms : Int32} {o_activeStays : Int32} {o_planOrderLength : Int32} {o_planCurrent : Int32} {o_planUnplaced : Int32} {c0 : ACell} {po : List ACell} {v1 : Int32} {v2 : Int32} {res : Int32} (h : f_exactAt o_exactCount v1 v2 = some res) : OEnds own_P 15 0 [.val (.ref 1), .val (.int v1), .val (.int v2)] [] (c0 :: bk0 o_roomsOfType o_roomsAtLeast o_firstRoomOfType o_slotActive o_slotType o_slotArrive o_slotNights o_exactCount o_atLeastCount o_planRoom o_planGrid o_planOrder o_totalRooms o_activeStays o_planOrderLength o_planCurrent o_planUnplaced po) (some (.int res), (c0 :: bk0 o_roomsOfType o_roomsAtLeast o_firstRoomOfType o_slotActive o_slotType o_slotArrive o_slotNights o_exactCount o_atLeastCount o_planRoom o_planGrid o_planOrder o_totalRooms o_activeStays o_planOrderLength o_planCurrent o_planUnplaced po), 0, 0) := by
  unfold f_exactAt at h
  refine OEnds.adv hm_15 2 (pc' := 2) (L' := [.val (.ref 1), .val (.int v1), .val (.int v2)]) (S' := [.int v1, .ref 1]) (H' := (c0 :: bk0 o_roomsOfType o_roomsAtLeast o_firstRoomOfType o_slotActive o_slotType o_slotArrive o_slotNights o_exactCount o_atLeastCount o_planRoom o_planGrid o_planOrder o_totalRooms o_activeStays o_planOrderLength o_planCurrent o_planUnplaced po)) rfl ?_
  obtain ⟨r155, hq141, h⟩ := bnd h
  refine OEnds.call0 hm_15 rfl rfl (by decide) rfl (as := [.ref 1, .int v1]) (rest := []) rfl rfl (ok_isValidType hq141) ?_
  show OEnds own_P 15 5 [.val (.ref 1), .val (.int v1), .val (.int v2)] [.int r155] (c0 :: bk0 o_roomsOfType o_roomsAtLeast o_firstRoomOfType o_slotActive o_slotType o_slotArrive o_slotNights o_exactCount o_atLeastCount o_planRoom o_planGrid o_planOrder o_totalRooms o_activeStays o_planOrderLength o_planCurrent o_planUnplaced po) _
  by_cases hc142 : r155 = (0 : Int32)
  · simp only [if_pos hc142] at h
    refine OEnds.ifT hm_15 rfl (q := 16) rfl ((teq hc142).1) ?_
    refine OEnds.adv hm_15 1 (pc' := 17) (L' := [.val (.ref 1), .val (.int v1), .val (.int v2)]) (S' := [.int 0]) (H' := (c0 :: bk0 o_roomsOfType o_roomsAtLeast o_firstRoomOfType o_slotActive o_slotType o_slotArrive o_slotNights o_exactCount o_atLeastCount o_planRoom o_planGrid o_planOrder o_totalRooms o_activeStays o_planOrderLength o_planCurrent o_planUnplaced po)) rfl ?_
    cases h
    exact OEnds.iret hm_15 rfl rfl
  · simp only [if_neg hc142] at h
    refine OEnds.ifF hm_15 rfl ((feq hc142).1) ?_
    refine OEnds.adv hm_15 2 (pc' := 10) (L' := [.val (.ref 1), .val (.int v1), .val (.int v2)]) (S' := [.int v2, .ref 1]) (H' := (c0 :: bk0 o_roomsOfType o_roomsAtLeast o_firstRoomOfType o_slotActive o_slotType o_slotArrive o_slotNights o_exactCount o_atLeastCount o_planRoom o_planGrid o_planOrder o_totalRooms o_activeStays o_planOrderLength o_planCurrent o_planUnplaced po)) rfl ?_
    obtain ⟨r156, hq143, h⟩ := bnd h
    refine OEnds.call0 hm_15 rfl rfl (by decide) rfl (as := [.ref 1, .int v2]) (rest := []) rfl rfl (ok_isValidNight hq143) ?_
    show OEnds own_P 15 13 [.val (.ref 1), .val (.int v1), .val (.int v2)] [.int r156] (c0 :: bk0 o_roomsOfType o_roomsAtLeast o_firstRoomOfType o_slotActive o_slotType o_slotArrive o_slotNights o_exactCount o_atLeastCount o_planRoom o_planGrid o_planOrder o_totalRooms o_activeStays o_planOrderLength o_planCurrent o_planUnplaced po) _
    by_cases hc144 : r156 = (0 : Int32)
    · simp only [if_pos hc144] at h
      refine OEnds.ifF hm_15 rfl ((teq hc144).2) ?_
      refine OEnds.adv hm_15 1 (pc' := 17) (L' := [.val (.ref 1), .val (.int v1), .val (.int v2)]) (S' := [.int 0]) (H' := (c0 :: bk0 o_roomsOfType o_roomsAtLeast o_firstRoomOfType o_slotActive o_slotType o_slotArrive o_slotNights o_exactCount o_atLeastCount o_planRoom o_planGrid o_planOrder o_totalRooms o_activeStays o_planOrderLength o_planCurrent o_planUnplaced po)) rfl ?_
      cases h
      exact OEnds.iret hm_15 rfl rfl
    · simp only [if_neg hc144] at h
      refine OEnds.ifT hm_15 rfl (q := 18) rfl ((feq hc144).2) ?_
      refine OEnds.adv hm_15 5 (pc' := 25) (L' := [.val (.ref 1), .val (.int v1), .val (.int v2)]) (S' := [.int v2, .int v1, .ref 1, .ref 9]) (H' := (c0 :: bk0 o_roomsOfType o_roomsAtLeast o_firstRoomOfType o_slotActive o_slotType o_slotArrive o_slotNights o_exactCount o_atLeastCount o_planRoom o_planGrid o_planOrder o_totalRooms o_activeStays o_planOrderLength o_planCurrent o_planUnplaced po)) rfl ?_
      obtain ⟨r157, hq145, h⟩ := bnd h
      refine OEnds.call0 hm_15 rfl rfl (by decide) rfl (as := [.ref 1, .int v1, .int v2]) (rest := [.ref 9]) rfl rfl (ok_countIndex hq145) ?_
      show OEnds own_P 15 28 [.val (.ref 1), .val (.int v1), .val (.int v2)] [.int r157, .ref 9] (c0 :: bk0 o_roomsOfType o_roomsAtLeast o_firstRoomOfType o_slotActive o_slotType o_slotArrive o_slotNights o_exactCount o_atLeastCount o_planRoom o_planGrid o_planOrder o_totalRooms o_activeStays o_planOrderLength o_planCurrent o_planUnplaced po) _
      obtain ⟨x158, hx158, h⟩ := bnd h
      refine OEnds.plain hm_15 rfl rfl (x_iaload rfl hx158) ?_
      show OEnds own_P 15 29 [.val (.ref 1), .val (.int v1), .val (.int v2)] [.int x158] (c0 :: bk0 o_roomsOfType o_roomsAtLeast o_firstRoomOfType o_slotActive o_slotType o_slotArrive o_slotNights o_exactCount o_atLeastCount o_planRoom o_planGrid o_planOrder o_totalRooms o_activeStays o_planOrderLength o_planCurrent o_planUnplaced po) _
      cases h
      exact OEnds.iret hm_15 rfl rfl
theorem ok_occupancy {o_roomsOfType : List Int32} {o_roomsAtLeast : List Int32} {o_firstRoomOfType : List Int32} {o_slotActive : List Int32} {o_slotType : List Int32} {o_slotArrive : List Int32} {o_slotNights : List Int32} {o_exactCount : List Int32} {o_atLeastCount : List Int32} {o_planRoom : List Int32} {o_planGrid : List Int32} {o_planOrder : List Int32} {o_totalRooms : Int32} {o_activeStays : Int32} {o_planOrderLength : Int32} {o_planCurrent : Int32} {o_planUnplaced : Int32} {c0 : ACell} {po : List ACell} {v1 : Int32} {v2 : Int32} {res : Int32} (h : f_occupancy o_exactCount v1 v2 = some res) : OEnds own_P 12 0 [.val (.ref 1), .val (.int v1), .val (.int v2)] [] (c0 :: bk0 o_roomsOfType o_roomsAtLeast o_firstRoomOfType o_slotActive o_slotType o_slotArrive o_slotNights o_exactCount o_atLeastCount o_planRoom o_planGrid o_planOrder o_totalRooms o_activeStays o_planOrderLength o_planCurrent o_planUnplaced po) (some (.int res), (c0 :: bk0 o_roomsOfType o_roomsAtLeast o_firstRoomOfType o_slotActive o_slotType o_slotArrive o_slotNights o_exactCount o_atLeastCount o_planRoom o_planGrid o_planOrder o_totalRooms o_activeStays o_planOrderLength o_planCurrent o_planUnplaced po), 0, 0) := by
  unfold f_occupancy at h
  refine OEnds.adv hm_12 2 (pc' := 2) (L' := [.val (.ref 1), .val (.int v1), .val (.int v2)]) (S' := [.int v1, .ref 1]) (H' := (c0 :: bk0 o_roomsOfType o_roomsAtLeast o_firstRoomOfType o_slotActive o_slotType o_slotArrive o_slotNights o_exactCount o_atLeastCount o_planRoom o_planGrid o_planOrder o_totalRooms o_activeStays o_planOrderLength o_planCurrent o_planUnplaced po)) rfl ?_
  obtain ⟨r159, hq146, h⟩ := bnd h
  refine OEnds.call0 hm_12 rfl rfl (by decide) rfl (as := [.ref 1, .int v1]) (rest := []) rfl rfl (ok_isValidType hq146) ?_
  show OEnds own_P 12 5 [.val (.ref 1), .val (.int v1), .val (.int v2)] [.int r159] (c0 :: bk0 o_roomsOfType o_roomsAtLeast o_firstRoomOfType o_slotActive o_slotType o_slotArrive o_slotNights o_exactCount o_atLeastCount o_planRoom o_planGrid o_planOrder o_totalRooms o_activeStays o_planOrderLength o_planCurrent o_planUnplaced po) _
  by_cases hc147 : r159 = (0 : Int32)
  · simp only [if_pos hc147] at h
    refine OEnds.ifF hm_12 rfl ((teq hc147).2) ?_
    refine OEnds.adv hm_12 1 (pc' := 9) (L' := [.val (.ref 1), .val (.int v1), .val (.int v2)]) (S' := [.int (-1)]) (H' := (c0 :: bk0 o_roomsOfType o_roomsAtLeast o_firstRoomOfType o_slotActive o_slotType o_slotArrive o_slotNights o_exactCount o_atLeastCount o_planRoom o_planGrid o_planOrder o_totalRooms o_activeStays o_planOrderLength o_planCurrent o_planUnplaced po)) rfl ?_
    cases h
    exact OEnds.iret hm_12 rfl rfl
  · simp only [if_neg hc147] at h
    refine OEnds.ifT hm_12 rfl (q := 10) rfl ((feq hc147).2) ?_
    refine OEnds.adv hm_12 2 (pc' := 12) (L' := [.val (.ref 1), .val (.int v1), .val (.int v2)]) (S' := [.int v2, .ref 1]) (H' := (c0 :: bk0 o_roomsOfType o_roomsAtLeast o_firstRoomOfType o_slotActive o_slotType o_slotArrive o_slotNights o_exactCount o_atLeastCount o_planRoom o_planGrid o_planOrder o_totalRooms o_activeStays o_planOrderLength o_planCurrent o_planUnplaced po)) rfl ?_
    obtain ⟨r160, hq148, h⟩ := bnd h
    refine OEnds.call0 hm_12 rfl rfl (by decide) rfl (as := [.ref 1, .int v2]) (rest := []) rfl rfl (ok_isValidNight hq148) ?_
    show OEnds own_P 12 15 [.val (.ref 1), .val (.int v1), .val (.int v2)] [.int r160] (c0 :: bk0 o_roomsOfType o_roomsAtLeast o_firstRoomOfType o_slotActive o_slotType o_slotArrive o_slotNights o_exactCount o_atLeastCount o_planRoom o_planGrid o_planOrder o_totalRooms o_activeStays o_planOrderLength o_planCurrent o_planUnplaced po) _
    by_cases hc149 : r160 = (0 : Int32)
    · simp only [if_pos hc149] at h
      refine OEnds.ifF hm_12 rfl ((teq hc149).2) ?_
      refine OEnds.adv hm_12 1 (pc' := 20) (L' := [.val (.ref 1), .val (.int v1), .val (.int v2)]) (S' := [.int (-2)]) (H' := (c0 :: bk0 o_roomsOfType o_roomsAtLeast o_firstRoomOfType o_slotActive o_slotType o_slotArrive o_slotNights o_exactCount o_atLeastCount o_planRoom o_planGrid o_planOrder o_totalRooms o_activeStays o_planOrderLength o_planCurrent o_planUnplaced po)) rfl ?_
      cases h
      exact OEnds.iret hm_12 rfl rfl
    · simp only [if_neg hc149] at h
      refine OEnds.ifT hm_12 rfl (q := 21) rfl ((feq hc149).2) ?_
      refine OEnds.adv hm_12 3 (pc' := 24) (L' := [.val (.ref 1), .val (.int v1), .val (.int v2)]) (S' := [.int v2, .int v1, .ref 1]) (H' := (c0 :: bk0 o_roomsOfType o_roomsAtLeast o_firstRoomOfType o_slotActive o_slotType o_slotArrive o_slotNights o_exactCount o_atLeastCount o_planRoom o_planGrid o_planOrder o_totalRooms o_activeStays o_planOrderLength o_planCurrent o_planUnplaced po)) rfl ?_
      obtain ⟨r161, hq150, h⟩ := bnd h
      refine OEnds.call0 hm_12 rfl rfl (by decide) rfl (as := [.ref 1, .int v1, .int v2]) (rest := []) rfl rfl (ok_exactAt hq150) ?_
      show OEnds own_P 12 27 [.val (.ref 1), .val (.int v1), .val (.int v2)] [.int r161] (c0 :: bk0 o_roomsOfType o_roomsAtLeast o_firstRoomOfType o_slotActive o_slotType o_slotArrive o_slotNights o_exactCount o_atLeastCount o_planRoom o_planGrid o_planOrder o_totalRooms o_activeStays o_planOrderLength o_planCurrent o_planUnplaced po) _
      cases h
      exact OEnds.iret hm_12 rfl rfl
theorem ok_roomsFrom {o_roomsOfType : List Int32} {o_roomsAtLeast : List Int32} {o_firstRoomOfType : List Int32} {o_slotActive : List Int32} {o_slotType : List Int32} {o_slotArrive : List Int32} {o_slotNights : List Int32} {o_exactCount : List Int32} {o_atLeastCount : List Int32} {o_planRoom : List Int32} {o_planGrid : List Int32} {o_planOrder : List Int32} {o_totalRooms : Int32} {o_activeStays : Int32} {o_planOrderLength : Int32} {o_planCurrent : Int32} {o_planUnplaced : Int32} {c0 : ACell} {po : List ACell} {v1 : Int32} {res : Int32} (h : f_roomsFrom o_roomsAtLeast v1 = some res) : OEnds own_P 20 0 [.val (.ref 1), .val (.int v1)] [] (c0 :: bk0 o_roomsOfType o_roomsAtLeast o_firstRoomOfType o_slotActive o_slotType o_slotArrive o_slotNights o_exactCount o_atLeastCount o_planRoom o_planGrid o_planOrder o_totalRooms o_activeStays o_planOrderLength o_planCurrent o_planUnplaced po) (some (.int res), (c0 :: bk0 o_roomsOfType o_roomsAtLeast o_firstRoomOfType o_slotActive o_slotType o_slotArrive o_slotNights o_exactCount o_atLeastCount o_planRoom o_planGrid o_planOrder o_totalRooms o_activeStays o_planOrderLength o_planCurrent o_planUnplaced po), 0, 0) := by
  unfold f_roomsFrom at h
  refine OEnds.adv hm_20 2 (pc' := 2) (L' := [.val (.ref 1), .val (.int v1)]) (S' := [.int v1, .ref 1]) (H' := (c0 :: bk0 o_roomsOfType o_roomsAtLeast o_firstRoomOfType o_slotActive o_slotType o_slotArrive o_slotNights o_exactCount o_atLeastCount o_planRoom o_planGrid o_planOrder o_totalRooms o_activeStays o_planOrderLength o_planCurrent o_planUnplaced po)) rfl ?_
  obtain ⟨r162, hq151, h⟩ := bnd h
  refine OEnds.call0 hm_20 rfl rfl (by decide) rfl (as := [.ref 1, .int v1]) (rest := []) rfl rfl (ok_isValidType hq151) ?_
  show OEnds own_P 20 5 [.val (.ref 1), .val (.int v1)] [.int r162] (c0 :: bk0 o_roomsOfType o_roomsAtLeast o_firstRoomOfType o_slotActive o_slotType o_slotArrive o_slotNights o_exactCount o_atLeastCount o_planRoom o_planGrid o_planOrder o_totalRooms o_activeStays o_planOrderLength o_planCurrent o_planUnplaced po) _
  by_cases hc152 : r162 = (0 : Int32)
  · simp only [if_pos hc152] at h
    refine OEnds.ifF hm_20 rfl ((teq hc152).2) ?_
    refine OEnds.adv hm_20 1 (pc' := 9) (L' := [.val (.ref 1), .val (.int v1)]) (S' := [.int 0]) (H' := (c0 :: bk0 o_roomsOfType o_roomsAtLeast o_firstRoomOfType o_slotActive o_slotType o_slotArrive o_slotNights o_exactCount o_atLeastCount o_planRoom o_planGrid o_planOrder o_totalRooms o_activeStays o_planOrderLength o_planCurrent o_planUnplaced po)) rfl ?_
    cases h
    exact OEnds.iret hm_20 rfl rfl
  · simp only [if_neg hc152] at h
    refine OEnds.ifT hm_20 rfl (q := 10) rfl ((feq hc152).2) ?_
    refine OEnds.adv hm_20 3 (pc' := 15) (L' := [.val (.ref 1), .val (.int v1)]) (S' := [.int v1, .ref 3]) (H' := (c0 :: bk0 o_roomsOfType o_roomsAtLeast o_firstRoomOfType o_slotActive o_slotType o_slotArrive o_slotNights o_exactCount o_atLeastCount o_planRoom o_planGrid o_planOrder o_totalRooms o_activeStays o_planOrderLength o_planCurrent o_planUnplaced po)) rfl ?_
    obtain ⟨x163, hx163, h⟩ := bnd h
    refine OEnds.plain hm_20 rfl rfl (x_iaload rfl hx163) ?_
    show OEnds own_P 20 16 [.val (.ref 1), .val (.int v1)] [.int x163] (c0 :: bk0 o_roomsOfType o_roomsAtLeast o_firstRoomOfType o_slotActive o_slotType o_slotArrive o_slotNights o_exactCount o_atLeastCount o_planRoom o_planGrid o_planOrder o_totalRooms o_activeStays o_planOrderLength o_planCurrent o_planUnplaced po) _
    cases h
    exact OEnds.iret hm_20 rfl rfl
theorem ok_slackOf {o_roomsOfType : List Int32} {o_roomsAtLeast : List Int32} {o_firstRoomOfType : List Int32} {o_slotActive : List Int32} {o_slotType : List Int32} {o_slotArrive : List Int32} {o_slotNights : List Int32} {o_exactCount : List Int32} {o_atLeastCount : List Int32} {o_planRoom : List Int32} {o_planGrid : List Int32} {o_planOrder : List Int32} {o_totalRooms : Int32} {o_activeStays : Int32} {o_planOrderLength : Int32} {o_planCurrent : Int32} {o_planUnplaced : Int32} {c0 : ACell} {po : List ACell} {v1 : Int32} {v2 : Int32} {res : Int32} (h : f_slackOf o_roomsAtLeast o_atLeastCount v1 v2 = some res) : OEnds own_P 19 0 [.val (.ref 1), .val (.int v1), .val (.int v2), .unset, .unset] [] (c0 :: bk0 o_roomsOfType o_roomsAtLeast o_firstRoomOfType o_slotActive o_slotType o_slotArrive o_slotNights o_exactCount o_atLeastCount o_planRoom o_planGrid o_planOrder o_totalRooms o_activeStays o_planOrderLength o_planCurrent o_planUnplaced po) (some (.int res), (c0 :: bk0 o_roomsOfType o_roomsAtLeast o_firstRoomOfType o_slotActive o_slotType o_slotArrive o_slotNights o_exactCount o_atLeastCount o_planRoom o_planGrid o_planOrder o_totalRooms o_activeStays o_planOrderLength o_planCurrent o_planUnplaced po), 0, 0) := by
  unfold f_slackOf at h
  refine OEnds.adv hm_19 2 (pc' := 2) (L' := [.val (.ref 1), .val (.int v1), .val (.int v2), .unset, .unset]) (S' := [.int v1, .ref 1]) (H' := (c0 :: bk0 o_roomsOfType o_roomsAtLeast o_firstRoomOfType o_slotActive o_slotType o_slotArrive o_slotNights o_exactCount o_atLeastCount o_planRoom o_planGrid o_planOrder o_totalRooms o_activeStays o_planOrderLength o_planCurrent o_planUnplaced po)) rfl ?_
  obtain ⟨r164, hq153, h⟩ := bnd h
  refine OEnds.call0 hm_19 rfl rfl (by decide) rfl (as := [.ref 1, .int v1]) (rest := []) rfl rfl (ok_roomsFrom hq153) ?_
  refine OEnds.adv hm_19 4 (pc' := 9) (L' := [.val (.ref 1), .val (.int v1), .val (.int v2), .val (.int r164), .unset]) (S' := [.int v2, .int v1, .ref 1]) (H' := (c0 :: bk0 o_roomsOfType o_roomsAtLeast o_firstRoomOfType o_slotActive o_slotType o_slotArrive o_slotNights o_exactCount o_atLeastCount o_planRoom o_planGrid o_planOrder o_totalRooms o_activeStays o_planOrderLength o_planCurrent o_planUnplaced po)) rfl ?_
  obtain ⟨r165, hq154, h⟩ := bnd h
  refine OEnds.call0 hm_19 rfl rfl (by decide) rfl (as := [.ref 1, .int v1, .int v2]) (rest := []) rfl rfl (ok_atLeastAt hq154) ?_
  refine OEnds.adv hm_19 4 (pc' := 18) (L' := [.val (.ref 1), .val (.int v1), .val (.int v2), .val (.int r164), .val (.int r165)]) (S' := [.int (r164 - r165)]) (H' := (c0 :: bk0 o_roomsOfType o_roomsAtLeast o_firstRoomOfType o_slotActive o_slotType o_slotArrive o_slotNights o_exactCount o_atLeastCount o_planRoom o_planGrid o_planOrder o_totalRooms o_activeStays o_planOrderLength o_planCurrent o_planUnplaced po)) rfl ?_
  cases h
  exact OEnds.iret hm_19 rfl rfl
theorem ok_minSlack_46 {o_roomsOfType : List Int32} {o_roomsAtLeast : List Int32} {o_firstRoomOfType : List Int32} {o_slotActive : List Int32} {o_slotType : List Int32} {o_slotArrive : List Int32} {o_slotNights : List Int32} {o_exactCount : List Int32} {o_atLeastCount : List Int32} {o_planRoom : List Int32} {o_planGrid : List Int32} {o_planOrder : List Int32} {o_totalRooms : Int32} {o_activeStays : Int32} {o_planOrderLength : Int32} {o_planCurrent : Int32} {o_planUnplaced : Int32} {c0 : ACell} {po : List ACell} : ∀ {v3 : Int32} {d0 d1 d2 d4 d5 : Slot} {res : Int32}, f_minSlack_46 o_roomsAtLeast o_atLeastCount v3 = some res → OEnds own_P 18 46 [d0, d1, d2, .val (.int v3), d4, d5] [] (c0 :: bk0 o_roomsOfType o_roomsAtLeast o_firstRoomOfType o_slotActive o_slotType o_slotArrive o_slotNights o_exactCount o_atLeastCount o_planRoom o_planGrid o_planOrder o_totalRooms o_activeStays o_planOrderLength o_planCurrent o_planUnplaced po) (some (.int res), (c0 :: bk0 o_roomsOfType o_roomsAtLeast o_firstRoomOfType o_slotActive o_slotType o_slotArrive o_slotNights o_exactCount o_atLeastCount o_planRoom o_planGrid o_planOrder o_totalRooms o_activeStays o_planOrderLength o_planCurrent o_planUnplaced po), 0, 0) := by
  intro v3 d0 d1 d2 d4 d5 res h
  unfold f_minSlack_46 at h
  refine OEnds.adv hm_18 1 (pc' := 47) (L' := [.unset, .unset, .unset, .val (.int v3), .unset, .unset]) (S' := [.int v3]) (H' := (c0 :: bk0 o_roomsOfType o_roomsAtLeast o_firstRoomOfType o_slotActive o_slotType o_slotArrive o_slotNights o_exactCount o_atLeastCount o_planRoom o_planGrid o_planOrder o_totalRooms o_activeStays o_planOrderLength o_planCurrent o_planUnplaced po)) rfl ?_
  by_cases hc155 : v3 < (0 : Int32)
  · simp only [if_pos hc155] at h
    refine OEnds.ifF hm_18 rfl ((tlt hc155).2.1) ?_
    refine OEnds.adv hm_18 1 (pc' := 51) (L' := [.unset, .unset, .unset, .val (.int v3), .unset, .unset]) (S' := [.int 0]) (H' := (c0 :: bk0 o_roomsOfType o_roomsAtLeast o_firstRoomOfType o_slotActive o_slotType o_slotArrive o_slotNights o_exactCount o_atLeastCount o_planRoom o_planGrid o_planOrder o_totalRooms o_activeStays o_planOrderLength o_planCurrent o_planUnplaced po)) rfl ?_
    cases h
    exact OEnds.iret hm_18 rfl rfl
  · simp only [if_neg hc155] at h
    refine OEnds.ifT hm_18 rfl (q := 52) rfl ((flt hc155).2.1) ?_
    refine OEnds.adv hm_18 1 (pc' := 53) (L' := [.unset, .unset, .unset, .val (.int v3), .unset, .unset]) (S' := [.int v3]) (H' := (c0 :: bk0 o_roomsOfType o_roomsAtLeast o_firstRoomOfType o_slotActive o_slotType o_slotArrive o_slotNights o_exactCount o_atLeastCount o_planRoom o_planGrid o_planOrder o_totalRooms o_activeStays o_planOrderLength o_planCurrent o_planUnplaced po)) rfl ?_
    cases h
    exact OEnds.iret hm_18 rfl rfl
theorem ok_minSlack_10 {o_roomsOfType : List Int32} {o_roomsAtLeast : List Int32} {o_firstRoomOfType : List Int32} {o_slotActive : List Int32} {o_slotType : List Int32} {o_slotArrive : List Int32} {o_slotNights : List Int32} {o_exactCount : List Int32} {o_atLeastCount : List Int32} {o_planRoom : List Int32} {o_planGrid : List Int32} {o_planOrder : List Int32} {o_totalRooms : Int32} {o_activeStays : Int32} {o_planOrderLength : Int32} {o_planCurrent : Int32} {o_planUnplaced : Int32} {c0 : ACell} {po : List ACell} {k46 : Int32 → Option (Int32)} (hk46 : ∀ {v3 : Int32} {d0 d1 d2 d4 d5 : Slot} {res : Int32}, k46 v3 = some res → OEnds own_P 18 46 [d0, d1, d2, .val (.int v3), d4, d5] [] (c0 :: bk0 o_roomsOfType o_roomsAtLeast o_firstRoomOfType o_slotActive o_slotType o_slotArrive o_slotNights o_exactCount o_atLeastCount o_planRoom o_planGrid o_planOrder o_totalRooms o_activeStays o_planOrderLength o_planCurrent o_planUnplaced po) (some (.int res), (c0 :: bk0 o_roomsOfType o_roomsAtLeast o_firstRoomOfType o_slotActive o_slotType o_slotArrive o_slotNights o_exactCount o_atLeastCount o_planRoom o_planGrid o_planOrder o_totalRooms o_activeStays o_planOrderLength o_planCurrent o_planUnplaced po), 0, 0)) : ∀ (n : Nat), ∀ {v1 : Int32} {v2 : Int32} {v3 : Int32} {v4 : Int32} {d5 : Slot} {res : Int32}, f_minSlack_10 k46 o_roomsAtLeast o_atLeastCount n v1 v2 v3 v4 = some res → OEnds own_P 18 10 [.val (.ref 1), .val (.int v1), .val (.int v2), .val (.int v3), .val (.int v4), d5] [] (c0 :: bk0 o_roomsOfType o_roomsAtLeast o_firstRoomOfType o_slotActive o_slotType o_slotArrive o_slotNights o_exactCount o_atLeastCount o_planRoom o_planGrid o_planOrder o_totalRooms o_activeStays o_planOrderLength o_planCurrent o_planUnplaced po) (some (.int res), (c0 :: bk0 o_roomsOfType o_roomsAtLeast o_firstRoomOfType o_slotActive o_slotType o_slotArrive o_slotNights o_exactCount o_atLeastCount o_planRoom o_planGrid o_planOrder o_totalRooms o_activeStays o_planOrderLength o_planCurrent o_planUnplaced po), 0, 0) := by
  intro n
  induction n with
  | zero => intro v1 v2 v3 v4 d5 res h; cases h
  | succ n ih =>
    intro v1 v2 v3 v4 d5 res h
    unfold f_minSlack_10 at h
    refine OEnds.adv hm_18 2 (pc' := 13) (L' := [.val (.ref 1), .val (.int v1), .val (.int v2), .val (.int v3), .val (.int v4), .unset]) (S' := [.int v1, .int v4]) (H' := (c0 :: bk0 o_roomsOfType o_roomsAtLeast o_firstRoomOfType o_slotActive o_slotType o_slotArrive o_slotNights o_exactCount o_atLeastCount o_planRoom o_planGrid o_planOrder o_totalRooms o_activeStays o_planOrderLength o_planCurrent o_planUnplaced po)) rfl ?_
    by_cases hc156 : v1 < v4
    · simp only [if_pos hc156] at h
      refine OEnds.icmpT hm_18 rfl (q := 46) rfl ((tlt hc156).2.2.1) ?_
      show OEnds own_P 18 46 [.val (.ref 1), .val (.int v1), .val (.int v2), .val (.int v3), .val (.int v4), .unset] [] (c0 :: bk0 o_roomsOfType o_roomsAtLeast o_firstRoomOfType o_slotActive o_slotType o_slotArrive o_slotNights o_exactCount o_atLeastCount o_planRoom o_planGrid o_planOrder o_totalRooms o_activeStays o_planOrderLength o_planCurrent o_planUnplaced po) _
      exact hk46 h
    · simp only [if_neg hc156] at h
      refine OEnds.icmpF hm_18 rfl ((flt hc156).2.2.1) ?_
      refine OEnds.adv hm_18 2 (pc' := 19) (L' := [.val (.ref 1), .val (.int v1), .val (.int v2), .val (.int v3), .val (.int v4), .unset]) (S' := [.int 3, .int v4]) (H' := (c0 :: bk0 o_roomsOfType o_roomsAtLeast o_firstRoomOfType o_slotActive o_slotType o_slotArrive o_slotNights o_exactCount o_atLeastCount o_planRoom o_planGrid o_planOrder o_totalRooms o_activeStays o_planOrderLength o_planCurrent o_planUnplaced po)) rfl ?_
      by_cases hc157 : v4 < (3 : Int32)
      · simp only [if_pos hc157] at h
        refine OEnds.icmpF hm_18 rfl ((tlt hc157).2.1) ?_
        refine OEnds.adv hm_18 3 (pc' := 26) (L' := [.val (.ref 1), .val (.int v1), .val (.int v2), .val (.int v3), .val (.int v4), .unset]) (S' := [.int v2, .int v4, .ref 1]) (H' := (c0 :: bk0 o_roomsOfType o_roomsAtLeast o_firstRoomOfType o_slotActive o_slotType o_slotArrive o_slotNights o_exactCount o_atLeastCount o_planRoom o_planGrid o_planOrder o_totalRooms o_activeStays o_planOrderLength o_planCurrent o_planUnplaced po)) rfl ?_
        obtain ⟨r167, hq158, h⟩ := bnd h
        refine OEnds.call0 hm_18 rfl rfl (by decide) rfl (as := [.ref 1, .int v4, .int v2]) (rest := []) rfl rfl (ok_slackOf hq158) ?_
        refine OEnds.adv hm_18 3 (pc' := 34) (L' := [.val (.ref 1), .val (.int v1), .val (.int v2), .val (.int v3), .val (.int v4), .val (.int r167)]) (S' := [.int v3, .int r167]) (H' := (c0 :: bk0 o_roomsOfType o_roomsAtLeast o_firstRoomOfType o_slotActive o_slotType o_slotArrive o_slotNights o_exactCount o_atLeastCount o_planRoom o_planGrid o_planOrder o_totalRooms o_activeStays o_planOrderLength o_planCurrent o_planUnplaced po)) rfl ?_
        by_cases hc159 : r167 < v3
        · simp only [if_pos hc159] at h
          refine OEnds.icmpF hm_18 rfl ((tlt hc159).2.1) ?_
          refine OEnds.adv hm_18 4 (pc' := 10) (L' := [.val (.ref 1), .val (.int v1), .val (.int v2), .val (.int r167), .val (.int (v4 + (1 : Int32))), .val (.int r167)]) (S' := []) (H' := (c0 :: bk0 o_roomsOfType o_roomsAtLeast o_firstRoomOfType o_slotActive o_slotType o_slotArrive o_slotNights o_exactCount o_atLeastCount o_planRoom o_planGrid o_planOrder o_totalRooms o_activeStays o_planOrderLength o_planCurrent o_planUnplaced po)) rfl ?_
          exact ih h
        · simp only [if_neg hc159] at h
          refine OEnds.icmpT hm_18 rfl (q := 40) rfl ((flt hc159).2.1) ?_
          refine OEnds.adv hm_18 2 (pc' := 10) (L' := [.val (.ref 1), .val (.int v1), .val (.int v2), .val (.int v3), .val (.int (v4 + (1 : Int32))), .val (.int r167)]) (S' := []) (H' := (c0 :: bk0 o_roomsOfType o_roomsAtLeast o_firstRoomOfType o_slotActive o_slotType o_slotArrive o_slotNights o_exactCount o_atLeastCount o_planRoom o_planGrid o_planOrder o_totalRooms o_activeStays o_planOrderLength o_planCurrent o_planUnplaced po)) rfl ?_
          exact ih h
      · simp only [if_neg hc157] at h
        refine OEnds.icmpT hm_18 rfl (q := 46) rfl ((flt hc157).2.1) ?_
        show OEnds own_P 18 46 [.val (.ref 1), .val (.int v1), .val (.int v2), .val (.int v3), .val (.int v4), .unset] [] (c0 :: bk0 o_roomsOfType o_roomsAtLeast o_firstRoomOfType o_slotActive o_slotType o_slotArrive o_slotNights o_exactCount o_atLeastCount o_planRoom o_planGrid o_planOrder o_totalRooms o_activeStays o_planOrderLength o_planCurrent o_planUnplaced po) _
        exact hk46 h
theorem ok_minSlack {o_roomsOfType : List Int32} {o_roomsAtLeast : List Int32} {o_firstRoomOfType : List Int32} {o_slotActive : List Int32} {o_slotType : List Int32} {o_slotArrive : List Int32} {o_slotNights : List Int32} {o_exactCount : List Int32} {o_atLeastCount : List Int32} {o_planRoom : List Int32} {o_planGrid : List Int32} {o_planOrder : List Int32} {o_totalRooms : Int32} {o_activeStays : Int32} {o_planOrderLength : Int32} {o_planCurrent : Int32} {o_planUnplaced : Int32} {c0 : ACell} {po : List ACell} {v1 : Int32} {v2 : Int32} {res : Int32} (h : f_minSlack o_roomsAtLeast o_atLeastCount v1 v2 = some res) : OEnds own_P 18 0 [.val (.ref 1), .val (.int v1), .val (.int v2), .unset, .unset, .unset] [] (c0 :: bk0 o_roomsOfType o_roomsAtLeast o_firstRoomOfType o_slotActive o_slotType o_slotArrive o_slotNights o_exactCount o_atLeastCount o_planRoom o_planGrid o_planOrder o_totalRooms o_activeStays o_planOrderLength o_planCurrent o_planUnplaced po) (some (.int res), (c0 :: bk0 o_roomsOfType o_roomsAtLeast o_firstRoomOfType o_slotActive o_slotType o_slotArrive o_slotNights o_exactCount o_atLeastCount o_planRoom o_planGrid o_planOrder o_totalRooms o_activeStays o_planOrderLength o_planCurrent o_planUnplaced po), 0, 0) := by
  unfold f_minSlack at h
  refine OEnds.adv hm_18 3 (pc' := 3) (L' := [.val (.ref 1), .val (.int v1), .val (.int v2), .unset, .unset, .unset]) (S' := [.int v2, .int 0, .ref 1]) (H' := (c0 :: bk0 o_roomsOfType o_roomsAtLeast o_firstRoomOfType o_slotActive o_slotType o_slotArrive o_slotNights o_exactCount o_atLeastCount o_planRoom o_planGrid o_planOrder o_totalRooms o_activeStays o_planOrderLength o_planCurrent o_planUnplaced po)) rfl ?_
  obtain ⟨r166, hq160, h⟩ := bnd h
  refine OEnds.call0 hm_18 rfl rfl (by decide) rfl (as := [.ref 1, .int 0, .int v2]) (rest := []) rfl rfl (ok_slackOf hq160) ?_
  refine OEnds.adv hm_18 3 (pc' := 10) (L' := [.val (.ref 1), .val (.int v1), .val (.int v2), .val (.int r166), .val (.int 1), .unset]) (S' := []) (H' := (c0 :: bk0 o_roomsOfType o_roomsAtLeast o_firstRoomOfType o_slotActive o_slotType o_slotArrive o_slotNights o_exactCount o_atLeastCount o_planRoom o_planGrid o_planOrder o_totalRooms o_activeStays o_planOrderLength o_planCurrent o_planUnplaced po)) rfl ?_
  exact ok_minSlack_10 (k46 := f_minSlack_46 o_roomsAtLeast o_atLeastCount) ok_minSlack_46 100000 h
theorem ok_available {o_roomsOfType : List Int32} {o_roomsAtLeast : List Int32} {o_firstRoomOfType : List Int32} {o_slotActive : List Int32} {o_slotType : List Int32} {o_slotArrive : List Int32} {o_slotNights : List Int32} {o_exactCount : List Int32} {o_atLeastCount : List Int32} {o_planRoom : List Int32} {o_planGrid : List Int32} {o_planOrder : List Int32} {o_totalRooms : Int32} {o_activeStays : Int32} {o_planOrderLength : Int32} {o_planCurrent : Int32} {o_planUnplaced : Int32} {c0 : ACell} {po : List ACell} {v1 : Int32} {v2 : Int32} {res : Int32} (h : f_available o_roomsAtLeast o_atLeastCount v1 v2 = some res) : OEnds own_P 17 0 [.val (.ref 1), .val (.int v1), .val (.int v2)] [] (c0 :: bk0 o_roomsOfType o_roomsAtLeast o_firstRoomOfType o_slotActive o_slotType o_slotArrive o_slotNights o_exactCount o_atLeastCount o_planRoom o_planGrid o_planOrder o_totalRooms o_activeStays o_planOrderLength o_planCurrent o_planUnplaced po) (some (.int res), (c0 :: bk0 o_roomsOfType o_roomsAtLeast o_firstRoomOfType o_slotActive o_slotType o_slotArrive o_slotNights o_exactCount o_atLeastCount o_planRoom o_planGrid o_planOrder o_totalRooms o_activeStays o_planOrderLength o_planCurrent o_planUnplaced po), 0, 0) := by
  unfold f_available at h
  refine OEnds.adv hm_17 2 (pc' := 2) (L' := [.val (.ref 1), .val (.int v1), .val (.int v2)]) (S' := [.int v1, .ref 1]) (H' := (c0 :: bk0 o_roomsOfType o_roomsAtLeast o_firstRoomOfType o_slotActive o_slotType o_slotArrive o_slotNights o_exactCount o_atLeastCount o_planRoom o_planGrid o_planOrder o_totalRooms o_activeStays o_planOrderLength o_planCurrent o_planUnplaced po)) rfl ?_
  obtain ⟨r168, hq161, h⟩ := bnd h
  refine OEnds.call0 hm_17 rfl rfl (by decide) rfl (as := [.ref 1, .int v1]) (rest := []) rfl rfl (ok_isValidType hq161) ?_
  show OEnds own_P 17 5 [.val (.ref 1), .val (.int v1), .val (.int v2)] [.int r168] (c0 :: bk0 o_roomsOfType o_roomsAtLeast o_firstRoomOfType o_slotActive o_slotType o_slotArrive o_slotNights o_exactCount o_atLeastCount o_planRoom o_planGrid o_planOrder o_totalRooms o_activeStays o_planOrderLength o_planCurrent o_planUnplaced po) _
  by_cases hc162 : r168 = (0 : Int32)
  · simp only [if_pos hc162] at h
    refine OEnds.ifF hm_17 rfl ((teq hc162).2) ?_
    refine OEnds.adv hm_17 1 (pc' := 9) (L' := [.val (.ref 1), .val (.int v1), .val (.int v2)]) (S' := [.int (-1)]) (H' := (c0 :: bk0 o_roomsOfType o_roomsAtLeast o_firstRoomOfType o_slotActive o_slotType o_slotArrive o_slotNights o_exactCount o_atLeastCount o_planRoom o_planGrid o_planOrder o_totalRooms o_activeStays o_planOrderLength o_planCurrent o_planUnplaced po)) rfl ?_
    cases h
    exact OEnds.iret hm_17 rfl rfl
  · simp only [if_neg hc162] at h
    refine OEnds.ifT hm_17 rfl (q := 10) rfl ((feq hc162).2) ?_
    refine OEnds.adv hm_17 2 (pc' := 12) (L' := [.val (.ref 1), .val (.int v1), .val (.int v2)]) (S' := [.int v2, .ref 1]) (H' := (c0 :: bk0 o_roomsOfType o_roomsAtLeast o_firstRoomOfType o_slotActive o_slotType o_slotArrive o_slotNights o_exactCount o_atLeastCount o_planRoom o_planGrid o_planOrder o_totalRooms o_activeStays o_planOrderLength o_planCurrent o_planUnplaced po)) rfl ?_
    obtain ⟨r169, hq163, h⟩ := bnd h
    refine OEnds.call0 hm_17 rfl rfl (by decide) rfl (as := [.ref 1, .int v2]) (rest := []) rfl rfl (ok_isValidNight hq163) ?_
    show OEnds own_P 17 15 [.val (.ref 1), .val (.int v1), .val (.int v2)] [.int r169] (c0 :: bk0 o_roomsOfType o_roomsAtLeast o_firstRoomOfType o_slotActive o_slotType o_slotArrive o_slotNights o_exactCount o_atLeastCount o_planRoom o_planGrid o_planOrder o_totalRooms o_activeStays o_planOrderLength o_planCurrent o_planUnplaced po) _
    by_cases hc164 : r169 = (0 : Int32)
    · simp only [if_pos hc164] at h
      refine OEnds.ifF hm_17 rfl ((teq hc164).2) ?_
      refine OEnds.adv hm_17 1 (pc' := 20) (L' := [.val (.ref 1), .val (.int v1), .val (.int v2)]) (S' := [.int (-2)]) (H' := (c0 :: bk0 o_roomsOfType o_roomsAtLeast o_firstRoomOfType o_slotActive o_slotType o_slotArrive o_slotNights o_exactCount o_atLeastCount o_planRoom o_planGrid o_planOrder o_totalRooms o_activeStays o_planOrderLength o_planCurrent o_planUnplaced po)) rfl ?_
      cases h
      exact OEnds.iret hm_17 rfl rfl
    · simp only [if_neg hc164] at h
      refine OEnds.ifT hm_17 rfl (q := 21) rfl ((feq hc164).2) ?_
      refine OEnds.adv hm_17 3 (pc' := 24) (L' := [.val (.ref 1), .val (.int v1), .val (.int v2)]) (S' := [.int v2, .int v1, .ref 1]) (H' := (c0 :: bk0 o_roomsOfType o_roomsAtLeast o_firstRoomOfType o_slotActive o_slotType o_slotArrive o_slotNights o_exactCount o_atLeastCount o_planRoom o_planGrid o_planOrder o_totalRooms o_activeStays o_planOrderLength o_planCurrent o_planUnplaced po)) rfl ?_
      obtain ⟨r170, hq165, h⟩ := bnd h
      refine OEnds.call0 hm_17 rfl rfl (by decide) rfl (as := [.ref 1, .int v1, .int v2]) (rest := []) rfl rfl (ok_minSlack hq165) ?_
      show OEnds own_P 17 27 [.val (.ref 1), .val (.int v1), .val (.int v2)] [.int r170] (c0 :: bk0 o_roomsOfType o_roomsAtLeast o_firstRoomOfType o_slotActive o_slotType o_slotArrive o_slotNights o_exactCount o_atLeastCount o_planRoom o_planGrid o_planOrder o_totalRooms o_activeStays o_planOrderLength o_planCurrent o_planUnplaced po) _
      cases h
      exact OEnds.iret hm_17 rfl rfl
theorem ok_activeCount {o_roomsOfType : List Int32} {o_roomsAtLeast : List Int32} {o_firstRoomOfType : List Int32} {o_slotActive : List Int32} {o_slotType : List Int32} {o_slotArrive : List Int32} {o_slotNights : List Int32} {o_exactCount : List Int32} {o_atLeastCount : List Int32} {o_planRoom : List Int32} {o_planGrid : List Int32} {o_planOrder : List Int32} {o_totalRooms : Int32} {o_activeStays : Int32} {o_planOrderLength : Int32} {o_planCurrent : Int32} {o_planUnplaced : Int32} {c0 : ACell} {po : List ACell} {res : Int32} (h : f_activeCount o_activeStays = some res) : OEnds own_P 22 0 [.val (.ref 1)] [] (c0 :: bk0 o_roomsOfType o_roomsAtLeast o_firstRoomOfType o_slotActive o_slotType o_slotArrive o_slotNights o_exactCount o_atLeastCount o_planRoom o_planGrid o_planOrder o_totalRooms o_activeStays o_planOrderLength o_planCurrent o_planUnplaced po) (some (.int res), (c0 :: bk0 o_roomsOfType o_roomsAtLeast o_firstRoomOfType o_slotActive o_slotType o_slotArrive o_slotNights o_exactCount o_atLeastCount o_planRoom o_planGrid o_planOrder o_totalRooms o_activeStays o_planOrderLength o_planCurrent o_planUnplaced po), 0, 0) := by
  unfold f_activeCount at h
  refine OEnds.adv hm_22 2 (pc' := 4) (L' := [.val (.ref 1)]) (S' := [.int o_activeStays]) (H' := (c0 :: bk0 o_roomsOfType o_roomsAtLeast o_firstRoomOfType o_slotActive o_slotType o_slotArrive o_slotNights o_exactCount o_atLeastCount o_planRoom o_planGrid o_planOrder o_totalRooms o_activeStays o_planOrderLength o_planCurrent o_planUnplaced po)) rfl ?_
  cases h
  exact OEnds.iret hm_22 rfl rfl
theorem ok_isAssigned {o_roomsOfType : List Int32} {o_roomsAtLeast : List Int32} {o_firstRoomOfType : List Int32} {o_slotActive : List Int32} {o_slotType : List Int32} {o_slotArrive : List Int32} {o_slotNights : List Int32} {o_exactCount : List Int32} {o_atLeastCount : List Int32} {o_planRoom : List Int32} {o_planGrid : List Int32} {o_planOrder : List Int32} {o_totalRooms : Int32} {o_activeStays : Int32} {o_planOrderLength : Int32} {o_planCurrent : Int32} {o_planUnplaced : Int32} {c0 : ACell} {po : List ACell} {res : Int32} (h : f_isAssigned o_planCurrent = some res) : OEnds own_P 23 0 [.val (.ref 1)] [] (c0 :: bk0 o_roomsOfType o_roomsAtLeast o_firstRoomOfType o_slotActive o_slotType o_slotArrive o_slotNights o_exactCount o_atLeastCount o_planRoom o_planGrid o_planOrder o_totalRooms o_activeStays o_planOrderLength o_planCurrent o_planUnplaced po) (some (.int res), (c0 :: bk0 o_roomsOfType o_roomsAtLeast o_firstRoomOfType o_slotActive o_slotType o_slotArrive o_slotNights o_exactCount o_atLeastCount o_planRoom o_planGrid o_planOrder o_totalRooms o_activeStays o_planOrderLength o_planCurrent o_planUnplaced po), 0, 0) := by
  unfold f_isAssigned at h
  refine OEnds.adv hm_23 2 (pc' := 4) (L' := [.val (.ref 1)]) (S' := [.int o_planCurrent]) (H' := (c0 :: bk0 o_roomsOfType o_roomsAtLeast o_firstRoomOfType o_slotActive o_slotType o_slotArrive o_slotNights o_exactCount o_atLeastCount o_planRoom o_planGrid o_planOrder o_totalRooms o_activeStays o_planOrderLength o_planCurrent o_planUnplaced po)) rfl ?_
  cases h
  exact OEnds.iret hm_23 rfl rfl
theorem ok_stayArrive {o_roomsOfType : List Int32} {o_roomsAtLeast : List Int32} {o_firstRoomOfType : List Int32} {o_slotActive : List Int32} {o_slotType : List Int32} {o_slotArrive : List Int32} {o_slotNights : List Int32} {o_exactCount : List Int32} {o_atLeastCount : List Int32} {o_planRoom : List Int32} {o_planGrid : List Int32} {o_planOrder : List Int32} {o_totalRooms : Int32} {o_activeStays : Int32} {o_planOrderLength : Int32} {o_planCurrent : Int32} {o_planUnplaced : Int32} {c0 : ACell} {po : List ACell} {v1 : Int32} {res : Int32} (h : f_stayArrive o_slotActive o_slotArrive v1 = some res) : OEnds own_P 37 0 [.val (.ref 1), .val (.int v1)] [] (c0 :: bk0 o_roomsOfType o_roomsAtLeast o_firstRoomOfType o_slotActive o_slotType o_slotArrive o_slotNights o_exactCount o_atLeastCount o_planRoom o_planGrid o_planOrder o_totalRooms o_activeStays o_planOrderLength o_planCurrent o_planUnplaced po) (some (.int res), (c0 :: bk0 o_roomsOfType o_roomsAtLeast o_firstRoomOfType o_slotActive o_slotType o_slotArrive o_slotNights o_exactCount o_atLeastCount o_planRoom o_planGrid o_planOrder o_totalRooms o_activeStays o_planOrderLength o_planCurrent o_planUnplaced po), 0, 0) := by
  unfold f_stayArrive at h
  refine OEnds.adv hm_37 2 (pc' := 2) (L' := [.val (.ref 1), .val (.int v1)]) (S' := [.int v1, .ref 1]) (H' := (c0 :: bk0 o_roomsOfType o_roomsAtLeast o_firstRoomOfType o_slotActive o_slotType o_slotArrive o_slotNights o_exactCount o_atLeastCount o_planRoom o_planGrid o_planOrder o_totalRooms o_activeStays o_planOrderLength o_planCurrent o_planUnplaced po)) rfl ?_
  obtain ⟨r171, hq166, h⟩ := bnd h
  refine OEnds.call0 hm_37 rfl rfl (by decide) rfl (as := [.ref 1, .int v1]) (rest := []) rfl rfl (ok_isActiveStay hq166) ?_
  show OEnds own_P 37 5 [.val (.ref 1), .val (.int v1)] [.int r171] (c0 :: bk0 o_roomsOfType o_roomsAtLeast o_firstRoomOfType o_slotActive o_slotType o_slotArrive o_slotNights o_exactCount o_atLeastCount o_planRoom o_planGrid o_planOrder o_totalRooms o_activeStays o_planOrderLength o_planCurrent o_planUnplaced po) _
  by_cases hc167 : r171 = (0 : Int32)
  · simp only [if_pos hc167] at h
    refine OEnds.ifF hm_37 rfl ((teq hc167).2) ?_
    refine OEnds.adv hm_37 1 (pc' := 9) (L' := [.val (.ref 1), .val (.int v1)]) (S' := [.int (-1)]) (H' := (c0 :: bk0 o_roomsOfType o_roomsAtLeast o_firstRoomOfType o_slotActive o_slotType o_slotArrive o_slotNights o_exactCount o_atLeastCount o_planRoom o_planGrid o_planOrder o_totalRooms o_activeStays o_planOrderLength o_planCurrent o_planUnplaced po)) rfl ?_
    cases h
    exact OEnds.iret hm_37 rfl rfl
  · simp only [if_neg hc167] at h
    refine OEnds.ifT hm_37 rfl (q := 10) rfl ((feq hc167).2) ?_
    refine OEnds.adv hm_37 3 (pc' := 15) (L' := [.val (.ref 1), .val (.int v1)]) (S' := [.int v1, .ref 7]) (H' := (c0 :: bk0 o_roomsOfType o_roomsAtLeast o_firstRoomOfType o_slotActive o_slotType o_slotArrive o_slotNights o_exactCount o_atLeastCount o_planRoom o_planGrid o_planOrder o_totalRooms o_activeStays o_planOrderLength o_planCurrent o_planUnplaced po)) rfl ?_
    obtain ⟨x172, hx172, h⟩ := bnd h
    refine OEnds.plain hm_37 rfl rfl (x_iaload rfl hx172) ?_
    show OEnds own_P 37 16 [.val (.ref 1), .val (.int v1)] [.int x172] (c0 :: bk0 o_roomsOfType o_roomsAtLeast o_firstRoomOfType o_slotActive o_slotType o_slotArrive o_slotNights o_exactCount o_atLeastCount o_planRoom o_planGrid o_planOrder o_totalRooms o_activeStays o_planOrderLength o_planCurrent o_planUnplaced po) _
    cases h
    exact OEnds.iret hm_37 rfl rfl
theorem ok_L_law_630 {scr : List Int32} {kb : List Int32 → List Int32 → List Int32 → List Int32 → List Int32 → List Int32 → List Int32 → List Int32 → List Int32 → List Int32 → List Int32 → Int32 → Int32 → Int32 → Int32 → Int32 → Int32 → Int32 → Int64 → Int32 → Int32 → Int32 → Int32 → Int32 → Int32 → Option (Int32)} (hkb : ∀ {n0_roomsAtLeast : List Int32} {n0_firstRoomOfType : List Int32} {n0_slotActive : List Int32} {n0_slotType : List Int32} {n0_slotArrive : List Int32} {n0_slotNights : List Int32} {n0_exactCount : List Int32} {n0_atLeastCount : List Int32} {n0_planRoom : List Int32} {n0_planGrid : List Int32} {n0_planOrder : List Int32} {n0_totalRooms : Int32} {n0_activeStays : Int32} {n0_planOrderLength : Int32} {n0_planCurrent : Int32} {n0_planUnplaced : Int32} {v2 : Int32} {v3 : Int32} {v4 : Int64} {v6 : Int32} {v7 : Int32} {v8 : Int32} {v9 : Int32} {v10 : Int32} {v11 : Int32} {n0_roomsOfType : List Int32} {d12 d13 d14 d15 d16 d17 d18 d19 d20 d21 d22 d23 : Slot} {res : Int32}, kb n0_roomsAtLeast n0_firstRoomOfType n0_slotActive n0_slotType n0_slotArrive n0_slotNights n0_exactCount n0_atLeastCount n0_planRoom n0_planGrid n0_planOrder n0_totalRooms n0_activeStays n0_planOrderLength n0_planCurrent n0_planUnplaced v2 v3 v4 v6 v7 v8 v9 v10 v11 = some res → OEndsQ own_P 0 36 [.val (.ref 0), .val (.ref 1), .val (.int v2), .val (.int v3), .val (.long v4), .second, .val (.int v6), .val (.int v7), .val (.int v8), .val (.int v9), .val (.int v10), .val (.int v11), d12, d13, d14, d15, d16, d17, d18, d19, d20, d21, d22, d23] [] ((.inr (.inl (false, scr)) : ACell) :: bk0 n0_roomsOfType n0_roomsAtLeast n0_firstRoomOfType n0_slotActive n0_slotType n0_slotArrive n0_slotNights n0_exactCount n0_atLeastCount n0_planRoom n0_planGrid n0_planOrder n0_totalRooms n0_activeStays n0_planOrderLength n0_planCurrent n0_planUnplaced []) (LawQ res 0 0)) : ∀ {n0_roomsAtLeast : List Int32} {n0_firstRoomOfType : List Int32} {n0_slotActive : List Int32} {n0_slotType : List Int32} {n0_slotArrive : List Int32} {n0_slotNights : List Int32} {n0_exactCount : List Int32} {n0_atLeastCount : List Int32} {n0_planRoom : List Int32} {n0_planGrid : List Int32} {n0_planOrder : List Int32} {n0_totalRooms : Int32} {n0_activeStays : Int32} {n0_planOrderLength : Int32} {n0_planCurrent : Int32} {n0_planUnplaced : Int32} {v2 : Int32} {v3 : Int32} {v4 : Int64} {v6 : Int32} {v7 : Int32} {v8 : Int32} {v9 : Int32} {v10 : Int32} {v11 : Int32} {v18 : Int64} {n0_roomsOfType : List Int32} {d12 d13 d14 d15 d16 d17 d20 d21 d22 d23 : Slot} {res : Int32}, f_L_law_630 kb scr n0_roomsAtLeast n0_firstRoomOfType n0_slotActive n0_slotType n0_slotArrive n0_slotNights n0_exactCount n0_atLeastCount n0_planRoom n0_planGrid n0_planOrder n0_totalRooms n0_activeStays n0_planOrderLength n0_planCurrent n0_planUnplaced v2 v3 v4 v6 v7 v8 v9 v10 v11 v18 = some res → OEndsQ own_P 0 630 [.val (.ref 0), .val (.ref 1), .val (.int v2), .val (.int v3), .val (.long v4), .second, .val (.int v6), .val (.int v7), .val (.int v8), .val (.int v9), .val (.int v10), .val (.int v11), d12, d13, d14, d15, d16, d17, .val (.long v18), .second, d20, d21, d22, d23] [] ((.inr (.inl (false, scr)) : ACell) :: bk0 n0_roomsOfType n0_roomsAtLeast n0_firstRoomOfType n0_slotActive n0_slotType n0_slotArrive n0_slotNights n0_exactCount n0_atLeastCount n0_planRoom n0_planGrid n0_planOrder n0_totalRooms n0_activeStays n0_planOrderLength n0_planCurrent n0_planUnplaced []) (LawQ res 0 0) := by
  intro n0_roomsAtLeast n0_firstRoomOfType n0_slotActive n0_slotType n0_slotArrive n0_slotNights n0_exactCount n0_atLeastCount n0_planRoom n0_planGrid n0_planOrder n0_totalRooms n0_activeStays n0_planOrderLength n0_planCurrent n0_planUnplaced v2 v3 v4 v6 v7 v8 v9 v10 v11 v18 n0_roomsOfType d12 d13 d14 d15 d16 d17 d20 d21 d22 d23 res h
  unfold f_L_law_630 at h
  refine OEndsQ.adv hm_0 3 (pc' := 635) (L' := [.val (.ref 0), .val (.ref 1), .val (.int v2), .val (.int v3), .val (.long v4), .second, .val (.int v6), .val (.int v7), .val (.int v8), .val (.int v9), .val (.int v10), .val (.int v11), .unset, .unset, .unset, .unset, .unset, .unset, .val (.long v18), .second, .unset, .unset, .unset, .unset]) (S' := [.int (XT.cmpL v18 v4)]) (H' := ((.inr (.inl (false, scr)) : ACell) :: bk0 n0_roomsOfType n0_roomsAtLeast n0_firstRoomOfType n0_slotActive n0_slotType n0_slotArrive n0_slotNights n0_exactCount n0_atLeastCount n0_planRoom n0_planGrid n0_planOrder n0_totalRooms n0_activeStays n0_planOrderLength n0_planCurrent n0_planUnplaced [])) rfl ?_
  by_cases hc168 : v18 = v4
  · simp only [if_pos hc168] at h
    refine OEndsQ.ifT hm_0 rfl (q := 640) rfl ((teq (c_eq.mpr hc168)).1) ?_
    refine OEndsQ.adv hm_0 1 (pc' := 641) (L' := [.val (.ref 0), .val (.ref 1), .val (.int v2), .val (.int v3), .val (.long v4), .second, .val (.int v6), .val (.int v7), .val (.int v8), .val (.int v9), .val (.int v10), .val (.int v11), .unset, .unset, .unset, .unset, .unset, .unset, .val (.long v18), .second, .unset, .unset, .unset, .unset]) (S' := [.ref 1]) (H' := ((.inr (.inl (false, scr)) : ACell) :: bk0 n0_roomsOfType n0_roomsAtLeast n0_firstRoomOfType n0_slotActive n0_slotType n0_slotArrive n0_slotNights n0_exactCount n0_atLeastCount n0_planRoom n0_planGrid n0_planOrder n0_totalRooms n0_activeStays n0_planOrderLength n0_planCurrent n0_planUnplaced [])) rfl ?_
    obtain ⟨r236, hq169, h⟩ := bnd h
    refine OEndsQ.call0 hm_0 rfl rfl (by decide) rfl (as := [.ref 1]) (rest := []) rfl rfl (ok_activeCount hq169) ?_
    refine OEndsQ.adv hm_0 1 (pc' := 645) (L' := [.val (.ref 0), .val (.ref 1), .val (.int v2), .val (.int v3), .val (.long v4), .second, .val (.int v6), .val (.int v7), .val (.int v8), .val (.int v9), .val (.int v10), .val (.int v11), .unset, .unset, .unset, .unset, .unset, .unset, .val (.long v18), .second, .unset, .unset, .unset, .unset]) (S' := [.int v3, .int r236]) (H' := ((.inr (.inl (false, scr)) : ACell) :: bk0 n0_roomsOfType n0_roomsAtLeast n0_firstRoomOfType n0_slotActive n0_slotType n0_slotArrive n0_slotNights n0_exactCount n0_atLeastCount n0_planRoom n0_planGrid n0_planOrder n0_totalRooms n0_activeStays n0_planOrderLength n0_planCurrent n0_planUnplaced [])) rfl ?_
    by_cases hc170 : r236 = v3
    · simp only [if_pos hc170] at h
      refine OEndsQ.icmpT hm_0 rfl (q := 650) rfl ((teq hc170).1) ?_
      refine OEndsQ.adv hm_0 1 (pc' := 651) (L' := [.val (.ref 0), .val (.ref 1), .val (.int v2), .val (.int v3), .val (.long v4), .second, .val (.int v6), .val (.int v7), .val (.int v8), .val (.int v9), .val (.int v10), .val (.int v11), .unset, .unset, .unset, .unset, .unset, .unset, .val (.long v18), .second, .unset, .unset, .unset, .unset]) (S' := [.ref 1]) (H' := ((.inr (.inl (false, scr)) : ACell) :: bk0 n0_roomsOfType n0_roomsAtLeast n0_firstRoomOfType n0_slotActive n0_slotType n0_slotArrive n0_slotNights n0_exactCount n0_atLeastCount n0_planRoom n0_planGrid n0_planOrder n0_totalRooms n0_activeStays n0_planOrderLength n0_planCurrent n0_planUnplaced [])) rfl ?_
      obtain ⟨r237, hq171, h⟩ := bnd h
      refine OEndsQ.call0 hm_0 rfl rfl (by decide) rfl (as := [.ref 1]) (rest := []) rfl rfl (ok_isAssigned hq171) ?_
      refine OEndsQ.adv hm_0 1 (pc' := 656) (L' := [.val (.ref 0), .val (.ref 1), .val (.int v2), .val (.int v3), .val (.long v4), .second, .val (.int v6), .val (.int v7), .val (.int v8), .val (.int v9), .val (.int v10), .val (.int v11), .unset, .unset, .unset, .unset, .unset, .unset, .val (.long v18), .second, .unset, .unset, .unset, .unset]) (S' := [.int v6, .int r237]) (H' := ((.inr (.inl (false, scr)) : ACell) :: bk0 n0_roomsOfType n0_roomsAtLeast n0_firstRoomOfType n0_slotActive n0_slotType n0_slotArrive n0_slotNights n0_exactCount n0_atLeastCount n0_planRoom n0_planGrid n0_planOrder n0_totalRooms n0_activeStays n0_planOrderLength n0_planCurrent n0_planUnplaced [])) rfl ?_
      by_cases hc172 : r237 = v6
      · simp only [if_pos hc172] at h
        refine OEndsQ.icmpT hm_0 rfl (q := 661) rfl ((teq hc172).1) ?_
        refine OEndsQ.adv hm_0 1 (pc' := 663) (L' := [.val (.ref 0), .val (.ref 1), .val (.int v2), .val (.int v3), .val (.long v4), .second, .val (.int v6), .val (.int v7), .val (.int v8), .val (.int v9), .val (.int v10), .val (.int v11), .unset, .unset, .unset, .unset, .unset, .unset, .val (.long v18), .second, .unset, .unset, .unset, .unset]) (S' := [.int v7]) (H' := ((.inr (.inl (false, scr)) : ACell) :: bk0 n0_roomsOfType n0_roomsAtLeast n0_firstRoomOfType n0_slotActive n0_slotType n0_slotArrive n0_slotNights n0_exactCount n0_atLeastCount n0_planRoom n0_planGrid n0_planOrder n0_totalRooms n0_activeStays n0_planOrderLength n0_planCurrent n0_planUnplaced [])) rfl ?_
        by_cases hc173 : v7 < (0 : Int32)
        · simp only [if_pos hc173] at h
          refine OEndsQ.ifT hm_0 rfl (q := 701) rfl ((tlt hc173).1) ?_
          refine OEndsQ.adv hm_0 2 (pc' := 36) (L' := [.val (.ref 0), .val (.ref 1), .val (.int v2), .val (.int v3), .val (.long v4), .second, .val (.int v6), .val (.int v7), .val (.int v8), .val (.int v9), .val (.int v10), .val (.int (v11 + (5 : Int32))), .unset, .unset, .unset, .unset, .unset, .unset, .val (.long v18), .second, .unset, .unset, .unset, .unset]) (S' := []) (H' := ((.inr (.inl (false, scr)) : ACell) :: bk0 n0_roomsOfType n0_roomsAtLeast n0_firstRoomOfType n0_slotActive n0_slotType n0_slotArrive n0_slotNights n0_exactCount n0_atLeastCount n0_planRoom n0_planGrid n0_planOrder n0_totalRooms n0_activeStays n0_planOrderLength n0_planCurrent n0_planUnplaced [])) rfl ?_
          exact hkb h
        · simp only [if_neg hc173] at h
          refine OEndsQ.ifF hm_0 rfl ((flt hc173).1) ?_
          refine OEndsQ.adv hm_0 2 (pc' := 669) (L' := [.val (.ref 0), .val (.ref 1), .val (.int v2), .val (.int v3), .val (.long v4), .second, .val (.int v6), .val (.int v7), .val (.int v8), .val (.int v9), .val (.int v10), .val (.int v11), .unset, .unset, .unset, .unset, .unset, .unset, .val (.long v18), .second, .unset, .unset, .unset, .unset]) (S' := [.int v7, .ref 1]) (H' := ((.inr (.inl (false, scr)) : ACell) :: bk0 n0_roomsOfType n0_roomsAtLeast n0_firstRoomOfType n0_slotActive n0_slotType n0_slotArrive n0_slotNights n0_exactCount n0_atLeastCount n0_planRoom n0_planGrid n0_planOrder n0_totalRooms n0_activeStays n0_planOrderLength n0_planCurrent n0_planUnplaced [])) rfl ?_
          obtain ⟨r238, hq174, h⟩ := bnd h
          refine OEndsQ.call0 hm_0 rfl rfl (by decide) rfl (as := [.ref 1, .int v7]) (rest := []) rfl rfl (ok_stayType hq174) ?_
          refine OEndsQ.adv hm_0 1 (pc' := 674) (L' := [.val (.ref 0), .val (.ref 1), .val (.int v2), .val (.int v3), .val (.long v4), .second, .val (.int v6), .val (.int v7), .val (.int v8), .val (.int v9), .val (.int v10), .val (.int v11), .unset, .unset, .unset, .unset, .unset, .unset, .val (.long v18), .second, .unset, .unset, .unset, .unset]) (S' := [.int v8, .int r238]) (H' := ((.inr (.inl (false, scr)) : ACell) :: bk0 n0_roomsOfType n0_roomsAtLeast n0_firstRoomOfType n0_slotActive n0_slotType n0_slotArrive n0_slotNights n0_exactCount n0_atLeastCount n0_planRoom n0_planGrid n0_planOrder n0_totalRooms n0_activeStays n0_planOrderLength n0_planCurrent n0_planUnplaced [])) rfl ?_
          by_cases hc175 : r238 = v8
          · simp only [if_pos hc175] at h
            refine OEndsQ.icmpF hm_0 rfl ((teq hc175).2) ?_
            refine OEndsQ.adv hm_0 2 (pc' := 680) (L' := [.val (.ref 0), .val (.ref 1), .val (.int v2), .val (.int v3), .val (.long v4), .second, .val (.int v6), .val (.int v7), .val (.int v8), .val (.int v9), .val (.int v10), .val (.int v11), .unset, .unset, .unset, .unset, .unset, .unset, .val (.long v18), .second, .unset, .unset, .unset, .unset]) (S' := [.int v7, .ref 1]) (H' := ((.inr (.inl (false, scr)) : ACell) :: bk0 n0_roomsOfType n0_roomsAtLeast n0_firstRoomOfType n0_slotActive n0_slotType n0_slotArrive n0_slotNights n0_exactCount n0_atLeastCount n0_planRoom n0_planGrid n0_planOrder n0_totalRooms n0_activeStays n0_planOrderLength n0_planCurrent n0_planUnplaced [])) rfl ?_
            obtain ⟨r239, hq176, h⟩ := bnd h
            refine OEndsQ.call0 hm_0 rfl rfl (by decide) rfl (as := [.ref 1, .int v7]) (rest := []) rfl rfl (ok_stayArrive hq176) ?_
            refine OEndsQ.adv hm_0 1 (pc' := 685) (L' := [.val (.ref 0), .val (.ref 1), .val (.int v2), .val (.int v3), .val (.long v4), .second, .val (.int v6), .val (.int v7), .val (.int v8), .val (.int v9), .val (.int v10), .val (.int v11), .unset, .unset, .unset, .unset, .unset, .unset, .val (.long v18), .second, .unset, .unset, .unset, .unset]) (S' := [.int v9, .int r239]) (H' := ((.inr (.inl (false, scr)) : ACell) :: bk0 n0_roomsOfType n0_roomsAtLeast n0_firstRoomOfType n0_slotActive n0_slotType n0_slotArrive n0_slotNights n0_exactCount n0_atLeastCount n0_planRoom n0_planGrid n0_planOrder n0_totalRooms n0_activeStays n0_planOrderLength n0_planCurrent n0_planUnplaced [])) rfl ?_
            by_cases hc177 : r239 = v9
            · simp only [if_pos hc177] at h
              refine OEndsQ.icmpF hm_0 rfl ((teq hc177).2) ?_
              refine OEndsQ.adv hm_0 2 (pc' := 691) (L' := [.val (.ref 0), .val (.ref 1), .val (.int v2), .val (.int v3), .val (.long v4), .second, .val (.int v6), .val (.int v7), .val (.int v8), .val (.int v9), .val (.int v10), .val (.int v11), .unset, .unset, .unset, .unset, .unset, .unset, .val (.long v18), .second, .unset, .unset, .unset, .unset]) (S' := [.int v7, .ref 1]) (H' := ((.inr (.inl (false, scr)) : ACell) :: bk0 n0_roomsOfType n0_roomsAtLeast n0_firstRoomOfType n0_slotActive n0_slotType n0_slotArrive n0_slotNights n0_exactCount n0_atLeastCount n0_planRoom n0_planGrid n0_planOrder n0_totalRooms n0_activeStays n0_planOrderLength n0_planCurrent n0_planUnplaced [])) rfl ?_
              obtain ⟨r240, hq178, h⟩ := bnd h
              refine OEndsQ.call0 hm_0 rfl rfl (by decide) rfl (as := [.ref 1, .int v7]) (rest := []) rfl rfl (ok_stayNights hq178) ?_
              refine OEndsQ.adv hm_0 1 (pc' := 696) (L' := [.val (.ref 0), .val (.ref 1), .val (.int v2), .val (.int v3), .val (.long v4), .second, .val (.int v6), .val (.int v7), .val (.int v8), .val (.int v9), .val (.int v10), .val (.int v11), .unset, .unset, .unset, .unset, .unset, .unset, .val (.long v18), .second, .unset, .unset, .unset, .unset]) (S' := [.int v10, .int r240]) (H' := ((.inr (.inl (false, scr)) : ACell) :: bk0 n0_roomsOfType n0_roomsAtLeast n0_firstRoomOfType n0_slotActive n0_slotType n0_slotArrive n0_slotNights n0_exactCount n0_atLeastCount n0_planRoom n0_planGrid n0_planOrder n0_totalRooms n0_activeStays n0_planOrderLength n0_planCurrent n0_planUnplaced [])) rfl ?_
              by_cases hc179 : r240 = v10
              · simp only [if_pos hc179] at h
                refine OEndsQ.icmpT hm_0 rfl (q := 701) rfl ((teq hc179).1) ?_
                refine OEndsQ.adv hm_0 2 (pc' := 36) (L' := [.val (.ref 0), .val (.ref 1), .val (.int v2), .val (.int v3), .val (.long v4), .second, .val (.int v6), .val (.int v7), .val (.int v8), .val (.int v9), .val (.int v10), .val (.int (v11 + (5 : Int32))), .unset, .unset, .unset, .unset, .unset, .unset, .val (.long v18), .second, .unset, .unset, .unset, .unset]) (S' := []) (H' := ((.inr (.inl (false, scr)) : ACell) :: bk0 n0_roomsOfType n0_roomsAtLeast n0_firstRoomOfType n0_slotActive n0_slotType n0_slotArrive n0_slotNights n0_exactCount n0_atLeastCount n0_planRoom n0_planGrid n0_planOrder n0_totalRooms n0_activeStays n0_planOrderLength n0_planCurrent n0_planUnplaced [])) rfl ?_
                exact hkb h
              · simp only [if_neg hc179] at h
                refine OEndsQ.icmpF hm_0 rfl ((feq hc179).1) ?_
                refine OEndsQ.adv hm_0 1 (pc' := 700) (L' := [.val (.ref 0), .val (.ref 1), .val (.int v2), .val (.int v3), .val (.long v4), .second, .val (.int v6), .val (.int v7), .val (.int v8), .val (.int v9), .val (.int v10), .val (.int v11), .unset, .unset, .unset, .unset, .unset, .unset, .val (.long v18), .second, .unset, .unset, .unset, .unset]) (S' := [.int 0]) (H' := ((.inr (.inl (false, scr)) : ACell) :: bk0 n0_roomsOfType n0_roomsAtLeast n0_firstRoomOfType n0_slotActive n0_slotType n0_slotArrive n0_slotNights n0_exactCount n0_atLeastCount n0_planRoom n0_planGrid n0_planOrder n0_totalRooms n0_activeStays n0_planOrderLength n0_planCurrent n0_planUnplaced [])) rfl ?_
                cases h
                exact OEndsQ.iret hm_0 rfl rfl
            · simp only [if_neg hc177] at h
              refine OEndsQ.icmpT hm_0 rfl (q := 699) rfl ((feq hc177).2) ?_
              refine OEndsQ.adv hm_0 1 (pc' := 700) (L' := [.val (.ref 0), .val (.ref 1), .val (.int v2), .val (.int v3), .val (.long v4), .second, .val (.int v6), .val (.int v7), .val (.int v8), .val (.int v9), .val (.int v10), .val (.int v11), .unset, .unset, .unset, .unset, .unset, .unset, .val (.long v18), .second, .unset, .unset, .unset, .unset]) (S' := [.int 0]) (H' := ((.inr (.inl (false, scr)) : ACell) :: bk0 n0_roomsOfType n0_roomsAtLeast n0_firstRoomOfType n0_slotActive n0_slotType n0_slotArrive n0_slotNights n0_exactCount n0_atLeastCount n0_planRoom n0_planGrid n0_planOrder n0_totalRooms n0_activeStays n0_planOrderLength n0_planCurrent n0_planUnplaced [])) rfl ?_
              cases h
              exact OEndsQ.iret hm_0 rfl rfl
          · simp only [if_neg hc175] at h
            refine OEndsQ.icmpT hm_0 rfl (q := 699) rfl ((feq hc175).2) ?_
            refine OEndsQ.adv hm_0 1 (pc' := 700) (L' := [.val (.ref 0), .val (.ref 1), .val (.int v2), .val (.int v3), .val (.long v4), .second, .val (.int v6), .val (.int v7), .val (.int v8), .val (.int v9), .val (.int v10), .val (.int v11), .unset, .unset, .unset, .unset, .unset, .unset, .val (.long v18), .second, .unset, .unset, .unset, .unset]) (S' := [.int 0]) (H' := ((.inr (.inl (false, scr)) : ACell) :: bk0 n0_roomsOfType n0_roomsAtLeast n0_firstRoomOfType n0_slotActive n0_slotType n0_slotArrive n0_slotNights n0_exactCount n0_atLeastCount n0_planRoom n0_planGrid n0_planOrder n0_totalRooms n0_activeStays n0_planOrderLength n0_planCurrent n0_planUnplaced [])) rfl ?_
            cases h
            exact OEndsQ.iret hm_0 rfl rfl
      · simp only [if_neg hc172] at h
        refine OEndsQ.icmpF hm_0 rfl ((feq hc172).1) ?_
        refine OEndsQ.adv hm_0 1 (pc' := 660) (L' := [.val (.ref 0), .val (.ref 1), .val (.int v2), .val (.int v3), .val (.long v4), .second, .val (.int v6), .val (.int v7), .val (.int v8), .val (.int v9), .val (.int v10), .val (.int v11), .unset, .unset, .unset, .unset, .unset, .unset, .val (.long v18), .second, .unset, .unset, .unset, .unset]) (S' := [.int 0]) (H' := ((.inr (.inl (false, scr)) : ACell) :: bk0 n0_roomsOfType n0_roomsAtLeast n0_firstRoomOfType n0_slotActive n0_slotType n0_slotArrive n0_slotNights n0_exactCount n0_atLeastCount n0_planRoom n0_planGrid n0_planOrder n0_totalRooms n0_activeStays n0_planOrderLength n0_planCurrent n0_planUnplaced [])) rfl ?_
        cases h
        exact OEndsQ.iret hm_0 rfl rfl
    · simp only [if_neg hc170] at h
      refine OEndsQ.icmpF hm_0 rfl ((feq hc170).1) ?_
      refine OEndsQ.adv hm_0 1 (pc' := 649) (L' := [.val (.ref 0), .val (.ref 1), .val (.int v2), .val (.int v3), .val (.long v4), .second, .val (.int v6), .val (.int v7), .val (.int v8), .val (.int v9), .val (.int v10), .val (.int v11), .unset, .unset, .unset, .unset, .unset, .unset, .val (.long v18), .second, .unset, .unset, .unset, .unset]) (S' := [.int 0]) (H' := ((.inr (.inl (false, scr)) : ACell) :: bk0 n0_roomsOfType n0_roomsAtLeast n0_firstRoomOfType n0_slotActive n0_slotType n0_slotArrive n0_slotNights n0_exactCount n0_atLeastCount n0_planRoom n0_planGrid n0_planOrder n0_totalRooms n0_activeStays n0_planOrderLength n0_planCurrent n0_planUnplaced [])) rfl ?_
      cases h
      exact OEndsQ.iret hm_0 rfl rfl
  · simp only [if_neg hc168] at h
    refine OEndsQ.ifF hm_0 rfl ((feq (mt c_eq.mp hc168)).1) ?_
    refine OEndsQ.adv hm_0 1 (pc' := 639) (L' := [.val (.ref 0), .val (.ref 1), .val (.int v2), .val (.int v3), .val (.long v4), .second, .val (.int v6), .val (.int v7), .val (.int v8), .val (.int v9), .val (.int v10), .val (.int v11), .unset, .unset, .unset, .unset, .unset, .unset, .val (.long v18), .second, .unset, .unset, .unset, .unset]) (S' := [.int 0]) (H' := ((.inr (.inl (false, scr)) : ACell) :: bk0 n0_roomsOfType n0_roomsAtLeast n0_firstRoomOfType n0_slotActive n0_slotType n0_slotArrive n0_slotNights n0_exactCount n0_atLeastCount n0_planRoom n0_planGrid n0_planOrder n0_totalRooms n0_activeStays n0_planOrderLength n0_planCurrent n0_planUnplaced [])) rfl ?_
    cases h
    exact OEndsQ.iret hm_0 rfl rfl
theorem ok_L_law_558 {scr : List Int32} {kb : List Int32 → List Int32 → List Int32 → List Int32 → List Int32 → List Int32 → List Int32 → List Int32 → List Int32 → List Int32 → List Int32 → Int32 → Int32 → Int32 → Int32 → Int32 → Int32 → Int32 → Int64 → Int32 → Int32 → Int32 → Int32 → Int32 → Int32 → Int64 → Int32 → Option (Int32)} {k630 : List Int32 → List Int32 → List Int32 → List Int32 → List Int32 → List Int32 → List Int32 → List Int32 → List Int32 → List Int32 → List Int32 → Int32 → Int32 → Int32 → Int32 → Int32 → Int32 → Int32 → Int64 → Int32 → Int32 → Int32 → Int32 → Int32 → Int32 → Int64 → Option (Int32)} (hkb : ∀ {n0_roomsAtLeast : List Int32} {n0_firstRoomOfType : List Int32} {n0_slotActive : List Int32} {n0_slotType : List Int32} {n0_slotArrive : List Int32} {n0_slotNights : List Int32} {n0_exactCount : List Int32} {n0_atLeastCount : List Int32} {n0_planRoom : List Int32} {n0_planGrid : List Int32} {n0_planOrder : List Int32} {n0_totalRooms : Int32} {n0_activeStays : Int32} {n0_planOrderLength : Int32} {n0_planCurrent : Int32} {n0_planUnplaced : Int32} {v2 : Int32} {v3 : Int32} {v4 : Int64} {v6 : Int32} {v7 : Int32} {v8 : Int32} {v9 : Int32} {v10 : Int32} {v11 : Int32} {v18 : Int64} {v20 : Int32} {n0_roomsOfType : List Int32} {d12 d13 d14 d15 d16 d17 d21 d22 d23 : Slot} {res : Int32}, kb n0_roomsAtLeast n0_firstRoomOfType n0_slotActive n0_slotType n0_slotArrive n0_slotNights n0_exactCount n0_atLeastCount n0_planRoom n0_planGrid n0_planOrder n0_totalRooms n0_activeStays n0_planOrderLength n0_planCurrent n0_planUnplaced v2 v3 v4 v6 v7 v8 v9 v10 v11 v18 v20 = some res → OEndsQ own_P 0 514 [.val (.ref 0), .val (.ref 1), .val (.int v2), .val (.int v3), .val (.long v4), .second, .val (.int v6), .val (.int v7), .val (.int v8), .val (.int v9), .val (.int v10), .val (.int v11), d12, d13, d14, d15, d16, d17, .val (.long v18), .second, .val (.int v20), d21, d22, d23] [] ((.inr (.inl (false, scr)) : ACell) :: bk0 n0_roomsOfType n0_roomsAtLeast n0_firstRoomOfType n0_slotActive n0_slotType n0_slotArrive n0_slotNights n0_exactCount n0_atLeastCount n0_planRoom n0_planGrid n0_planOrder n0_totalRooms n0_activeStays n0_planOrderLength n0_planCurrent n0_planUnplaced []) (LawQ res 0 0)) (hk630 : ∀ {n0_roomsAtLeast : List Int32} {n0_firstRoomOfType : List Int32} {n0_slotActive : List Int32} {n0_slotType : List Int32} {n0_slotArrive : List Int32} {n0_slotNights : List Int32} {n0_exactCount : List Int32} {n0_atLeastCount : List Int32} {n0_planRoom : List Int32} {n0_planGrid : List Int32} {n0_planOrder : List Int32} {n0_totalRooms : Int32} {n0_activeStays : Int32} {n0_planOrderLength : Int32} {n0_planCurrent : Int32} {n0_planUnplaced : Int32} {v2 : Int32} {v3 : Int32} {v4 : Int64} {v6 : Int32} {v7 : Int32} {v8 : Int32} {v9 : Int32} {v10 : Int32} {v11 : Int32} {v18 : Int64} {n0_roomsOfType : List Int32} {d12 d13 d14 d15 d16 d17 d20 d21 d22 d23 : Slot} {res : Int32}, k630 n0_roomsAtLeast n0_firstRoomOfType n0_slotActive n0_slotType n0_slotArrive n0_slotNights n0_exactCount n0_atLeastCount n0_planRoom n0_planGrid n0_planOrder n0_totalRooms n0_activeStays n0_planOrderLength n0_planCurrent n0_planUnplaced v2 v3 v4 v6 v7 v8 v9 v10 v11 v18 = some res → OEndsQ own_P 0 630 [.val (.ref 0), .val (.ref 1), .val (.int v2), .val (.int v3), .val (.long v4), .second, .val (.int v6), .val (.int v7), .val (.int v8), .val (.int v9), .val (.int v10), .val (.int v11), d12, d13, d14, d15, d16, d17, .val (.long v18), .second, d20, d21, d22, d23] [] ((.inr (.inl (false, scr)) : ACell) :: bk0 n0_roomsOfType n0_roomsAtLeast n0_firstRoomOfType n0_slotActive n0_slotType n0_slotArrive n0_slotNights n0_exactCount n0_atLeastCount n0_planRoom n0_planGrid n0_planOrder n0_totalRooms n0_activeStays n0_planOrderLength n0_planCurrent n0_planUnplaced []) (LawQ res 0 0)) : ∀ {n0_roomsAtLeast : List Int32} {n0_firstRoomOfType : List Int32} {n0_slotActive : List Int32} {n0_slotType : List Int32} {n0_slotArrive : List Int32} {n0_slotNights : List Int32} {n0_exactCount : List Int32} {n0_atLeastCount : List Int32} {n0_planRoom : List Int32} {n0_planGrid : List Int32} {n0_planOrder : List Int32} {n0_totalRooms : Int32} {n0_activeStays : Int32} {n0_planOrderLength : Int32} {n0_planCurrent : Int32} {n0_planUnplaced : Int32} {v2 : Int32} {v3 : Int32} {v4 : Int64} {v6 : Int32} {v7 : Int32} {v8 : Int32} {v9 : Int32} {v10 : Int32} {v11 : Int32} {v18 : Int64} {v20 : Int32} {t0 : Int32} {t1 : Int32} {n0_roomsOfType : List Int32} {d12 d13 d14 d15 d16 d17 d21 d22 d23 : Slot} {res : Int32}, f_L_law_558 kb k630 scr n0_roomsAtLeast n0_firstRoomOfType n0_slotActive n0_slotType n0_slotArrive n0_slotNights n0_exactCount n0_atLeastCount n0_planRoom n0_planGrid n0_planOrder n0_totalRooms n0_activeStays n0_planOrderLength n0_planCurrent n0_planUnplaced v2 v3 v4 v6 v7 v8 v9 v10 v11 v18 v20 t0 t1 = some res → OEndsQ own_P 0 558 [.val (.ref 0), .val (.ref 1), .val (.int v2), .val (.int v3), .val (.long v4), .second, .val (.int v6), .val (.int v7), .val (.int v8), .val (.int v9), .val (.int v10), .val (.int v11), d12, d13, d14, d15, d16, d17, .val (.long v18), .second, .val (.int v20), d21, d22, d23] [.int t0, .int t1] ((.inr (.inl (false, scr)) : ACell) :: bk0 n0_roomsOfType n0_roomsAtLeast n0_firstRoomOfType n0_slotActive n0_slotType n0_slotArrive n0_slotNights n0_exactCount n0_atLeastCount n0_planRoom n0_planGrid n0_planOrder n0_totalRooms n0_activeStays n0_planOrderLength n0_planCurrent n0_planUnplaced []) (LawQ res 0 0) := by
  intro n0_roomsAtLeast n0_firstRoomOfType n0_slotActive n0_slotType n0_slotArrive n0_slotNights n0_exactCount n0_atLeastCount n0_planRoom n0_planGrid n0_planOrder n0_totalRooms n0_activeStays n0_planOrderLength n0_planCurrent n0_planUnplaced v2 v3 v4 v6 v7 v8 v9 v10 v11 v18 v20 t0 t1 n0_roomsOfType d12 d13 d14 d15 d16 d17 d21 d22 d23 res h
  unfold f_L_law_558 at h
  by_cases hc180 : t1 = t0
  · simp only [if_pos hc180] at h
    refine OEndsQ.icmpT hm_0 rfl (q := 563) rfl ((teq hc180).1) ?_
    refine OEndsQ.adv hm_0 4 (pc' := 569) (L' := [.val (.ref 0), .val (.ref 1), .val (.int v2), .val (.int v3), .val (.long v4), .second, .val (.int v6), .val (.int v7), .val (.int v8), .val (.int v9), .val (.int v10), .val (.int v11), .unset, .unset, .unset, .unset, .unset, .unset, .val (.long v18), .second, .val (.int v20), .unset, .unset, .unset]) (S' := [.int v20, .int 0, .ref 1, .long v18]) (H' := ((.inr (.inl (false, scr)) : ACell) :: bk0 n0_roomsOfType n0_roomsAtLeast n0_firstRoomOfType n0_slotActive n0_slotType n0_slotArrive n0_slotNights n0_exactCount n0_atLeastCount n0_planRoom n0_planGrid n0_planOrder n0_totalRooms n0_activeStays n0_planOrderLength n0_planCurrent n0_planUnplaced [])) rfl ?_
    obtain ⟨r232, hq181, h⟩ := bnd h
    refine OEndsQ.call0 hm_0 rfl rfl (by decide) rfl (as := [.ref 1, .int 0, .int v20]) (rest := [.long v18]) rfl rfl (ok_occupancy hq181) ?_
    refine OEndsQ.adv hm_0 7 (pc' := 582) (L' := [.val (.ref 0), .val (.ref 1), .val (.int v2), .val (.int v3), .val (.long v4), .second, .val (.int v6), .val (.int v7), .val (.int v8), .val (.int v9), .val (.int v10), .val (.int v11), .unset, .unset, .unset, .unset, .unset, .unset, .val (.long (v18 + r232.toInt64)), .second, .val (.int v20), .unset, .unset, .unset]) (S' := [.int v20, .int 1, .ref 1, .long (v18 + r232.toInt64)]) (H' := ((.inr (.inl (false, scr)) : ACell) :: bk0 n0_roomsOfType n0_roomsAtLeast n0_firstRoomOfType n0_slotActive n0_slotType n0_slotArrive n0_slotNights n0_exactCount n0_atLeastCount n0_planRoom n0_planGrid n0_planOrder n0_totalRooms n0_activeStays n0_planOrderLength n0_planCurrent n0_planUnplaced [])) rfl ?_
    obtain ⟨r233, hq182, h⟩ := bnd h
    refine OEndsQ.call0 hm_0 rfl rfl (by decide) rfl (as := [.ref 1, .int 1, .int v20]) (rest := [.long (v18 + r232.toInt64)]) rfl rfl (ok_occupancy hq182) ?_
    refine OEndsQ.adv hm_0 7 (pc' := 595) (L' := [.val (.ref 0), .val (.ref 1), .val (.int v2), .val (.int v3), .val (.long v4), .second, .val (.int v6), .val (.int v7), .val (.int v8), .val (.int v9), .val (.int v10), .val (.int v11), .unset, .unset, .unset, .unset, .unset, .unset, .val (.long ((v18 + r232.toInt64) + r233.toInt64)), .second, .val (.int v20), .unset, .unset, .unset]) (S' := [.int v20, .int 2, .ref 1, .long ((v18 + r232.toInt64) + r233.toInt64)]) (H' := ((.inr (.inl (false, scr)) : ACell) :: bk0 n0_roomsOfType n0_roomsAtLeast n0_firstRoomOfType n0_slotActive n0_slotType n0_slotArrive n0_slotNights n0_exactCount n0_atLeastCount n0_planRoom n0_planGrid n0_planOrder n0_totalRooms n0_activeStays n0_planOrderLength n0_planCurrent n0_planUnplaced [])) rfl ?_
    obtain ⟨r234, hq183, h⟩ := bnd h
    refine OEndsQ.call0 hm_0 rfl rfl (by decide) rfl (as := [.ref 1, .int 2, .int v20]) (rest := [.long ((v18 + r232.toInt64) + r233.toInt64)]) rfl rfl (ok_occupancy hq183) ?_
    refine OEndsQ.adv hm_0 6 (pc' := 606) (L' := [.val (.ref 0), .val (.ref 1), .val (.int v2), .val (.int v3), .val (.long v4), .second, .val (.int v6), .val (.int v7), .val (.int v8), .val (.int v9), .val (.int v10), .val (.int v11), .unset, .unset, .unset, .unset, .unset, .unset, .val (.long (((v18 + r232.toInt64) + r233.toInt64) + r234.toInt64)), .second, .val (.int v20), .unset, .unset, .unset]) (S' := [.int v20, .int 0, .ref 1]) (H' := ((.inr (.inl (false, scr)) : ACell) :: bk0 n0_roomsOfType n0_roomsAtLeast n0_firstRoomOfType n0_slotActive n0_slotType n0_slotArrive n0_slotNights n0_exactCount n0_atLeastCount n0_planRoom n0_planGrid n0_planOrder n0_totalRooms n0_activeStays n0_planOrderLength n0_planCurrent n0_planUnplaced [])) rfl ?_
    obtain ⟨r235, hq184, h⟩ := bnd h
    refine OEndsQ.call0 hm_0 rfl rfl (by decide) rfl (as := [.ref 1, .int 0, .int v20]) (rest := []) rfl rfl (ok_available hq184) ?_
    refine OEndsQ.adv hm_0 2 (pc' := 613) (L' := [.val (.ref 0), .val (.ref 1), .val (.int v2), .val (.int v3), .val (.long v4), .second, .val (.int v6), .val (.int v7), .val (.int v8), .val (.int v9), .val (.int v10), .val (.int v11), .unset, .unset, .unset, .unset, .unset, .unset, .val (.long (((v18 + r232.toInt64) + r233.toInt64) + r234.toInt64)), .second, .val (.int v20), .unset, .unset, .val (.int r235)]) (S' := [.int r235]) (H' := ((.inr (.inl (false, scr)) : ACell) :: bk0 n0_roomsOfType n0_roomsAtLeast n0_firstRoomOfType n0_slotActive n0_slotType n0_slotArrive n0_slotNights n0_exactCount n0_atLeastCount n0_planRoom n0_planGrid n0_planOrder n0_totalRooms n0_activeStays n0_planOrderLength n0_planCurrent n0_planUnplaced [])) rfl ?_
    by_cases hc185 : r235 < (0 : Int32)
    · simp only [if_pos hc185] at h
      refine OEndsQ.ifT hm_0 rfl (q := 622) rfl ((tlt hc185).1) ?_
      refine OEndsQ.adv hm_0 1 (pc' := 623) (L' := [.val (.ref 0), .val (.ref 1), .val (.int v2), .val (.int v3), .val (.long v4), .second, .val (.int v6), .val (.int v7), .val (.int v8), .val (.int v9), .val (.int v10), .val (.int v11), .unset, .unset, .unset, .unset, .unset, .unset, .val (.long (((v18 + r232.toInt64) + r233.toInt64) + r234.toInt64)), .second, .val (.int v20), .unset, .unset, .val (.int r235)]) (S' := [.int 0]) (H' := ((.inr (.inl (false, scr)) : ACell) :: bk0 n0_roomsOfType n0_roomsAtLeast n0_firstRoomOfType n0_slotActive n0_slotType n0_slotArrive n0_slotNights n0_exactCount n0_atLeastCount n0_planRoom n0_planGrid n0_planOrder n0_totalRooms n0_activeStays n0_planOrderLength n0_planCurrent n0_planUnplaced [])) rfl ?_
      cases h
      exact OEndsQ.iret hm_0 rfl rfl
    · simp only [if_neg hc185] at h
      refine OEndsQ.ifF hm_0 rfl ((flt hc185).1) ?_
      refine OEndsQ.adv hm_0 2 (pc' := 619) (L' := [.val (.ref 0), .val (.ref 1), .val (.int v2), .val (.int v3), .val (.long v4), .second, .val (.int v6), .val (.int v7), .val (.int v8), .val (.int v9), .val (.int v10), .val (.int v11), .unset, .unset, .unset, .unset, .unset, .unset, .val (.long (((v18 + r232.toInt64) + r233.toInt64) + r234.toInt64)), .second, .val (.int v20), .unset, .unset, .val (.int r235)]) (S' := [.int 5, .int r235]) (H' := ((.inr (.inl (false, scr)) : ACell) :: bk0 n0_roomsOfType n0_roomsAtLeast n0_firstRoomOfType n0_slotActive n0_slotType n0_slotArrive n0_slotNights n0_exactCount n0_atLeastCount n0_planRoom n0_planGrid n0_planOrder n0_totalRooms n0_activeStays n0_planOrderLength n0_planCurrent n0_planUnplaced [])) rfl ?_
      by_cases hc186 : (5 : Int32) < r235
      · simp only [if_pos hc186] at h
        refine OEndsQ.icmpF hm_0 rfl ((tlt hc186).2.2.2) ?_
        refine OEndsQ.adv hm_0 1 (pc' := 623) (L' := [.val (.ref 0), .val (.ref 1), .val (.int v2), .val (.int v3), .val (.long v4), .second, .val (.int v6), .val (.int v7), .val (.int v8), .val (.int v9), .val (.int v10), .val (.int v11), .unset, .unset, .unset, .unset, .unset, .unset, .val (.long (((v18 + r232.toInt64) + r233.toInt64) + r234.toInt64)), .second, .val (.int v20), .unset, .unset, .val (.int r235)]) (S' := [.int 0]) (H' := ((.inr (.inl (false, scr)) : ACell) :: bk0 n0_roomsOfType n0_roomsAtLeast n0_firstRoomOfType n0_slotActive n0_slotType n0_slotArrive n0_slotNights n0_exactCount n0_atLeastCount n0_planRoom n0_planGrid n0_planOrder n0_totalRooms n0_activeStays n0_planOrderLength n0_planCurrent n0_planUnplaced [])) rfl ?_
        cases h
        exact OEndsQ.iret hm_0 rfl rfl
      · simp only [if_neg hc186] at h
        refine OEndsQ.icmpT hm_0 rfl (q := 624) rfl ((flt hc186).2.2.2) ?_
        refine OEndsQ.adv hm_0 2 (pc' := 514) (L' := [.val (.ref 0), .val (.ref 1), .val (.int v2), .val (.int v3), .val (.long v4), .second, .val (.int v6), .val (.int v7), .val (.int v8), .val (.int v9), .val (.int v10), .val (.int v11), .unset, .unset, .unset, .unset, .unset, .unset, .val (.long (((v18 + r232.toInt64) + r233.toInt64) + r234.toInt64)), .second, .val (.int (v20 + (1 : Int32))), .unset, .unset, .val (.int r235)]) (S' := []) (H' := ((.inr (.inl (false, scr)) : ACell) :: bk0 n0_roomsOfType n0_roomsAtLeast n0_firstRoomOfType n0_slotActive n0_slotType n0_slotArrive n0_slotNights n0_exactCount n0_atLeastCount n0_planRoom n0_planGrid n0_planOrder n0_totalRooms n0_activeStays n0_planOrderLength n0_planCurrent n0_planUnplaced [])) rfl ?_
        exact hkb h
  · simp only [if_neg hc180] at h
    refine OEndsQ.icmpF hm_0 rfl ((feq hc180).1) ?_
    refine OEndsQ.adv hm_0 1 (pc' := 562) (L' := [.val (.ref 0), .val (.ref 1), .val (.int v2), .val (.int v3), .val (.long v4), .second, .val (.int v6), .val (.int v7), .val (.int v8), .val (.int v9), .val (.int v10), .val (.int v11), .unset, .unset, .unset, .unset, .unset, .unset, .val (.long v18), .second, .val (.int v20), .unset, .unset, .unset]) (S' := [.int 0]) (H' := ((.inr (.inl (false, scr)) : ACell) :: bk0 n0_roomsOfType n0_roomsAtLeast n0_firstRoomOfType n0_slotActive n0_slotType n0_slotArrive n0_slotNights n0_exactCount n0_atLeastCount n0_planRoom n0_planGrid n0_planOrder n0_totalRooms n0_activeStays n0_planOrderLength n0_planCurrent n0_planUnplaced [])) rfl ?_
    cases h
    exact OEndsQ.iret hm_0 rfl rfl
theorem ok_L_law_535 {scr : List Int32} {kb : List Int32 → List Int32 → List Int32 → List Int32 → List Int32 → List Int32 → List Int32 → List Int32 → List Int32 → List Int32 → List Int32 → Int32 → Int32 → Int32 → Int32 → Int32 → Int32 → Int32 → Int64 → Int32 → Int32 → Int32 → Int32 → Int32 → Int32 → Int64 → Int32 → Option (Int32)} {k630 : List Int32 → List Int32 → List Int32 → List Int32 → List Int32 → List Int32 → List Int32 → List Int32 → List Int32 → List Int32 → List Int32 → Int32 → Int32 → Int32 → Int32 → Int32 → Int32 → Int32 → Int64 → Int32 → Int32 → Int32 → Int32 → Int32 → Int32 → Int64 → Option (Int32)} (hkb : ∀ {n0_roomsAtLeast : List Int32} {n0_firstRoomOfType : List Int32} {n0_slotActive : List Int32} {n0_slotType : List Int32} {n0_slotArrive : List Int32} {n0_slotNights : List Int32} {n0_exactCount : List Int32} {n0_atLeastCount : List Int32} {n0_planRoom : List Int32} {n0_planGrid : List Int32} {n0_planOrder : List Int32} {n0_totalRooms : Int32} {n0_activeStays : Int32} {n0_planOrderLength : Int32} {n0_planCurrent : Int32} {n0_planUnplaced : Int32} {v2 : Int32} {v3 : Int32} {v4 : Int64} {v6 : Int32} {v7 : Int32} {v8 : Int32} {v9 : Int32} {v10 : Int32} {v11 : Int32} {v18 : Int64} {v20 : Int32} {n0_roomsOfType : List Int32} {d12 d13 d14 d15 d16 d17 d21 d22 d23 : Slot} {res : Int32}, kb n0_roomsAtLeast n0_firstRoomOfType n0_slotActive n0_slotType n0_slotArrive n0_slotNights n0_exactCount n0_atLeastCount n0_planRoom n0_planGrid n0_planOrder n0_totalRooms n0_activeStays n0_planOrderLength n0_planCurrent n0_planUnplaced v2 v3 v4 v6 v7 v8 v9 v10 v11 v18 v20 = some res → OEndsQ own_P 0 514 [.val (.ref 0), .val (.ref 1), .val (.int v2), .val (.int v3), .val (.long v4), .second, .val (.int v6), .val (.int v7), .val (.int v8), .val (.int v9), .val (.int v10), .val (.int v11), d12, d13, d14, d15, d16, d17, .val (.long v18), .second, .val (.int v20), d21, d22, d23] [] ((.inr (.inl (false, scr)) : ACell) :: bk0 n0_roomsOfType n0_roomsAtLeast n0_firstRoomOfType n0_slotActive n0_slotType n0_slotArrive n0_slotNights n0_exactCount n0_atLeastCount n0_planRoom n0_planGrid n0_planOrder n0_totalRooms n0_activeStays n0_planOrderLength n0_planCurrent n0_planUnplaced []) (LawQ res 0 0)) (hk630 : ∀ {n0_roomsAtLeast : List Int32} {n0_firstRoomOfType : List Int32} {n0_slotActive : List Int32} {n0_slotType : List Int32} {n0_slotArrive : List Int32} {n0_slotNights : List Int32} {n0_exactCount : List Int32} {n0_atLeastCount : List Int32} {n0_planRoom : List Int32} {n0_planGrid : List Int32} {n0_planOrder : List Int32} {n0_totalRooms : Int32} {n0_activeStays : Int32} {n0_planOrderLength : Int32} {n0_planCurrent : Int32} {n0_planUnplaced : Int32} {v2 : Int32} {v3 : Int32} {v4 : Int64} {v6 : Int32} {v7 : Int32} {v8 : Int32} {v9 : Int32} {v10 : Int32} {v11 : Int32} {v18 : Int64} {n0_roomsOfType : List Int32} {d12 d13 d14 d15 d16 d17 d20 d21 d22 d23 : Slot} {res : Int32}, k630 n0_roomsAtLeast n0_firstRoomOfType n0_slotActive n0_slotType n0_slotArrive n0_slotNights n0_exactCount n0_atLeastCount n0_planRoom n0_planGrid n0_planOrder n0_totalRooms n0_activeStays n0_planOrderLength n0_planCurrent n0_planUnplaced v2 v3 v4 v6 v7 v8 v9 v10 v11 v18 = some res → OEndsQ own_P 0 630 [.val (.ref 0), .val (.ref 1), .val (.int v2), .val (.int v3), .val (.long v4), .second, .val (.int v6), .val (.int v7), .val (.int v8), .val (.int v9), .val (.int v10), .val (.int v11), d12, d13, d14, d15, d16, d17, .val (.long v18), .second, d20, d21, d22, d23] [] ((.inr (.inl (false, scr)) : ACell) :: bk0 n0_roomsOfType n0_roomsAtLeast n0_firstRoomOfType n0_slotActive n0_slotType n0_slotArrive n0_slotNights n0_exactCount n0_atLeastCount n0_planRoom n0_planGrid n0_planOrder n0_totalRooms n0_activeStays n0_planOrderLength n0_planCurrent n0_planUnplaced []) (LawQ res 0 0)) : ∀ {n0_roomsAtLeast : List Int32} {n0_firstRoomOfType : List Int32} {n0_slotActive : List Int32} {n0_slotType : List Int32} {n0_slotArrive : List Int32} {n0_slotNights : List Int32} {n0_exactCount : List Int32} {n0_atLeastCount : List Int32} {n0_planRoom : List Int32} {n0_planGrid : List Int32} {n0_planOrder : List Int32} {n0_totalRooms : Int32} {n0_activeStays : Int32} {n0_planOrderLength : Int32} {n0_planCurrent : Int32} {n0_planUnplaced : Int32} {v2 : Int32} {v3 : Int32} {v4 : Int64} {v6 : Int32} {v7 : Int32} {v8 : Int32} {v9 : Int32} {v10 : Int32} {v11 : Int32} {v18 : Int64} {v20 : Int32} {t0 : Int32} {n0_roomsOfType : List Int32} {d12 d13 d14 d15 d16 d17 d21 d22 d23 : Slot} {res : Int32}, f_L_law_535 kb k630 scr n0_roomsAtLeast n0_firstRoomOfType n0_slotActive n0_slotType n0_slotArrive n0_slotNights n0_exactCount n0_atLeastCount n0_planRoom n0_planGrid n0_planOrder n0_totalRooms n0_activeStays n0_planOrderLength n0_planCurrent n0_planUnplaced v2 v3 v4 v6 v7 v8 v9 v10 v11 v18 v20 t0 = some res → OEndsQ own_P 0 535 [.val (.ref 0), .val (.ref 1), .val (.int v2), .val (.int v3), .val (.long v4), .second, .val (.int v6), .val (.int v7), .val (.int v8), .val (.int v9), .val (.int v10), .val (.int v11), d12, d13, d14, d15, d16, d17, .val (.long v18), .second, .val (.int v20), d21, d22, d23] [.int t0] ((.inr (.inl (false, scr)) : ACell) :: bk0 n0_roomsOfType n0_roomsAtLeast n0_firstRoomOfType n0_slotActive n0_slotType n0_slotArrive n0_slotNights n0_exactCount n0_atLeastCount n0_planRoom n0_planGrid n0_planOrder n0_totalRooms n0_activeStays n0_planOrderLength n0_planCurrent n0_planUnplaced []) (LawQ res 0 0) := by
  intro n0_roomsAtLeast n0_firstRoomOfType n0_slotActive n0_slotType n0_slotArrive n0_slotNights n0_exactCount n0_atLeastCount n0_planRoom n0_planGrid n0_planOrder n0_totalRooms n0_activeStays n0_planOrderLength n0_planCurrent n0_planUnplaced v2 v3 v4 v6 v7 v8 v9 v10 v11 v18 v20 t0 n0_roomsOfType d12 d13 d14 d15 d16 d17 d21 d22 d23 res h
  unfold f_L_law_535 at h
  refine OEndsQ.adv hm_0 3 (pc' := 540) (L' := [.val (.ref 0), .val (.ref 1), .val (.int v2), .val (.int v3), .val (.long v4), .second, .val (.int v6), .val (.int v7), .val (.int v8), .val (.int v9), .val (.int v10), .val (.int v11), .unset, .unset, .unset, .unset, .unset, .unset, .val (.long v18), .second, .val (.int v20), .val (.int t0), .unset, .unset]) (S' := [.int v20, .ref 1]) (H' := ((.inr (.inl (false, scr)) : ACell) :: bk0 n0_roomsOfType n0_roomsAtLeast n0_firstRoomOfType n0_slotActive n0_slotType n0_slotArrive n0_slotNights n0_exactCount n0_atLeastCount n0_planRoom n0_planGrid n0_planOrder n0_totalRooms n0_activeStays n0_planOrderLength n0_planCurrent n0_planUnplaced [])) rfl ?_
  obtain ⟨r231, hq187, h⟩ := bnd h
  refine OEndsQ.call0 hm_0 rfl rfl (by decide) rfl (as := [.ref 1, .int v20]) (rest := []) rfl rfl (ok_stayType hq187) ?_
  refine OEndsQ.adv hm_0 4 (pc' := 550) (L' := [.val (.ref 0), .val (.ref 1), .val (.int v2), .val (.int v3), .val (.long v4), .second, .val (.int v6), .val (.int v7), .val (.int v8), .val (.int v9), .val (.int v10), .val (.int v11), .unset, .unset, .unset, .unset, .unset, .unset, .val (.long v18), .second, .val (.int v20), .val (.int t0), .val (.int r231), .unset]) (S' := [.int (-1), .int r231, .int t0]) (H' := ((.inr (.inl (false, scr)) : ACell) :: bk0 n0_roomsOfType n0_roomsAtLeast n0_firstRoomOfType n0_slotActive n0_slotType n0_slotArrive n0_slotNights n0_exactCount n0_atLeastCount n0_planRoom n0_planGrid n0_planOrder n0_totalRooms n0_activeStays n0_planOrderLength n0_planCurrent n0_planUnplaced [])) rfl ?_
  by_cases hc188 : r231 = (-1 : Int32)
  · simp only [if_pos hc188] at h
    refine OEndsQ.icmpT hm_0 rfl (q := 557) rfl ((teq hc188).1) ?_
    refine OEndsQ.adv hm_0 1 (pc' := 558) (L' := [.val (.ref 0), .val (.ref 1), .val (.int v2), .val (.int v3), .val (.long v4), .second, .val (.int v6), .val (.int v7), .val (.int v8), .val (.int v9), .val (.int v10), .val (.int v11), .unset, .unset, .unset, .unset, .unset, .unset, .val (.long v18), .second, .val (.int v20), .val (.int t0), .val (.int r231), .unset]) (S' := [.int 0, .int t0]) (H' := ((.inr (.inl (false, scr)) : ACell) :: bk0 n0_roomsOfType n0_roomsAtLeast n0_firstRoomOfType n0_slotActive n0_slotType n0_slotArrive n0_slotNights n0_exactCount n0_atLeastCount n0_planRoom n0_planGrid n0_planOrder n0_totalRooms n0_activeStays n0_planOrderLength n0_planCurrent n0_planUnplaced [])) rfl ?_
    exact ok_L_law_558 hkb hk630 h
  · simp only [if_neg hc188] at h
    refine OEndsQ.icmpF hm_0 rfl ((feq hc188).1) ?_
    refine OEndsQ.adv hm_0 2 (pc' := 558) (L' := [.val (.ref 0), .val (.ref 1), .val (.int v2), .val (.int v3), .val (.long v4), .second, .val (.int v6), .val (.int v7), .val (.int v8), .val (.int v9), .val (.int v10), .val (.int v11), .unset, .unset, .unset, .unset, .unset, .unset, .val (.long v18), .second, .val (.int v20), .val (.int t0), .val (.int r231), .unset]) (S' := [.int 1, .int t0]) (H' := ((.inr (.inl (false, scr)) : ACell) :: bk0 n0_roomsOfType n0_roomsAtLeast n0_firstRoomOfType n0_slotActive n0_slotType n0_slotArrive n0_slotNights n0_exactCount n0_atLeastCount n0_planRoom n0_planGrid n0_planOrder n0_totalRooms n0_activeStays n0_planOrderLength n0_planCurrent n0_planUnplaced [])) rfl ?_
    exact ok_L_law_558 hkb hk630 h
theorem ok_L_law_514 {scr : List Int32} {k630 : List Int32 → List Int32 → List Int32 → List Int32 → List Int32 → List Int32 → List Int32 → List Int32 → List Int32 → List Int32 → List Int32 → Int32 → Int32 → Int32 → Int32 → Int32 → Int32 → Int32 → Int64 → Int32 → Int32 → Int32 → Int32 → Int32 → Int32 → Int64 → Option (Int32)} (hk630 : ∀ {n0_roomsAtLeast : List Int32} {n0_firstRoomOfType : List Int32} {n0_slotActive : List Int32} {n0_slotType : List Int32} {n0_slotArrive : List Int32} {n0_slotNights : List Int32} {n0_exactCount : List Int32} {n0_atLeastCount : List Int32} {n0_planRoom : List Int32} {n0_planGrid : List Int32} {n0_planOrder : List Int32} {n0_totalRooms : Int32} {n0_activeStays : Int32} {n0_planOrderLength : Int32} {n0_planCurrent : Int32} {n0_planUnplaced : Int32} {v2 : Int32} {v3 : Int32} {v4 : Int64} {v6 : Int32} {v7 : Int32} {v8 : Int32} {v9 : Int32} {v10 : Int32} {v11 : Int32} {v18 : Int64} {n0_roomsOfType : List Int32} {d12 d13 d14 d15 d16 d17 d20 d21 d22 d23 : Slot} {res : Int32}, k630 n0_roomsAtLeast n0_firstRoomOfType n0_slotActive n0_slotType n0_slotArrive n0_slotNights n0_exactCount n0_atLeastCount n0_planRoom n0_planGrid n0_planOrder n0_totalRooms n0_activeStays n0_planOrderLength n0_planCurrent n0_planUnplaced v2 v3 v4 v6 v7 v8 v9 v10 v11 v18 = some res → OEndsQ own_P 0 630 [.val (.ref 0), .val (.ref 1), .val (.int v2), .val (.int v3), .val (.long v4), .second, .val (.int v6), .val (.int v7), .val (.int v8), .val (.int v9), .val (.int v10), .val (.int v11), d12, d13, d14, d15, d16, d17, .val (.long v18), .second, d20, d21, d22, d23] [] ((.inr (.inl (false, scr)) : ACell) :: bk0 n0_roomsOfType n0_roomsAtLeast n0_firstRoomOfType n0_slotActive n0_slotType n0_slotArrive n0_slotNights n0_exactCount n0_atLeastCount n0_planRoom n0_planGrid n0_planOrder n0_totalRooms n0_activeStays n0_planOrderLength n0_planCurrent n0_planUnplaced []) (LawQ res 0 0)) : ∀ (n : Nat), ∀ {n0_roomsAtLeast : List Int32} {n0_firstRoomOfType : List Int32} {n0_slotActive : List Int32} {n0_slotType : List Int32} {n0_slotArrive : List Int32} {n0_slotNights : List Int32} {n0_exactCount : List Int32} {n0_atLeastCount : List Int32} {n0_planRoom : List Int32} {n0_planGrid : List Int32} {n0_planOrder : List Int32} {n0_totalRooms : Int32} {n0_activeStays : Int32} {n0_planOrderLength : Int32} {n0_planCurrent : Int32} {n0_planUnplaced : Int32} {v2 : Int32} {v3 : Int32} {v4 : Int64} {v6 : Int32} {v7 : Int32} {v8 : Int32} {v9 : Int32} {v10 : Int32} {v11 : Int32} {v18 : Int64} {v20 : Int32} {n0_roomsOfType : List Int32} {d12 d13 d14 d15 d16 d17 d21 d22 d23 : Slot} {res : Int32}, f_L_law_514 k630 scr n n0_roomsAtLeast n0_firstRoomOfType n0_slotActive n0_slotType n0_slotArrive n0_slotNights n0_exactCount n0_atLeastCount n0_planRoom n0_planGrid n0_planOrder n0_totalRooms n0_activeStays n0_planOrderLength n0_planCurrent n0_planUnplaced v2 v3 v4 v6 v7 v8 v9 v10 v11 v18 v20 = some res → OEndsQ own_P 0 514 [.val (.ref 0), .val (.ref 1), .val (.int v2), .val (.int v3), .val (.long v4), .second, .val (.int v6), .val (.int v7), .val (.int v8), .val (.int v9), .val (.int v10), .val (.int v11), d12, d13, d14, d15, d16, d17, .val (.long v18), .second, .val (.int v20), d21, d22, d23] [] ((.inr (.inl (false, scr)) : ACell) :: bk0 n0_roomsOfType n0_roomsAtLeast n0_firstRoomOfType n0_slotActive n0_slotType n0_slotArrive n0_slotNights n0_exactCount n0_atLeastCount n0_planRoom n0_planGrid n0_planOrder n0_totalRooms n0_activeStays n0_planOrderLength n0_planCurrent n0_planUnplaced []) (LawQ res 0 0) := by
  intro n
  induction n with
  | zero => intro n0_roomsAtLeast n0_firstRoomOfType n0_slotActive n0_slotType n0_slotArrive n0_slotNights n0_exactCount n0_atLeastCount n0_planRoom n0_planGrid n0_planOrder n0_totalRooms n0_activeStays n0_planOrderLength n0_planCurrent n0_planUnplaced v2 v3 v4 v6 v7 v8 v9 v10 v11 v18 v20 n0_roomsOfType d12 d13 d14 d15 d16 d17 d21 d22 d23 res h; cases h
  | succ n ih =>
    intro n0_roomsAtLeast n0_firstRoomOfType n0_slotActive n0_slotType n0_slotArrive n0_slotNights n0_exactCount n0_atLeastCount n0_planRoom n0_planGrid n0_planOrder n0_totalRooms n0_activeStays n0_planOrderLength n0_planCurrent n0_planUnplaced v2 v3 v4 v6 v7 v8 v9 v10 v11 v18 v20 n0_roomsOfType d12 d13 d14 d15 d16 d17 d21 d22 d23 res h
    unfold f_L_law_514 at h
    refine OEndsQ.adv hm_0 2 (pc' := 518) (L' := [.val (.ref 0), .val (.ref 1), .val (.int v2), .val (.int v3), .val (.long v4), .second, .val (.int v6), .val (.int v7), .val (.int v8), .val (.int v9), .val (.int v10), .val (.int v11), .unset, .unset, .unset, .unset, .unset, .unset, .val (.long v18), .second, .val (.int v20), .unset, .unset, .unset]) (S' := [.int 32, .int v20]) (H' := ((.inr (.inl (false, scr)) : ACell) :: bk0 n0_roomsOfType n0_roomsAtLeast n0_firstRoomOfType n0_slotActive n0_slotType n0_slotArrive n0_slotNights n0_exactCount n0_atLeastCount n0_planRoom n0_planGrid n0_planOrder n0_totalRooms n0_activeStays n0_planOrderLength n0_planCurrent n0_planUnplaced [])) rfl ?_
    by_cases hc189 : v20 < (32 : Int32)
    · simp only [if_pos hc189] at h
      refine OEndsQ.icmpF hm_0 rfl ((tlt hc189).2.1) ?_
      refine OEndsQ.adv hm_0 5 (pc' := 527) (L' := [.val (.ref 0), .val (.ref 1), .val (.int v2), .val (.int v3), .val (.long v4), .second, .val (.int v6), .val (.int v7), .val (.int v8), .val (.int v9), .val (.int v10), .val (.int v11), .unset, .unset, .unset, .unset, .unset, .unset, .val (.long v18), .second, .val (.int v20), .unset, .unset, .unset]) (S' := [.int ((XT.ushr v2 v20) &&& (1 : Int32))]) (H' := ((.inr (.inl (false, scr)) : ACell) :: bk0 n0_roomsOfType n0_roomsAtLeast n0_firstRoomOfType n0_slotActive n0_slotType n0_slotArrive n0_slotNights n0_exactCount n0_atLeastCount n0_planRoom n0_planGrid n0_planOrder n0_totalRooms n0_activeStays n0_planOrderLength n0_planCurrent n0_planUnplaced [])) rfl ?_
      by_cases hc190 : ((XT.ushr v2 v20) &&& (1 : Int32)) = (0 : Int32)
      · simp only [if_pos hc190] at h
        refine OEndsQ.ifT hm_0 rfl (q := 534) rfl ((teq hc190).1) ?_
        refine OEndsQ.adv hm_0 1 (pc' := 535) (L' := [.val (.ref 0), .val (.ref 1), .val (.int v2), .val (.int v3), .val (.long v4), .second, .val (.int v6), .val (.int v7), .val (.int v8), .val (.int v9), .val (.int v10), .val (.int v11), .unset, .unset, .unset, .unset, .unset, .unset, .val (.long v18), .second, .val (.int v20), .unset, .unset, .unset]) (S' := [.int 0]) (H' := ((.inr (.inl (false, scr)) : ACell) :: bk0 n0_roomsOfType n0_roomsAtLeast n0_firstRoomOfType n0_slotActive n0_slotType n0_slotArrive n0_slotNights n0_exactCount n0_atLeastCount n0_planRoom n0_planGrid n0_planOrder n0_totalRooms n0_activeStays n0_planOrderLength n0_planCurrent n0_planUnplaced [])) rfl ?_
        exact ok_L_law_535 ih hk630 h
      · simp only [if_neg hc190] at h
        refine OEndsQ.ifF hm_0 rfl ((feq hc190).1) ?_
        refine OEndsQ.adv hm_0 2 (pc' := 535) (L' := [.val (.ref 0), .val (.ref 1), .val (.int v2), .val (.int v3), .val (.long v4), .second, .val (.int v6), .val (.int v7), .val (.int v8), .val (.int v9), .val (.int v10), .val (.int v11), .unset, .unset, .unset, .unset, .unset, .unset, .val (.long v18), .second, .val (.int v20), .unset, .unset, .unset]) (S' := [.int 1]) (H' := ((.inr (.inl (false, scr)) : ACell) :: bk0 n0_roomsOfType n0_roomsAtLeast n0_firstRoomOfType n0_slotActive n0_slotType n0_slotArrive n0_slotNights n0_exactCount n0_atLeastCount n0_planRoom n0_planGrid n0_planOrder n0_totalRooms n0_activeStays n0_planOrderLength n0_planCurrent n0_planUnplaced [])) rfl ?_
        exact ok_L_law_535 ih hk630 h
    · simp only [if_neg hc189] at h
      refine OEndsQ.icmpT hm_0 rfl (q := 630) rfl ((flt hc189).2.1) ?_
      show OEndsQ own_P 0 630 [.val (.ref 0), .val (.ref 1), .val (.int v2), .val (.int v3), .val (.long v4), .second, .val (.int v6), .val (.int v7), .val (.int v8), .val (.int v9), .val (.int v10), .val (.int v11), .unset, .unset, .unset, .unset, .unset, .unset, .val (.long v18), .second, .val (.int v20), .unset, .unset, .unset] [] ((.inr (.inl (false, scr)) : ACell) :: bk0 n0_roomsOfType n0_roomsAtLeast n0_firstRoomOfType n0_slotActive n0_slotType n0_slotArrive n0_slotNights n0_exactCount n0_atLeastCount n0_planRoom n0_planGrid n0_planOrder n0_totalRooms n0_activeStays n0_planOrderLength n0_planCurrent n0_planUnplaced []) _
      exact hk630 h
theorem ok_L_law_155 {scr : List Int32} {kb : List Int32 → List Int32 → List Int32 → List Int32 → List Int32 → List Int32 → List Int32 → List Int32 → List Int32 → List Int32 → List Int32 → Int32 → Int32 → Int32 → Int32 → Int32 → Int32 → Int32 → Int64 → Int32 → Int32 → Int32 → Int32 → Int32 → Int32 → Option (Int32)} (hkb : ∀ {n0_roomsAtLeast : List Int32} {n0_firstRoomOfType : List Int32} {n0_slotActive : List Int32} {n0_slotType : List Int32} {n0_slotArrive : List Int32} {n0_slotNights : List Int32} {n0_exactCount : List Int32} {n0_atLeastCount : List Int32} {n0_planRoom : List Int32} {n0_planGrid : List Int32} {n0_planOrder : List Int32} {n0_totalRooms : Int32} {n0_activeStays : Int32} {n0_planOrderLength : Int32} {n0_planCurrent : Int32} {n0_planUnplaced : Int32} {v2 : Int32} {v3 : Int32} {v4 : Int64} {v6 : Int32} {v7 : Int32} {v8 : Int32} {v9 : Int32} {v10 : Int32} {v11 : Int32} {n0_roomsOfType : List Int32} {d12 d13 d14 d15 d16 d17 d18 d19 d20 d21 d22 d23 : Slot} {res : Int32}, kb n0_roomsAtLeast n0_firstRoomOfType n0_slotActive n0_slotType n0_slotArrive n0_slotNights n0_exactCount n0_atLeastCount n0_planRoom n0_planGrid n0_planOrder n0_totalRooms n0_activeStays n0_planOrderLength n0_planCurrent n0_planUnplaced v2 v3 v4 v6 v7 v8 v9 v10 v11 = some res → OEndsQ own_P 0 36 [.val (.ref 0), .val (.ref 1), .val (.int v2), .val (.int v3), .val (.long v4), .second, .val (.int v6), .val (.int v7), .val (.int v8), .val (.int v9), .val (.int v10), .val (.int v11), d12, d13, d14, d15, d16, d17, d18, d19, d20, d21, d22, d23] [] ((.inr (.inl (false, scr)) : ACell) :: bk0 n0_roomsOfType n0_roomsAtLeast n0_firstRoomOfType n0_slotActive n0_slotType n0_slotArrive n0_slotNights n0_exactCount n0_atLeastCount n0_planRoom n0_planGrid n0_planOrder n0_totalRooms n0_activeStays n0_planOrderLength n0_planCurrent n0_planUnplaced []) (LawQ res 0 0)) : ∀ {n0_roomsAtLeast : List Int32} {n0_firstRoomOfType : List Int32} {n0_slotActive : List Int32} {n0_slotType : List Int32} {n0_slotArrive : List Int32} {n0_slotNights : List Int32} {n0_exactCount : List Int32} {n0_atLeastCount : List Int32} {n0_planRoom : List Int32} {n0_planGrid : List Int32} {n0_planOrder : List Int32} {n0_totalRooms : Int32} {n0_activeStays : Int32} {n0_planOrderLength : Int32} {n0_planCurrent : Int32} {n0_planUnplaced : Int32} {v2 : Int32} {v3 : Int32} {v4 : Int64} {v6 : Int32} {v7 : Int32} {v8 : Int32} {v9 : Int32} {v10 : Int32} {v11 : Int32} {v13 : Int32} {v14 : Int32} {v15 : Int32} {v19 : Int32} {t0 : Int32} {t1 : Int32} {n0_roomsOfType : List Int32} {d12 d16 d17 d18 d20 d21 d22 d23 : Slot} {res : Int32}, f_L_law_155 kb scr n0_roomsAtLeast n0_firstRoomOfType n0_slotActive n0_slotType n0_slotArrive n0_slotNights n0_exactCount n0_atLeastCount n0_planRoom n0_planGrid n0_planOrder n0_totalRooms n0_activeStays n0_planOrderLength n0_planCurrent n0_planUnplaced v2 v3 v4 v6 v7 v8 v9 v10 v11 v13 v14 v15 v19 t0 t1 = some res → OEndsQ own_P 0 155 [.val (.ref 0), .val (.ref 1), .val (.int v2), .val (.int v3), .val (.long v4), .second, .val (.int v6), .val (.int v7), .val (.int v8), .val (.int v9), .val (.int v10), .val (.int v11), d12, .val (.int v13), .val (.int v14), .val (.int v15), d16, d17, d18, .val (.int v19), d20, d21, d22, d23] [.int t0, .int t1] ((.inr (.inl (false, scr)) : ACell) :: bk0 n0_roomsOfType n0_roomsAtLeast n0_firstRoomOfType n0_slotActive n0_slotType n0_slotArrive n0_slotNights n0_exactCount n0_atLeastCount n0_planRoom n0_planGrid n0_planOrder n0_totalRooms n0_activeStays n0_planOrderLength n0_planCurrent n0_planUnplaced []) (LawQ res 0 0) := by
  intro n0_roomsAtLeast n0_firstRoomOfType n0_slotActive n0_slotType n0_slotArrive n0_slotNights n0_exactCount n0_atLeastCount n0_planRoom n0_planGrid n0_planOrder n0_totalRooms n0_activeStays n0_planOrderLength n0_planCurrent n0_planUnplaced v2 v3 v4 v6 v7 v8 v9 v10 v11 v13 v14 v15 v19 t0 t1 n0_roomsOfType d12 d16 d17 d18 d20 d21 d22 d23 res h
  unfold f_L_law_155 at h
  by_cases hc191 : t1 = t0
  · simp only [if_pos hc191] at h
    refine OEndsQ.icmpT hm_0 rfl (q := 160) rfl ((teq hc191).1) ?_
    refine OEndsQ.adv hm_0 2 (pc' := 163) (L' := [.val (.ref 0), .val (.ref 1), .val (.int v2), .val (.int v3), .val (.long v4), .second, .val (.int v6), .val (.int v7), .val (.int v8), .val (.int v9), .val (.int v10), .val (.int v11), .unset, .val (.int v13), .val (.int v14), .val (.int v15), .unset, .unset, .unset, .val (.int v19), .unset, .unset, .unset, .unset]) (S' := [.int 3, .int v13]) (H' := ((.inr (.inl (false, scr)) : ACell) :: bk0 n0_roomsOfType n0_roomsAtLeast n0_firstRoomOfType n0_slotActive n0_slotType n0_slotArrive n0_slotNights n0_exactCount n0_atLeastCount n0_planRoom n0_planGrid n0_planOrder n0_totalRooms n0_activeStays n0_planOrderLength n0_planCurrent n0_planUnplaced [])) rfl ?_
    by_cases hc192 : v13 = (3 : Int32)
    · simp only [if_pos hc192] at h
      refine OEndsQ.icmpF hm_0 rfl ((teq hc192).2) ?_
      refine OEndsQ.adv hm_0 2 (pc' := 169) (L' := [.val (.ref 0), .val (.ref 1), .val (.int v2), .val (.int v3), .val (.long v4), .second, .val (.int v6), .val (.int v7), .val (.int v8), .val (.int v9), .val (.int v10), .val (.int v11), .unset, .val (.int v13), .val (.int v14), .val (.int v15), .unset, .unset, .unset, .val (.int v19), .unset, .unset, .unset, .unset]) (S' := [.int (-1), .int v19]) (H' := ((.inr (.inl (false, scr)) : ACell) :: bk0 n0_roomsOfType n0_roomsAtLeast n0_firstRoomOfType n0_slotActive n0_slotType n0_slotArrive n0_slotNights n0_exactCount n0_atLeastCount n0_planRoom n0_planGrid n0_planOrder n0_totalRooms n0_activeStays n0_planOrderLength n0_planCurrent n0_planUnplaced [])) rfl ?_
      by_cases hc193 : v19 = (-1 : Int32)
      · simp only [if_pos hc193] at h
        refine OEndsQ.icmpT hm_0 rfl (q := 273) rfl ((teq hc193).1) ?_
        refine OEndsQ.adv hm_0 5 (pc' := 514) (L' := [.val (.ref 0), .val (.ref 1), .val (.int v2), .val (.int v3), .val (.long v4), .second, .val (.int v6), .val (.int v7), .val (.int v8), .val (.int v9), .val (.int v10), .val (.int v11), .unset, .val (.int v13), .val (.int v14), .val (.int v15), .unset, .unset, .val (.long 0), .second, .val (.int 0), .unset, .unset, .unset]) (S' := []) (H' := ((.inr (.inl (false, scr)) : ACell) :: bk0 n0_roomsOfType n0_roomsAtLeast n0_firstRoomOfType n0_slotActive n0_slotType n0_slotArrive n0_slotNights n0_exactCount n0_atLeastCount n0_planRoom n0_planGrid n0_planOrder n0_totalRooms n0_activeStays n0_planOrderLength n0_planCurrent n0_planUnplaced [])) rfl ?_
        exact ok_L_law_514 (k630 := f_L_law_630 kb scr) (ok_L_law_630 hkb) 100000 h
      · simp only [if_neg hc193] at h
        refine OEndsQ.icmpF hm_0 rfl ((feq hc193).1) ?_
        refine OEndsQ.adv hm_0 1 (pc' := 173) (L' := [.val (.ref 0), .val (.ref 1), .val (.int v2), .val (.int v3), .val (.long v4), .second, .val (.int v6), .val (.int v7), .val (.int v8), .val (.int v9), .val (.int v10), .val (.int v11), .unset, .val (.int v13), .val (.int v14), .val (.int v15), .unset, .unset, .unset, .val (.int v19), .unset, .unset, .unset, .unset]) (S' := [.int 0]) (H' := ((.inr (.inl (false, scr)) : ACell) :: bk0 n0_roomsOfType n0_roomsAtLeast n0_firstRoomOfType n0_slotActive n0_slotType n0_slotArrive n0_slotNights n0_exactCount n0_atLeastCount n0_planRoom n0_planGrid n0_planOrder n0_totalRooms n0_activeStays n0_planOrderLength n0_planCurrent n0_planUnplaced [])) rfl ?_
        cases h
        exact OEndsQ.iret hm_0 rfl rfl
    · simp only [if_neg hc192] at h
      refine OEndsQ.icmpT hm_0 rfl (q := 174) rfl ((feq hc192).2) ?_
      refine OEndsQ.adv hm_0 4 (pc' := 181) (L' := [.val (.ref 0), .val (.ref 1), .val (.int v2), .val (.int v3), .val (.long v4), .second, .val (.int v6), .val (.int v7), .val (.int v8), .val (.int v9), .val (.int v10), .val (.int v11), .unset, .val (.int v13), .val (.int v14), .val (.int v15), .unset, .unset, .unset, .val (.int v19), .unset, .unset, .unset, .unset]) (S' := [.int ((32 : Int32) - v14), .int v15]) (H' := ((.inr (.inl (false, scr)) : ACell) :: bk0 n0_roomsOfType n0_roomsAtLeast n0_firstRoomOfType n0_slotActive n0_slotType n0_slotArrive n0_slotNights n0_exactCount n0_atLeastCount n0_planRoom n0_planGrid n0_planOrder n0_totalRooms n0_activeStays n0_planOrderLength n0_planCurrent n0_planUnplaced [])) rfl ?_
      by_cases hc194 : ((32 : Int32) - v14) < v15
      · simp only [if_pos hc194] at h
        refine OEndsQ.icmpF hm_0 rfl ((tlt hc194).2.2.2) ?_
        refine OEndsQ.adv hm_0 2 (pc' := 188) (L' := [.val (.ref 0), .val (.ref 1), .val (.int v2), .val (.int v3), .val (.long v4), .second, .val (.int v6), .val (.int v7), .val (.int v8), .val (.int v9), .val (.int v10), .val (.int v11), .unset, .val (.int v13), .val (.int v14), .val (.int v15), .unset, .unset, .unset, .val (.int v19), .unset, .unset, .unset, .unset]) (S' := [.int (-2), .int v19]) (H' := ((.inr (.inl (false, scr)) : ACell) :: bk0 n0_roomsOfType n0_roomsAtLeast n0_firstRoomOfType n0_slotActive n0_slotType n0_slotArrive n0_slotNights n0_exactCount n0_atLeastCount n0_planRoom n0_planGrid n0_planOrder n0_totalRooms n0_activeStays n0_planOrderLength n0_planCurrent n0_planUnplaced [])) rfl ?_
        by_cases hc195 : v19 = (-2 : Int32)
        · simp only [if_pos hc195] at h
          refine OEndsQ.icmpT hm_0 rfl (q := 273) rfl ((teq hc195).1) ?_
          refine OEndsQ.adv hm_0 5 (pc' := 514) (L' := [.val (.ref 0), .val (.ref 1), .val (.int v2), .val (.int v3), .val (.long v4), .second, .val (.int v6), .val (.int v7), .val (.int v8), .val (.int v9), .val (.int v10), .val (.int v11), .unset, .val (.int v13), .val (.int v14), .val (.int v15), .unset, .unset, .val (.long 0), .second, .val (.int 0), .unset, .unset, .unset]) (S' := []) (H' := ((.inr (.inl (false, scr)) : ACell) :: bk0 n0_roomsOfType n0_roomsAtLeast n0_firstRoomOfType n0_slotActive n0_slotType n0_slotArrive n0_slotNights n0_exactCount n0_atLeastCount n0_planRoom n0_planGrid n0_planOrder n0_totalRooms n0_activeStays n0_planOrderLength n0_planCurrent n0_planUnplaced [])) rfl ?_
          exact ok_L_law_514 (k630 := f_L_law_630 kb scr) (ok_L_law_630 hkb) 100000 h
        · simp only [if_neg hc195] at h
          refine OEndsQ.icmpF hm_0 rfl ((feq hc195).1) ?_
          refine OEndsQ.adv hm_0 1 (pc' := 192) (L' := [.val (.ref 0), .val (.ref 1), .val (.int v2), .val (.int v3), .val (.long v4), .second, .val (.int v6), .val (.int v7), .val (.int v8), .val (.int v9), .val (.int v10), .val (.int v11), .unset, .val (.int v13), .val (.int v14), .val (.int v15), .unset, .unset, .unset, .val (.int v19), .unset, .unset, .unset, .unset]) (S' := [.int 0]) (H' := ((.inr (.inl (false, scr)) : ACell) :: bk0 n0_roomsOfType n0_roomsAtLeast n0_firstRoomOfType n0_slotActive n0_slotType n0_slotArrive n0_slotNights n0_exactCount n0_atLeastCount n0_planRoom n0_planGrid n0_planOrder n0_totalRooms n0_activeStays n0_planOrderLength n0_planCurrent n0_planUnplaced [])) rfl ?_
          cases h
          exact OEndsQ.iret hm_0 rfl rfl
      · simp only [if_neg hc194] at h
        refine OEndsQ.icmpT hm_0 rfl (q := 193) rfl ((flt hc194).2.2.2) ?_
        refine OEndsQ.adv hm_0 2 (pc' := 196) (L' := [.val (.ref 0), .val (.ref 1), .val (.int v2), .val (.int v3), .val (.long v4), .second, .val (.int v6), .val (.int v7), .val (.int v8), .val (.int v9), .val (.int v10), .val (.int v11), .unset, .val (.int v13), .val (.int v14), .val (.int v15), .unset, .unset, .unset, .val (.int v19), .unset, .unset, .unset, .unset]) (S' := [.int 32, .int v3]) (H' := ((.inr (.inl (false, scr)) : ACell) :: bk0 n0_roomsOfType n0_roomsAtLeast n0_firstRoomOfType n0_slotActive n0_slotType n0_slotArrive n0_slotNights n0_exactCount n0_atLeastCount n0_planRoom n0_planGrid n0_planOrder n0_totalRooms n0_activeStays n0_planOrderLength n0_planCurrent n0_planUnplaced [])) rfl ?_
        by_cases hc196 : v3 = (32 : Int32)
        · simp only [if_pos hc196] at h
          refine OEndsQ.icmpF hm_0 rfl ((teq hc196).2) ?_
          refine OEndsQ.adv hm_0 2 (pc' := 203) (L' := [.val (.ref 0), .val (.ref 1), .val (.int v2), .val (.int v3), .val (.long v4), .second, .val (.int v6), .val (.int v7), .val (.int v8), .val (.int v9), .val (.int v10), .val (.int v11), .unset, .val (.int v13), .val (.int v14), .val (.int v15), .unset, .unset, .unset, .val (.int v19), .unset, .unset, .unset, .unset]) (S' := [.int (-3), .int v19]) (H' := ((.inr (.inl (false, scr)) : ACell) :: bk0 n0_roomsOfType n0_roomsAtLeast n0_firstRoomOfType n0_slotActive n0_slotType n0_slotArrive n0_slotNights n0_exactCount n0_atLeastCount n0_planRoom n0_planGrid n0_planOrder n0_totalRooms n0_activeStays n0_planOrderLength n0_planCurrent n0_planUnplaced [])) rfl ?_
          by_cases hc197 : v19 = (-3 : Int32)
          · simp only [if_pos hc197] at h
            refine OEndsQ.icmpT hm_0 rfl (q := 273) rfl ((teq hc197).1) ?_
            refine OEndsQ.adv hm_0 5 (pc' := 514) (L' := [.val (.ref 0), .val (.ref 1), .val (.int v2), .val (.int v3), .val (.long v4), .second, .val (.int v6), .val (.int v7), .val (.int v8), .val (.int v9), .val (.int v10), .val (.int v11), .unset, .val (.int v13), .val (.int v14), .val (.int v15), .unset, .unset, .val (.long 0), .second, .val (.int 0), .unset, .unset, .unset]) (S' := []) (H' := ((.inr (.inl (false, scr)) : ACell) :: bk0 n0_roomsOfType n0_roomsAtLeast n0_firstRoomOfType n0_slotActive n0_slotType n0_slotArrive n0_slotNights n0_exactCount n0_atLeastCount n0_planRoom n0_planGrid n0_planOrder n0_totalRooms n0_activeStays n0_planOrderLength n0_planCurrent n0_planUnplaced [])) rfl ?_
            exact ok_L_law_514 (k630 := f_L_law_630 kb scr) (ok_L_law_630 hkb) 100000 h
          · simp only [if_neg hc197] at h
            refine OEndsQ.icmpF hm_0 rfl ((feq hc197).1) ?_
            refine OEndsQ.adv hm_0 1 (pc' := 207) (L' := [.val (.ref 0), .val (.ref 1), .val (.int v2), .val (.int v3), .val (.long v4), .second, .val (.int v6), .val (.int v7), .val (.int v8), .val (.int v9), .val (.int v10), .val (.int v11), .unset, .val (.int v13), .val (.int v14), .val (.int v15), .unset, .unset, .unset, .val (.int v19), .unset, .unset, .unset, .unset]) (S' := [.int 0]) (H' := ((.inr (.inl (false, scr)) : ACell) :: bk0 n0_roomsOfType n0_roomsAtLeast n0_firstRoomOfType n0_slotActive n0_slotType n0_slotArrive n0_slotNights n0_exactCount n0_atLeastCount n0_planRoom n0_planGrid n0_planOrder n0_totalRooms n0_activeStays n0_planOrderLength n0_planCurrent n0_planUnplaced [])) rfl ?_
            cases h
            exact OEndsQ.iret hm_0 rfl rfl
        · simp only [if_neg hc196] at h
          refine OEndsQ.icmpT hm_0 rfl (q := 208) rfl ((feq hc196).2) ?_
          refine OEndsQ.adv hm_0 1 (pc' := 210) (L' := [.val (.ref 0), .val (.ref 1), .val (.int v2), .val (.int v3), .val (.long v4), .second, .val (.int v6), .val (.int v7), .val (.int v8), .val (.int v9), .val (.int v10), .val (.int v11), .unset, .val (.int v13), .val (.int v14), .val (.int v15), .unset, .unset, .unset, .val (.int v19), .unset, .unset, .unset, .unset]) (S' := [.int v19]) (H' := ((.inr (.inl (false, scr)) : ACell) :: bk0 n0_roomsOfType n0_roomsAtLeast n0_firstRoomOfType n0_slotActive n0_slotType n0_slotArrive n0_slotNights n0_exactCount n0_atLeastCount n0_planRoom n0_planGrid n0_planOrder n0_totalRooms n0_activeStays n0_planOrderLength n0_planCurrent n0_planUnplaced [])) rfl ?_
          by_cases hc198 : v19 < (0 : Int32)
          · simp only [if_pos hc198] at h
            refine OEndsQ.ifT hm_0 rfl (q := 264) rfl ((tlt hc198).1) ?_
            refine OEndsQ.adv hm_0 2 (pc' := 268) (L' := [.val (.ref 0), .val (.ref 1), .val (.int v2), .val (.int v3), .val (.long v4), .second, .val (.int v6), .val (.int v7), .val (.int v8), .val (.int v9), .val (.int v10), .val (.int v11), .unset, .val (.int v13), .val (.int v14), .val (.int v15), .unset, .unset, .unset, .val (.int v19), .unset, .unset, .unset, .unset]) (S' := [.int (-4), .int v19]) (H' := ((.inr (.inl (false, scr)) : ACell) :: bk0 n0_roomsOfType n0_roomsAtLeast n0_firstRoomOfType n0_slotActive n0_slotType n0_slotArrive n0_slotNights n0_exactCount n0_atLeastCount n0_planRoom n0_planGrid n0_planOrder n0_totalRooms n0_activeStays n0_planOrderLength n0_planCurrent n0_planUnplaced [])) rfl ?_
            by_cases hc199 : v19 = (-4 : Int32)
            · simp only [if_pos hc199] at h
              refine OEndsQ.icmpT hm_0 rfl (q := 273) rfl ((teq hc199).1) ?_
              refine OEndsQ.adv hm_0 5 (pc' := 514) (L' := [.val (.ref 0), .val (.ref 1), .val (.int v2), .val (.int v3), .val (.long v4), .second, .val (.int v6), .val (.int v7), .val (.int v8), .val (.int v9), .val (.int v10), .val (.int v11), .unset, .val (.int v13), .val (.int v14), .val (.int v15), .unset, .unset, .val (.long 0), .second, .val (.int 0), .unset, .unset, .unset]) (S' := []) (H' := ((.inr (.inl (false, scr)) : ACell) :: bk0 n0_roomsOfType n0_roomsAtLeast n0_firstRoomOfType n0_slotActive n0_slotType n0_slotArrive n0_slotNights n0_exactCount n0_atLeastCount n0_planRoom n0_planGrid n0_planOrder n0_totalRooms n0_activeStays n0_planOrderLength n0_planCurrent n0_planUnplaced [])) rfl ?_
              exact ok_L_law_514 (k630 := f_L_law_630 kb scr) (ok_L_law_630 hkb) 100000 h
            · simp only [if_neg hc199] at h
              refine OEndsQ.icmpF hm_0 rfl ((feq hc199).1) ?_
              refine OEndsQ.adv hm_0 1 (pc' := 272) (L' := [.val (.ref 0), .val (.ref 1), .val (.int v2), .val (.int v3), .val (.long v4), .second, .val (.int v6), .val (.int v7), .val (.int v8), .val (.int v9), .val (.int v10), .val (.int v11), .unset, .val (.int v13), .val (.int v14), .val (.int v15), .unset, .unset, .unset, .val (.int v19), .unset, .unset, .unset, .unset]) (S' := [.int 0]) (H' := ((.inr (.inl (false, scr)) : ACell) :: bk0 n0_roomsOfType n0_roomsAtLeast n0_firstRoomOfType n0_slotActive n0_slotType n0_slotArrive n0_slotNights n0_exactCount n0_atLeastCount n0_planRoom n0_planGrid n0_planOrder n0_totalRooms n0_activeStays n0_planOrderLength n0_planCurrent n0_planUnplaced [])) rfl ?_
              cases h
              exact OEndsQ.iret hm_0 rfl rfl
          · simp only [if_neg hc198] at h
            refine OEndsQ.ifF hm_0 rfl ((flt hc198).1) ?_
            refine OEndsQ.adv hm_0 2 (pc' := 216) (L' := [.val (.ref 0), .val (.ref 1), .val (.int v2), .val (.int v3), .val (.long v4), .second, .val (.int v6), .val (.int v7), .val (.int v8), .val (.int v9), .val (.int v10), .val (.int v11), .unset, .val (.int v13), .val (.int v14), .val (.int v15), .unset, .unset, .unset, .val (.int v19), .unset, .unset, .unset, .unset]) (S' := [.int v2, .int v19]) (H' := ((.inr (.inl (false, scr)) : ACell) :: bk0 n0_roomsOfType n0_roomsAtLeast n0_firstRoomOfType n0_slotActive n0_slotType n0_slotArrive n0_slotNights n0_exactCount n0_atLeastCount n0_planRoom n0_planGrid n0_planOrder n0_totalRooms n0_activeStays n0_planOrderLength n0_planCurrent n0_planUnplaced [])) rfl ?_
            obtain ⟨r230, hq200, h⟩ := bnd h
            refine OEndsQ.call0 hm_0 rfl rfl (by decide) rfl (as := [.int v2]) (rest := [.int v19]) rfl rfl (ok_L_lowestFree hq200) ?_
            show OEndsQ own_P 0 219 [.val (.ref 0), .val (.ref 1), .val (.int v2), .val (.int v3), .val (.long v4), .second, .val (.int v6), .val (.int v7), .val (.int v8), .val (.int v9), .val (.int v10), .val (.int v11), .unset, .val (.int v13), .val (.int v14), .val (.int v15), .unset, .unset, .unset, .val (.int v19), .unset, .unset, .unset, .unset] [.int r230, .int v19] ((.inr (.inl (false, scr)) : ACell) :: bk0 n0_roomsOfType n0_roomsAtLeast n0_firstRoomOfType n0_slotActive n0_slotType n0_slotArrive n0_slotNights n0_exactCount n0_atLeastCount n0_planRoom n0_planGrid n0_planOrder n0_totalRooms n0_activeStays n0_planOrderLength n0_planCurrent n0_planUnplaced []) _
            by_cases hc201 : v19 = r230
            · simp only [if_pos hc201] at h
              refine OEndsQ.icmpT hm_0 rfl (q := 224) rfl ((teq hc201).1) ?_
              refine OEndsQ.adv hm_0 28 (pc' := 514) (L' := [.val (.ref 0), .val (.ref 1), .val (.int (v2 ||| ((1 : Int32) <<< (v19 &&& 31)))), .val (.int (v3 + (1 : Int32))), .val (.long (v4 + v15.toInt64)), .second, .val (.int 0), .val (.int v19), .val (.int v13), .val (.int v14), .val (.int v15), .val (.int v11), .unset, .val (.int v13), .val (.int v14), .val (.int v15), .unset, .unset, .val (.long 0), .second, .val (.int 0), .unset, .unset, .unset]) (S' := []) (H' := ((.inr (.inl (false, scr)) : ACell) :: bk0 n0_roomsOfType n0_roomsAtLeast n0_firstRoomOfType n0_slotActive n0_slotType n0_slotArrive n0_slotNights n0_exactCount n0_atLeastCount n0_planRoom n0_planGrid n0_planOrder n0_totalRooms n0_activeStays n0_planOrderLength n0_planCurrent n0_planUnplaced [])) rfl ?_
              exact ok_L_law_514 (k630 := f_L_law_630 kb scr) (ok_L_law_630 hkb) 100000 h
            · simp only [if_neg hc201] at h
              refine OEndsQ.icmpF hm_0 rfl ((feq hc201).1) ?_
              refine OEndsQ.adv hm_0 1 (pc' := 223) (L' := [.val (.ref 0), .val (.ref 1), .val (.int v2), .val (.int v3), .val (.long v4), .second, .val (.int v6), .val (.int v7), .val (.int v8), .val (.int v9), .val (.int v10), .val (.int v11), .unset, .val (.int v13), .val (.int v14), .val (.int v15), .unset, .unset, .unset, .val (.int v19), .unset, .unset, .unset, .unset]) (S' := [.int 0]) (H' := ((.inr (.inl (false, scr)) : ACell) :: bk0 n0_roomsOfType n0_roomsAtLeast n0_firstRoomOfType n0_slotActive n0_slotType n0_slotArrive n0_slotNights n0_exactCount n0_atLeastCount n0_planRoom n0_planGrid n0_planOrder n0_totalRooms n0_activeStays n0_planOrderLength n0_planCurrent n0_planUnplaced [])) rfl ?_
              cases h
              exact OEndsQ.iret hm_0 rfl rfl
  · simp only [if_neg hc191] at h
    refine OEndsQ.icmpF hm_0 rfl ((feq hc191).1) ?_
    refine OEndsQ.adv hm_0 1 (pc' := 159) (L' := [.val (.ref 0), .val (.ref 1), .val (.int v2), .val (.int v3), .val (.long v4), .second, .val (.int v6), .val (.int v7), .val (.int v8), .val (.int v9), .val (.int v10), .val (.int v11), .unset, .val (.int v13), .val (.int v14), .val (.int v15), .unset, .unset, .unset, .val (.int v19), .unset, .unset, .unset, .unset]) (S' := [.int 0]) (H' := ((.inr (.inl (false, scr)) : ACell) :: bk0 n0_roomsOfType n0_roomsAtLeast n0_firstRoomOfType n0_slotActive n0_slotType n0_slotArrive n0_slotNights n0_exactCount n0_atLeastCount n0_planRoom n0_planGrid n0_planOrder n0_totalRooms n0_activeStays n0_planOrderLength n0_planCurrent n0_planUnplaced [])) rfl ?_
    cases h
    exact OEndsQ.iret hm_0 rfl rfl
theorem ok_L_law_112 {scr : List Int32} {kb : List Int32 → List Int32 → List Int32 → List Int32 → List Int32 → List Int32 → List Int32 → List Int32 → List Int32 → List Int32 → List Int32 → Int32 → Int32 → Int32 → Int32 → Int32 → Int32 → Int32 → Int64 → Int32 → Int32 → Int32 → Int32 → Int32 → Int32 → Option (Int32)} (hkb : ∀ {n0_roomsAtLeast : List Int32} {n0_firstRoomOfType : List Int32} {n0_slotActive : List Int32} {n0_slotType : List Int32} {n0_slotArrive : List Int32} {n0_slotNights : List Int32} {n0_exactCount : List Int32} {n0_atLeastCount : List Int32} {n0_planRoom : List Int32} {n0_planGrid : List Int32} {n0_planOrder : List Int32} {n0_totalRooms : Int32} {n0_activeStays : Int32} {n0_planOrderLength : Int32} {n0_planCurrent : Int32} {n0_planUnplaced : Int32} {v2 : Int32} {v3 : Int32} {v4 : Int64} {v6 : Int32} {v7 : Int32} {v8 : Int32} {v9 : Int32} {v10 : Int32} {v11 : Int32} {n0_roomsOfType : List Int32} {d12 d13 d14 d15 d16 d17 d18 d19 d20 d21 d22 d23 : Slot} {res : Int32}, kb n0_roomsAtLeast n0_firstRoomOfType n0_slotActive n0_slotType n0_slotArrive n0_slotNights n0_exactCount n0_atLeastCount n0_planRoom n0_planGrid n0_planOrder n0_totalRooms n0_activeStays n0_planOrderLength n0_planCurrent n0_planUnplaced v2 v3 v4 v6 v7 v8 v9 v10 v11 = some res → OEndsQ own_P 0 36 [.val (.ref 0), .val (.ref 1), .val (.int v2), .val (.int v3), .val (.long v4), .second, .val (.int v6), .val (.int v7), .val (.int v8), .val (.int v9), .val (.int v10), .val (.int v11), d12, d13, d14, d15, d16, d17, d18, d19, d20, d21, d22, d23] [] ((.inr (.inl (false, scr)) : ACell) :: bk0 n0_roomsOfType n0_roomsAtLeast n0_firstRoomOfType n0_slotActive n0_slotType n0_slotArrive n0_slotNights n0_exactCount n0_atLeastCount n0_planRoom n0_planGrid n0_planOrder n0_totalRooms n0_activeStays n0_planOrderLength n0_planCurrent n0_planUnplaced []) (LawQ res 0 0)) : ∀ {n0_roomsAtLeast : List Int32} {n0_firstRoomOfType : List Int32} {n0_slotActive : List Int32} {n0_slotType : List Int32} {n0_slotArrive : List Int32} {n0_slotNights : List Int32} {n0_exactCount : List Int32} {n0_atLeastCount : List Int32} {n0_planRoom : List Int32} {n0_planGrid : List Int32} {n0_planOrder : List Int32} {n0_totalRooms : Int32} {n0_activeStays : Int32} {n0_planOrderLength : Int32} {n0_planCurrent : Int32} {n0_planUnplaced : Int32} {v2 : Int32} {v3 : Int32} {v4 : Int64} {v6 : Int32} {v7 : Int32} {v8 : Int32} {v9 : Int32} {v10 : Int32} {v11 : Int32} {v12 : Int32} {v13 : Int32} {v14 : Int32} {v15 : Int32} {v16 : Int32} {t0 : Int32} {n0_roomsOfType : List Int32} {d17 d18 d19 d20 d21 d22 d23 : Slot} {res : Int32}, f_L_law_112 kb scr n0_roomsAtLeast n0_firstRoomOfType n0_slotActive n0_slotType n0_slotArrive n0_slotNights n0_exactCount n0_atLeastCount n0_planRoom n0_planGrid n0_planOrder n0_totalRooms n0_activeStays n0_planOrderLength n0_planCurrent n0_planUnplaced v2 v3 v4 v6 v7 v8 v9 v10 v11 v12 v13 v14 v15 v16 t0 = some res → OEndsQ own_P 0 112 [.val (.ref 0), .val (.ref 1), .val (.int v2), .val (.int v3), .val (.long v4), .second, .val (.int v6), .val (.int v7), .val (.int v8), .val (.int v9), .val (.int v10), .val (.int v11), .val (.int v12), .val (.int v13), .val (.int v14), .val (.int v15), .val (.int v16), d17, d18, d19, d20, d21, d22, d23] [.int t0] ((.inr (.inl (false, scr)) : ACell) :: bk0 n0_roomsOfType n0_roomsAtLeast n0_firstRoomOfType n0_slotActive n0_slotType n0_slotArrive n0_slotNights n0_exactCount n0_atLeastCount n0_planRoom n0_planGrid n0_planOrder n0_totalRooms n0_activeStays n0_planOrderLength n0_planCurrent n0_planUnplaced []) (LawQ res 0 0) := by
  intro n0_roomsAtLeast n0_firstRoomOfType n0_slotActive n0_slotType n0_slotArrive n0_slotNights n0_exactCount n0_atLeastCount n0_planRoom n0_planGrid n0_planOrder n0_totalRooms n0_activeStays n0_planOrderLength n0_planCurrent n0_planUnplaced v2 v3 v4 v6 v7 v8 v9 v10 v11 v12 v13 v14 v15 v16 t0 n0_roomsOfType d17 d18 d19 d20 d21 d22 d23 res h
  unfold f_L_law_112 at h
  refine OEndsQ.adv hm_0 2 (pc' := 116) (L' := [.val (.ref 0), .val (.ref 1), .val (.int v2), .val (.int v3), .val (.long v4), .second, .val (.int v6), .val (.int v7), .val (.int v8), .val (.int v9), .val (.int v10), .val (.int v11), .val (.int v12), .val (.int v13), .val (.int v14), .val (.int v15), .val (.int v16), .val (.int t0), .unset, .unset, .unset, .unset, .unset, .unset]) (S' := [.int v12]) (H' := ((.inr (.inl (false, scr)) : ACell) :: bk0 n0_roomsOfType n0_roomsAtLeast n0_firstRoomOfType n0_slotActive n0_slotType n0_slotArrive n0_slotNights n0_exactCount n0_atLeastCount n0_planRoom n0_planGrid n0_planOrder n0_totalRooms n0_activeStays n0_planOrderLength n0_planCurrent n0_planUnplaced [])) rfl ?_
  by_cases hc202 : v12 = (0 : Int32)
  · simp only [if_pos hc202] at h
    refine OEndsQ.ifF hm_0 rfl ((teq hc202).2) ?_
    refine OEndsQ.adv hm_0 4 (pc' := 126) (L' := [.val (.ref 0), .val (.ref 1), .val (.int v2), .val (.int v3), .val (.long v4), .second, .val (.int v6), .val (.int v7), .val (.int v8), .val (.int v9), .val (.int v10), .val (.int v11), .val (.int v12), .val (.int v13), .val (.int v14), .val (.int v15), .val (.int v16), .val (.int t0), .unset, .unset, .unset, .unset, .unset, .unset]) (S' := [.int v15, .int v14, .int v13, .ref 1]) (H' := ((.inr (.inl (false, scr)) : ACell) :: bk0 n0_roomsOfType n0_roomsAtLeast n0_firstRoomOfType n0_slotActive n0_slotType n0_slotArrive n0_slotNights n0_exactCount n0_atLeastCount n0_planRoom n0_planGrid n0_planOrder n0_totalRooms n0_activeStays n0_planOrderLength n0_planCurrent n0_planUnplaced [])) rfl ?_
    obtain ⟨r220, hq203, h⟩ := bnd h
    refine OEndsQ.call0 hm_0 rfl rfl (by decide) rfl (as := [.ref 1, .int v13, .int v14, .int v15]) (rest := []) rfl rfl (ok_canBook hq203) ?_
    refine OEndsQ.adv hm_0 5 (pc' := 138) (L' := [.val (.ref 0), .val (.ref 1), .val (.int v2), .val (.int v3), .val (.long v4), .second, .val (.int v6), .val (.int v7), .val (.int v8), .val (.int v9), .val (.int v10), .val (.int v11), .val (.int v12), .val (.int v13), .val (.int v14), .val (.int v15), .val (.int v16), .val (.int t0), .val (.int r220), .unset, .unset, .unset, .unset, .unset]) (S' := [.int v15, .int v14, .int v13, .ref 1]) (H' := ((.inr (.inl (false, scr)) : ACell) :: bk0 n0_roomsOfType n0_roomsAtLeast n0_firstRoomOfType n0_slotActive n0_slotType n0_slotArrive n0_slotNights n0_exactCount n0_atLeastCount n0_planRoom n0_planGrid n0_planOrder n0_totalRooms n0_activeStays n0_planOrderLength n0_planCurrent n0_planUnplaced [])) rfl ?_
    obtain ⟨⟨r221, s222, s223, s224, s225, s226, s227, s228, s229⟩, hq204, h⟩ := bnd h
    refine OEndsQ.call0 hm_0 rfl rfl (by decide) rfl (as := [.ref 1, .int v13, .int v14, .int v15]) (rest := []) rfl rfl (ok_book hq204) ?_
    refine OEndsQ.adv hm_0 3 (pc' := 147) (L' := [.val (.ref 0), .val (.ref 1), .val (.int v2), .val (.int v3), .val (.long v4), .second, .val (.int v6), .val (.int v7), .val (.int v8), .val (.int v9), .val (.int v10), .val (.int v11), .val (.int v12), .val (.int v13), .val (.int v14), .val (.int v15), .val (.int v16), .val (.int t0), .val (.int r220), .val (.int r221), .unset, .unset, .unset, .unset]) (S' := [.int r221, .int r220]) (H' := ((.inr (.inl (false, scr)) : ACell) :: bk0 n0_roomsOfType n0_roomsAtLeast n0_firstRoomOfType s222 s223 s224 s225 s226 s227 n0_planRoom n0_planGrid n0_planOrder n0_totalRooms s228 n0_planOrderLength s229 n0_planUnplaced [])) rfl ?_
    by_cases hc205 : r221 < (0 : Int32)
    · simp only [if_pos hc205] at h
      refine OEndsQ.ifT hm_0 rfl (q := 154) rfl ((tlt hc205).1) ?_
      refine OEndsQ.adv hm_0 1 (pc' := 155) (L' := [.val (.ref 0), .val (.ref 1), .val (.int v2), .val (.int v3), .val (.long v4), .second, .val (.int v6), .val (.int v7), .val (.int v8), .val (.int v9), .val (.int v10), .val (.int v11), .val (.int v12), .val (.int v13), .val (.int v14), .val (.int v15), .val (.int v16), .val (.int t0), .val (.int r220), .val (.int r221), .unset, .unset, .unset, .unset]) (S' := [.int 0, .int r220]) (H' := ((.inr (.inl (false, scr)) : ACell) :: bk0 n0_roomsOfType n0_roomsAtLeast n0_firstRoomOfType s222 s223 s224 s225 s226 s227 n0_planRoom n0_planGrid n0_planOrder n0_totalRooms s228 n0_planOrderLength s229 n0_planUnplaced [])) rfl ?_
      exact ok_L_law_155 hkb h
    · simp only [if_neg hc205] at h
      refine OEndsQ.ifF hm_0 rfl ((flt hc205).1) ?_
      refine OEndsQ.adv hm_0 2 (pc' := 155) (L' := [.val (.ref 0), .val (.ref 1), .val (.int v2), .val (.int v3), .val (.long v4), .second, .val (.int v6), .val (.int v7), .val (.int v8), .val (.int v9), .val (.int v10), .val (.int v11), .val (.int v12), .val (.int v13), .val (.int v14), .val (.int v15), .val (.int v16), .val (.int t0), .val (.int r220), .val (.int r221), .unset, .unset, .unset, .unset]) (S' := [.int 1, .int r220]) (H' := ((.inr (.inl (false, scr)) : ACell) :: bk0 n0_roomsOfType n0_roomsAtLeast n0_firstRoomOfType s222 s223 s224 s225 s226 s227 n0_planRoom n0_planGrid n0_planOrder n0_totalRooms s228 n0_planOrderLength s229 n0_planUnplaced [])) rfl ?_
      exact ok_L_law_155 hkb h
  · simp only [if_neg hc202] at h
    refine OEndsQ.ifT hm_0 rfl (q := 276) rfl ((feq hc202).2) ?_
    refine OEndsQ.adv hm_0 2 (pc' := 279) (L' := [.val (.ref 0), .val (.ref 1), .val (.int v2), .val (.int v3), .val (.long v4), .second, .val (.int v6), .val (.int v7), .val (.int v8), .val (.int v9), .val (.int v10), .val (.int v11), .val (.int v12), .val (.int v13), .val (.int v14), .val (.int v15), .val (.int v16), .val (.int t0), .unset, .unset, .unset, .unset, .unset, .unset]) (S' := [.int 1, .int v12]) (H' := ((.inr (.inl (false, scr)) : ACell) :: bk0 n0_roomsOfType n0_roomsAtLeast n0_firstRoomOfType n0_slotActive n0_slotType n0_slotArrive n0_slotNights n0_exactCount n0_atLeastCount n0_planRoom n0_planGrid n0_planOrder n0_totalRooms n0_activeStays n0_planOrderLength n0_planCurrent n0_planUnplaced [])) rfl ?_
    by_cases hc206 : v12 = (1 : Int32)
    · simp only [if_pos hc206] at h
      refine OEndsQ.icmpF hm_0 rfl ((teq hc206).2) ?_
      refine OEndsQ.adv hm_0 2 (pc' := 285) (L' := [.val (.ref 0), .val (.ref 1), .val (.int v2), .val (.int v3), .val (.long v4), .second, .val (.int v6), .val (.int v7), .val (.int v8), .val (.int v9), .val (.int v10), .val (.int v11), .val (.int v12), .val (.int v13), .val (.int v14), .val (.int v15), .val (.int v16), .val (.int t0), .unset, .unset, .unset, .unset, .unset, .unset]) (S' := [.int v16, .ref 1]) (H' := ((.inr (.inl (false, scr)) : ACell) :: bk0 n0_roomsOfType n0_roomsAtLeast n0_firstRoomOfType n0_slotActive n0_slotType n0_slotArrive n0_slotNights n0_exactCount n0_atLeastCount n0_planRoom n0_planGrid n0_planOrder n0_totalRooms n0_activeStays n0_planOrderLength n0_planCurrent n0_planUnplaced [])) rfl ?_
      obtain ⟨r212, hq207, h⟩ := bnd h
      refine OEndsQ.call0 hm_0 rfl rfl (by decide) rfl (as := [.ref 1, .int v16]) (rest := []) rfl rfl (ok_stayNights hq207) ?_
      refine OEndsQ.adv hm_0 6 (pc' := 299) (L' := [.val (.ref 0), .val (.ref 1), .val (.int v2), .val (.int v3), .val (.long v4), .second, .val (.int v6), .val (.int v7), .val (.int v8), .val (.int v9), .val (.int v10), .val (.int v11), .val (.int v12), .val (.int v13), .val (.int v14), .val (.int v15), .val (.int v16), .val (.int t0), .val (.int r212), .unset, .unset, .unset, .unset, .unset]) (S' := [.int v15, .int v14, .int v13, .int v16, .ref 1]) (H' := ((.inr (.inl (false, scr)) : ACell) :: bk0 n0_roomsOfType n0_roomsAtLeast n0_firstRoomOfType n0_slotActive n0_slotType n0_slotArrive n0_slotNights n0_exactCount n0_atLeastCount n0_planRoom n0_planGrid n0_planOrder n0_totalRooms n0_activeStays n0_planOrderLength n0_planCurrent n0_planUnplaced [])) rfl ?_
      obtain ⟨⟨r213, s214, s215, s216, s217, s218, s219⟩, hq208, h⟩ := bnd h
      refine OEndsQ.call0 hm_0 rfl rfl (by decide) rfl (as := [.ref 1, .int v16, .int v13, .int v14, .int v15]) (rest := []) rfl rfl (ok_amend hq208) ?_
      refine OEndsQ.adv hm_0 2 (pc' := 306) (L' := [.val (.ref 0), .val (.ref 1), .val (.int v2), .val (.int v3), .val (.long v4), .second, .val (.int v6), .val (.int v7), .val (.int v8), .val (.int v9), .val (.int v10), .val (.int v11), .val (.int v12), .val (.int v13), .val (.int v14), .val (.int v15), .val (.int v16), .val (.int t0), .val (.int r212), .val (.int r213), .unset, .unset, .unset, .unset]) (S' := [.int t0]) (H' := ((.inr (.inl (false, scr)) : ACell) :: bk0 n0_roomsOfType n0_roomsAtLeast n0_firstRoomOfType n0_slotActive s214 s215 s216 s217 s218 n0_planRoom n0_planGrid n0_planOrder n0_totalRooms n0_activeStays n0_planOrderLength s219 n0_planUnplaced [])) rfl ?_
      by_cases hc209 : t0 = (0 : Int32)
      · simp only [if_pos hc209] at h
        refine OEndsQ.ifF hm_0 rfl ((teq hc209).2) ?_
        refine OEndsQ.adv hm_0 2 (pc' := 313) (L' := [.val (.ref 0), .val (.ref 1), .val (.int v2), .val (.int v3), .val (.long v4), .second, .val (.int v6), .val (.int v7), .val (.int v8), .val (.int v9), .val (.int v10), .val (.int v11), .val (.int v12), .val (.int v13), .val (.int v14), .val (.int v15), .val (.int v16), .val (.int t0), .val (.int r212), .val (.int r213), .unset, .unset, .unset, .unset]) (S' := [.int (-5), .int r213]) (H' := ((.inr (.inl (false, scr)) : ACell) :: bk0 n0_roomsOfType n0_roomsAtLeast n0_firstRoomOfType n0_slotActive s214 s215 s216 s217 s218 n0_planRoom n0_planGrid n0_planOrder n0_totalRooms n0_activeStays n0_planOrderLength s219 n0_planUnplaced [])) rfl ?_
        by_cases hc210 : r213 = (-5 : Int32)
        · simp only [if_pos hc210] at h
          refine OEndsQ.icmpT hm_0 rfl (q := 401) rfl ((teq hc210).1) ?_
          refine OEndsQ.adv hm_0 5 (pc' := 514) (L' := [.val (.ref 0), .val (.ref 1), .val (.int v2), .val (.int v3), .val (.long v4), .second, .val (.int v6), .val (.int v7), .val (.int v8), .val (.int v9), .val (.int v10), .val (.int v11), .val (.int v12), .val (.int v13), .val (.int v14), .val (.int v15), .val (.int v16), .val (.int t0), .val (.long 0), .second, .val (.int 0), .unset, .unset, .unset]) (S' := []) (H' := ((.inr (.inl (false, scr)) : ACell) :: bk0 n0_roomsOfType n0_roomsAtLeast n0_firstRoomOfType n0_slotActive s214 s215 s216 s217 s218 n0_planRoom n0_planGrid n0_planOrder n0_totalRooms n0_activeStays n0_planOrderLength s219 n0_planUnplaced [])) rfl ?_
          exact ok_L_law_514 (k630 := f_L_law_630 kb scr) (ok_L_law_630 hkb) 100000 h
        · simp only [if_neg hc210] at h
          refine OEndsQ.icmpF hm_0 rfl ((feq hc210).1) ?_
          refine OEndsQ.adv hm_0 1 (pc' := 317) (L' := [.val (.ref 0), .val (.ref 1), .val (.int v2), .val (.int v3), .val (.long v4), .second, .val (.int v6), .val (.int v7), .val (.int v8), .val (.int v9), .val (.int v10), .val (.int v11), .val (.int v12), .val (.int v13), .val (.int v14), .val (.int v15), .val (.int v16), .val (.int t0), .val (.int r212), .val (.int r213), .unset, .unset, .unset, .unset]) (S' := [.int 0]) (H' := ((.inr (.inl (false, scr)) : ACell) :: bk0 n0_roomsOfType n0_roomsAtLeast n0_firstRoomOfType n0_slotActive s214 s215 s216 s217 s218 n0_planRoom n0_planGrid n0_planOrder n0_totalRooms n0_activeStays n0_planOrderLength s219 n0_planUnplaced [])) rfl ?_
          cases h
          exact OEndsQ.iret hm_0 rfl rfl
      · simp only [if_neg hc209] at h
        refine OEndsQ.ifT hm_0 rfl (q := 318) rfl ((feq hc209).2) ?_
        refine OEndsQ.adv hm_0 2 (pc' := 321) (L' := [.val (.ref 0), .val (.ref 1), .val (.int v2), .val (.int v3), .val (.long v4), .second, .val (.int v6), .val (.int v7), .val (.int v8), .val (.int v9), .val (.int v10), .val (.int v11), .val (.int v12), .val (.int v13), .val (.int v14), .val (.int v15), .val (.int v16), .val (.int t0), .val (.int r212), .val (.int r213), .unset, .unset, .unset, .unset]) (S' := [.int 3, .int v13]) (H' := ((.inr (.inl (false, scr)) : ACell) :: bk0 n0_roomsOfType n0_roomsAtLeast n0_firstRoomOfType n0_slotActive s214 s215 s216 s217 s218 n0_planRoom n0_planGrid n0_planOrder n0_totalRooms n0_activeStays n0_planOrderLength s219 n0_planUnplaced [])) rfl ?_
        by_cases hc211 : v13 = (3 : Int32)
        · simp only [if_pos hc211] at h
          refine OEndsQ.icmpF hm_0 rfl ((teq hc211).2) ?_
          refine OEndsQ.adv hm_0 2 (pc' := 327) (L' := [.val (.ref 0), .val (.ref 1), .val (.int v2), .val (.int v3), .val (.long v4), .second, .val (.int v6), .val (.int v7), .val (.int v8), .val (.int v9), .val (.int v10), .val (.int v11), .val (.int v12), .val (.int v13), .val (.int v14), .val (.int v15), .val (.int v16), .val (.int t0), .val (.int r212), .val (.int r213), .unset, .unset, .unset, .unset]) (S' := [.int (-1), .int r213]) (H' := ((.inr (.inl (false, scr)) : ACell) :: bk0 n0_roomsOfType n0_roomsAtLeast n0_firstRoomOfType n0_slotActive s214 s215 s216 s217 s218 n0_planRoom n0_planGrid n0_planOrder n0_totalRooms n0_activeStays n0_planOrderLength s219 n0_planUnplaced [])) rfl ?_
          by_cases hc212 : r213 = (-1 : Int32)
          · simp only [if_pos hc212] at h
            refine OEndsQ.icmpT hm_0 rfl (q := 401) rfl ((teq hc212).1) ?_
            refine OEndsQ.adv hm_0 5 (pc' := 514) (L' := [.val (.ref 0), .val (.ref 1), .val (.int v2), .val (.int v3), .val (.long v4), .second, .val (.int v6), .val (.int v7), .val (.int v8), .val (.int v9), .val (.int v10), .val (.int v11), .val (.int v12), .val (.int v13), .val (.int v14), .val (.int v15), .val (.int v16), .val (.int t0), .val (.long 0), .second, .val (.int 0), .unset, .unset, .unset]) (S' := []) (H' := ((.inr (.inl (false, scr)) : ACell) :: bk0 n0_roomsOfType n0_roomsAtLeast n0_firstRoomOfType n0_slotActive s214 s215 s216 s217 s218 n0_planRoom n0_planGrid n0_planOrder n0_totalRooms n0_activeStays n0_planOrderLength s219 n0_planUnplaced [])) rfl ?_
            exact ok_L_law_514 (k630 := f_L_law_630 kb scr) (ok_L_law_630 hkb) 100000 h
          · simp only [if_neg hc212] at h
            refine OEndsQ.icmpF hm_0 rfl ((feq hc212).1) ?_
            refine OEndsQ.adv hm_0 1 (pc' := 331) (L' := [.val (.ref 0), .val (.ref 1), .val (.int v2), .val (.int v3), .val (.long v4), .second, .val (.int v6), .val (.int v7), .val (.int v8), .val (.int v9), .val (.int v10), .val (.int v11), .val (.int v12), .val (.int v13), .val (.int v14), .val (.int v15), .val (.int v16), .val (.int t0), .val (.int r212), .val (.int r213), .unset, .unset, .unset, .unset]) (S' := [.int 0]) (H' := ((.inr (.inl (false, scr)) : ACell) :: bk0 n0_roomsOfType n0_roomsAtLeast n0_firstRoomOfType n0_slotActive s214 s215 s216 s217 s218 n0_planRoom n0_planGrid n0_planOrder n0_totalRooms n0_activeStays n0_planOrderLength s219 n0_planUnplaced [])) rfl ?_
            cases h
            exact OEndsQ.iret hm_0 rfl rfl
        · simp only [if_neg hc211] at h
          refine OEndsQ.icmpT hm_0 rfl (q := 332) rfl ((feq hc211).2) ?_
          refine OEndsQ.adv hm_0 4 (pc' := 339) (L' := [.val (.ref 0), .val (.ref 1), .val (.int v2), .val (.int v3), .val (.long v4), .second, .val (.int v6), .val (.int v7), .val (.int v8), .val (.int v9), .val (.int v10), .val (.int v11), .val (.int v12), .val (.int v13), .val (.int v14), .val (.int v15), .val (.int v16), .val (.int t0), .val (.int r212), .val (.int r213), .unset, .unset, .unset, .unset]) (S' := [.int ((32 : Int32) - v14), .int v15]) (H' := ((.inr (.inl (false, scr)) : ACell) :: bk0 n0_roomsOfType n0_roomsAtLeast n0_firstRoomOfType n0_slotActive s214 s215 s216 s217 s218 n0_planRoom n0_planGrid n0_planOrder n0_totalRooms n0_activeStays n0_planOrderLength s219 n0_planUnplaced [])) rfl ?_
          by_cases hc213 : ((32 : Int32) - v14) < v15
          · simp only [if_pos hc213] at h
            refine OEndsQ.icmpF hm_0 rfl ((tlt hc213).2.2.2) ?_
            refine OEndsQ.adv hm_0 2 (pc' := 346) (L' := [.val (.ref 0), .val (.ref 1), .val (.int v2), .val (.int v3), .val (.long v4), .second, .val (.int v6), .val (.int v7), .val (.int v8), .val (.int v9), .val (.int v10), .val (.int v11), .val (.int v12), .val (.int v13), .val (.int v14), .val (.int v15), .val (.int v16), .val (.int t0), .val (.int r212), .val (.int r213), .unset, .unset, .unset, .unset]) (S' := [.int (-2), .int r213]) (H' := ((.inr (.inl (false, scr)) : ACell) :: bk0 n0_roomsOfType n0_roomsAtLeast n0_firstRoomOfType n0_slotActive s214 s215 s216 s217 s218 n0_planRoom n0_planGrid n0_planOrder n0_totalRooms n0_activeStays n0_planOrderLength s219 n0_planUnplaced [])) rfl ?_
            by_cases hc214 : r213 = (-2 : Int32)
            · simp only [if_pos hc214] at h
              refine OEndsQ.icmpT hm_0 rfl (q := 401) rfl ((teq hc214).1) ?_
              refine OEndsQ.adv hm_0 5 (pc' := 514) (L' := [.val (.ref 0), .val (.ref 1), .val (.int v2), .val (.int v3), .val (.long v4), .second, .val (.int v6), .val (.int v7), .val (.int v8), .val (.int v9), .val (.int v10), .val (.int v11), .val (.int v12), .val (.int v13), .val (.int v14), .val (.int v15), .val (.int v16), .val (.int t0), .val (.long 0), .second, .val (.int 0), .unset, .unset, .unset]) (S' := []) (H' := ((.inr (.inl (false, scr)) : ACell) :: bk0 n0_roomsOfType n0_roomsAtLeast n0_firstRoomOfType n0_slotActive s214 s215 s216 s217 s218 n0_planRoom n0_planGrid n0_planOrder n0_totalRooms n0_activeStays n0_planOrderLength s219 n0_planUnplaced [])) rfl ?_
              exact ok_L_law_514 (k630 := f_L_law_630 kb scr) (ok_L_law_630 hkb) 100000 h
            · simp only [if_neg hc214] at h
              refine OEndsQ.icmpF hm_0 rfl ((feq hc214).1) ?_
              refine OEndsQ.adv hm_0 1 (pc' := 350) (L' := [.val (.ref 0), .val (.ref 1), .val (.int v2), .val (.int v3), .val (.long v4), .second, .val (.int v6), .val (.int v7), .val (.int v8), .val (.int v9), .val (.int v10), .val (.int v11), .val (.int v12), .val (.int v13), .val (.int v14), .val (.int v15), .val (.int v16), .val (.int t0), .val (.int r212), .val (.int r213), .unset, .unset, .unset, .unset]) (S' := [.int 0]) (H' := ((.inr (.inl (false, scr)) : ACell) :: bk0 n0_roomsOfType n0_roomsAtLeast n0_firstRoomOfType n0_slotActive s214 s215 s216 s217 s218 n0_planRoom n0_planGrid n0_planOrder n0_totalRooms n0_activeStays n0_planOrderLength s219 n0_planUnplaced [])) rfl ?_
              cases h
              exact OEndsQ.iret hm_0 rfl rfl
          · simp only [if_neg hc213] at h
            refine OEndsQ.icmpT hm_0 rfl (q := 351) rfl ((flt hc213).2.2.2) ?_
            refine OEndsQ.adv hm_0 1 (pc' := 353) (L' := [.val (.ref 0), .val (.ref 1), .val (.int v2), .val (.int v3), .val (.long v4), .second, .val (.int v6), .val (.int v7), .val (.int v8), .val (.int v9), .val (.int v10), .val (.int v11), .val (.int v12), .val (.int v13), .val (.int v14), .val (.int v15), .val (.int v16), .val (.int t0), .val (.int r212), .val (.int r213), .unset, .unset, .unset, .unset]) (S' := [.int r213]) (H' := ((.inr (.inl (false, scr)) : ACell) :: bk0 n0_roomsOfType n0_roomsAtLeast n0_firstRoomOfType n0_slotActive s214 s215 s216 s217 s218 n0_planRoom n0_planGrid n0_planOrder n0_totalRooms n0_activeStays n0_planOrderLength s219 n0_planUnplaced [])) rfl ?_
            by_cases hc215 : r213 = (0 : Int32)
            · simp only [if_pos hc215] at h
              refine OEndsQ.ifF hm_0 rfl ((teq hc215).2) ?_
              refine OEndsQ.adv hm_0 11 (pc' := 374) (L' := [.val (.ref 0), .val (.ref 1), .val (.int v2), .val (.int v3), .val (.long (v4 + (v15 - r212).toInt64)), .second, .val (.int 0), .val (.int v7), .val (.int v8), .val (.int v9), .val (.int v10), .val (.int v11), .val (.int v12), .val (.int v13), .val (.int v14), .val (.int v15), .val (.int v16), .val (.int t0), .val (.int r212), .val (.int r213), .unset, .unset, .unset, .unset]) (S' := [.int v7, .int v16]) (H' := ((.inr (.inl (false, scr)) : ACell) :: bk0 n0_roomsOfType n0_roomsAtLeast n0_firstRoomOfType n0_slotActive s214 s215 s216 s217 s218 n0_planRoom n0_planGrid n0_planOrder n0_totalRooms n0_activeStays n0_planOrderLength s219 n0_planUnplaced [])) rfl ?_
              by_cases hc216 : v16 = v7
              · simp only [if_pos hc216] at h
                refine OEndsQ.icmpF hm_0 rfl ((teq hc216).2) ?_
                refine OEndsQ.adv hm_0 12 (pc' := 514) (L' := [.val (.ref 0), .val (.ref 1), .val (.int v2), .val (.int v3), .val (.long (v4 + (v15 - r212).toInt64)), .second, .val (.int 0), .val (.int v7), .val (.int v13), .val (.int v14), .val (.int v15), .val (.int v11), .val (.int v12), .val (.int v13), .val (.int v14), .val (.int v15), .val (.int v16), .val (.int t0), .val (.long 0), .second, .val (.int 0), .unset, .unset, .unset]) (S' := []) (H' := ((.inr (.inl (false, scr)) : ACell) :: bk0 n0_roomsOfType n0_roomsAtLeast n0_firstRoomOfType n0_slotActive s214 s215 s216 s217 s218 n0_planRoom n0_planGrid n0_planOrder n0_totalRooms n0_activeStays n0_planOrderLength s219 n0_planUnplaced [])) rfl ?_
                exact ok_L_law_514 (k630 := f_L_law_630 kb scr) (ok_L_law_630 hkb) 100000 h
              · simp only [if_neg hc216] at h
                refine OEndsQ.icmpT hm_0 rfl (q := 401) rfl ((feq hc216).2) ?_
                refine OEndsQ.adv hm_0 5 (pc' := 514) (L' := [.val (.ref 0), .val (.ref 1), .val (.int v2), .val (.int v3), .val (.long (v4 + (v15 - r212).toInt64)), .second, .val (.int 0), .val (.int v7), .val (.int v8), .val (.int v9), .val (.int v10), .val (.int v11), .val (.int v12), .val (.int v13), .val (.int v14), .val (.int v15), .val (.int v16), .val (.int t0), .val (.long 0), .second, .val (.int 0), .unset, .unset, .unset]) (S' := []) (H' := ((.inr (.inl (false, scr)) : ACell) :: bk0 n0_roomsOfType n0_roomsAtLeast n0_firstRoomOfType n0_slotActive s214 s215 s216 s217 s218 n0_planRoom n0_planGrid n0_planOrder n0_totalRooms n0_activeStays n0_planOrderLength s219 n0_planUnplaced [])) rfl ?_
                exact ok_L_law_514 (k630 := f_L_law_630 kb scr) (ok_L_law_630 hkb) 100000 h
            · simp only [if_neg hc215] at h
              refine OEndsQ.ifT hm_0 rfl (q := 392) rfl ((feq hc215).2) ?_
              refine OEndsQ.adv hm_0 2 (pc' := 396) (L' := [.val (.ref 0), .val (.ref 1), .val (.int v2), .val (.int v3), .val (.long v4), .second, .val (.int v6), .val (.int v7), .val (.int v8), .val (.int v9), .val (.int v10), .val (.int v11), .val (.int v12), .val (.int v13), .val (.int v14), .val (.int v15), .val (.int v16), .val (.int t0), .val (.int r212), .val (.int r213), .unset, .unset, .unset, .unset]) (S' := [.int (-4), .int r213]) (H' := ((.inr (.inl (false, scr)) : ACell) :: bk0 n0_roomsOfType n0_roomsAtLeast n0_firstRoomOfType n0_slotActive s214 s215 s216 s217 s218 n0_planRoom n0_planGrid n0_planOrder n0_totalRooms n0_activeStays n0_planOrderLength s219 n0_planUnplaced [])) rfl ?_
              by_cases hc217 : r213 = (-4 : Int32)
              · simp only [if_pos hc217] at h
                refine OEndsQ.icmpT hm_0 rfl (q := 401) rfl ((teq hc217).1) ?_
                refine OEndsQ.adv hm_0 5 (pc' := 514) (L' := [.val (.ref 0), .val (.ref 1), .val (.int v2), .val (.int v3), .val (.long v4), .second, .val (.int v6), .val (.int v7), .val (.int v8), .val (.int v9), .val (.int v10), .val (.int v11), .val (.int v12), .val (.int v13), .val (.int v14), .val (.int v15), .val (.int v16), .val (.int t0), .val (.long 0), .second, .val (.int 0), .unset, .unset, .unset]) (S' := []) (H' := ((.inr (.inl (false, scr)) : ACell) :: bk0 n0_roomsOfType n0_roomsAtLeast n0_firstRoomOfType n0_slotActive s214 s215 s216 s217 s218 n0_planRoom n0_planGrid n0_planOrder n0_totalRooms n0_activeStays n0_planOrderLength s219 n0_planUnplaced [])) rfl ?_
                exact ok_L_law_514 (k630 := f_L_law_630 kb scr) (ok_L_law_630 hkb) 100000 h
              · simp only [if_neg hc217] at h
                refine OEndsQ.icmpF hm_0 rfl ((feq hc217).1) ?_
                refine OEndsQ.adv hm_0 1 (pc' := 400) (L' := [.val (.ref 0), .val (.ref 1), .val (.int v2), .val (.int v3), .val (.long v4), .second, .val (.int v6), .val (.int v7), .val (.int v8), .val (.int v9), .val (.int v10), .val (.int v11), .val (.int v12), .val (.int v13), .val (.int v14), .val (.int v15), .val (.int v16), .val (.int t0), .val (.int r212), .val (.int r213), .unset, .unset, .unset, .unset]) (S' := [.int 0]) (H' := ((.inr (.inl (false, scr)) : ACell) :: bk0 n0_roomsOfType n0_roomsAtLeast n0_firstRoomOfType n0_slotActive s214 s215 s216 s217 s218 n0_planRoom n0_planGrid n0_planOrder n0_totalRooms n0_activeStays n0_planOrderLength s219 n0_planUnplaced [])) rfl ?_
                cases h
                exact OEndsQ.iret hm_0 rfl rfl
    · simp only [if_neg hc206] at h
      refine OEndsQ.icmpT hm_0 rfl (q := 404) rfl ((feq hc206).2) ?_
      refine OEndsQ.adv hm_0 2 (pc' := 407) (L' := [.val (.ref 0), .val (.ref 1), .val (.int v2), .val (.int v3), .val (.long v4), .second, .val (.int v6), .val (.int v7), .val (.int v8), .val (.int v9), .val (.int v10), .val (.int v11), .val (.int v12), .val (.int v13), .val (.int v14), .val (.int v15), .val (.int v16), .val (.int t0), .unset, .unset, .unset, .unset, .unset, .unset]) (S' := [.int 2, .int v12]) (H' := ((.inr (.inl (false, scr)) : ACell) :: bk0 n0_roomsOfType n0_roomsAtLeast n0_firstRoomOfType n0_slotActive n0_slotType n0_slotArrive n0_slotNights n0_exactCount n0_atLeastCount n0_planRoom n0_planGrid n0_planOrder n0_totalRooms n0_activeStays n0_planOrderLength n0_planCurrent n0_planUnplaced [])) rfl ?_
      by_cases hc218 : v12 = (2 : Int32)
      · simp only [if_pos hc218] at h
        refine OEndsQ.icmpF hm_0 rfl ((teq hc218).2) ?_
        refine OEndsQ.adv hm_0 2 (pc' := 413) (L' := [.val (.ref 0), .val (.ref 1), .val (.int v2), .val (.int v3), .val (.long v4), .second, .val (.int v6), .val (.int v7), .val (.int v8), .val (.int v9), .val (.int v10), .val (.int v11), .val (.int v12), .val (.int v13), .val (.int v14), .val (.int v15), .val (.int v16), .val (.int t0), .unset, .unset, .unset, .unset, .unset, .unset]) (S' := [.int v16, .ref 1]) (H' := ((.inr (.inl (false, scr)) : ACell) :: bk0 n0_roomsOfType n0_roomsAtLeast n0_firstRoomOfType n0_slotActive n0_slotType n0_slotArrive n0_slotNights n0_exactCount n0_atLeastCount n0_planRoom n0_planGrid n0_planOrder n0_totalRooms n0_activeStays n0_planOrderLength n0_planCurrent n0_planUnplaced [])) rfl ?_
        obtain ⟨r202, hq219, h⟩ := bnd h
        refine OEndsQ.call0 hm_0 rfl rfl (by decide) rfl (as := [.ref 1, .int v16]) (rest := []) rfl rfl (ok_stayNights hq219) ?_
        refine OEndsQ.adv hm_0 3 (pc' := 421) (L' := [.val (.ref 0), .val (.ref 1), .val (.int v2), .val (.int v3), .val (.long v4), .second, .val (.int v6), .val (.int v7), .val (.int v8), .val (.int v9), .val (.int v10), .val (.int v11), .val (.int v12), .val (.int v13), .val (.int v14), .val (.int v15), .val (.int v16), .val (.int t0), .val (.int r202), .unset, .unset, .unset, .unset, .unset]) (S' := [.int v16, .ref 1]) (H' := ((.inr (.inl (false, scr)) : ACell) :: bk0 n0_roomsOfType n0_roomsAtLeast n0_firstRoomOfType n0_slotActive n0_slotType n0_slotArrive n0_slotNights n0_exactCount n0_atLeastCount n0_planRoom n0_planGrid n0_planOrder n0_totalRooms n0_activeStays n0_planOrderLength n0_planCurrent n0_planUnplaced [])) rfl ?_
        obtain ⟨⟨r203, s204, s205, s206, s207, s208, s209, s210, s211⟩, hq220, h⟩ := bnd h
        refine OEndsQ.call0 hm_0 rfl rfl (by decide) rfl (as := [.ref 1, .int v16]) (rest := []) rfl rfl (ok_cancel hq220) ?_
        refine OEndsQ.adv hm_0 2 (pc' := 428) (L' := [.val (.ref 0), .val (.ref 1), .val (.int v2), .val (.int v3), .val (.long v4), .second, .val (.int v6), .val (.int v7), .val (.int v8), .val (.int v9), .val (.int v10), .val (.int v11), .val (.int v12), .val (.int v13), .val (.int v14), .val (.int v15), .val (.int v16), .val (.int t0), .val (.int r202), .val (.int r203), .unset, .unset, .unset, .unset]) (S' := [.int t0]) (H' := ((.inr (.inl (false, scr)) : ACell) :: bk0 n0_roomsOfType n0_roomsAtLeast n0_firstRoomOfType s204 s205 s206 s207 s208 s209 n0_planRoom n0_planGrid n0_planOrder n0_totalRooms s210 n0_planOrderLength s211 n0_planUnplaced [])) rfl ?_
        by_cases hc221 : t0 = (0 : Int32)
        · simp only [if_pos hc221] at h
          refine OEndsQ.ifT hm_0 rfl (q := 474) rfl ((teq hc221).1) ?_
          refine OEndsQ.adv hm_0 2 (pc' := 478) (L' := [.val (.ref 0), .val (.ref 1), .val (.int v2), .val (.int v3), .val (.long v4), .second, .val (.int v6), .val (.int v7), .val (.int v8), .val (.int v9), .val (.int v10), .val (.int v11), .val (.int v12), .val (.int v13), .val (.int v14), .val (.int v15), .val (.int v16), .val (.int t0), .val (.int r202), .val (.int r203), .unset, .unset, .unset, .unset]) (S' := [.int (-5), .int r203]) (H' := ((.inr (.inl (false, scr)) : ACell) :: bk0 n0_roomsOfType n0_roomsAtLeast n0_firstRoomOfType s204 s205 s206 s207 s208 s209 n0_planRoom n0_planGrid n0_planOrder n0_totalRooms s210 n0_planOrderLength s211 n0_planUnplaced [])) rfl ?_
          by_cases hc222 : r203 = (-5 : Int32)
          · simp only [if_pos hc222] at h
            refine OEndsQ.icmpT hm_0 rfl (q := 483) rfl ((teq hc222).1) ?_
            refine OEndsQ.adv hm_0 5 (pc' := 514) (L' := [.val (.ref 0), .val (.ref 1), .val (.int v2), .val (.int v3), .val (.long v4), .second, .val (.int v6), .val (.int v7), .val (.int v8), .val (.int v9), .val (.int v10), .val (.int v11), .val (.int v12), .val (.int v13), .val (.int v14), .val (.int v15), .val (.int v16), .val (.int t0), .val (.long 0), .second, .val (.int 0), .unset, .unset, .unset]) (S' := []) (H' := ((.inr (.inl (false, scr)) : ACell) :: bk0 n0_roomsOfType n0_roomsAtLeast n0_firstRoomOfType s204 s205 s206 s207 s208 s209 n0_planRoom n0_planGrid n0_planOrder n0_totalRooms s210 n0_planOrderLength s211 n0_planUnplaced [])) rfl ?_
            exact ok_L_law_514 (k630 := f_L_law_630 kb scr) (ok_L_law_630 hkb) 100000 h
          · simp only [if_neg hc222] at h
            refine OEndsQ.icmpF hm_0 rfl ((feq hc222).1) ?_
            refine OEndsQ.adv hm_0 1 (pc' := 482) (L' := [.val (.ref 0), .val (.ref 1), .val (.int v2), .val (.int v3), .val (.long v4), .second, .val (.int v6), .val (.int v7), .val (.int v8), .val (.int v9), .val (.int v10), .val (.int v11), .val (.int v12), .val (.int v13), .val (.int v14), .val (.int v15), .val (.int v16), .val (.int t0), .val (.int r202), .val (.int r203), .unset, .unset, .unset, .unset]) (S' := [.int 0]) (H' := ((.inr (.inl (false, scr)) : ACell) :: bk0 n0_roomsOfType n0_roomsAtLeast n0_firstRoomOfType s204 s205 s206 s207 s208 s209 n0_planRoom n0_planGrid n0_planOrder n0_totalRooms s210 n0_planOrderLength s211 n0_planUnplaced [])) rfl ?_
            cases h
            exact OEndsQ.iret hm_0 rfl rfl
        · simp only [if_neg hc221] at h
          refine OEndsQ.ifF hm_0 rfl ((feq hc221).1) ?_
          refine OEndsQ.adv hm_0 1 (pc' := 433) (L' := [.val (.ref 0), .val (.ref 1), .val (.int v2), .val (.int v3), .val (.long v4), .second, .val (.int v6), .val (.int v7), .val (.int v8), .val (.int v9), .val (.int v10), .val (.int v11), .val (.int v12), .val (.int v13), .val (.int v14), .val (.int v15), .val (.int v16), .val (.int t0), .val (.int r202), .val (.int r203), .unset, .unset, .unset, .unset]) (S' := [.int r203]) (H' := ((.inr (.inl (false, scr)) : ACell) :: bk0 n0_roomsOfType n0_roomsAtLeast n0_firstRoomOfType s204 s205 s206 s207 s208 s209 n0_planRoom n0_planGrid n0_planOrder n0_totalRooms s210 n0_planOrderLength s211 n0_planUnplaced [])) rfl ?_
          by_cases hc223 : r203 = (0 : Int32)
          · simp only [if_pos hc223] at h
            refine OEndsQ.ifT hm_0 rfl (q := 438) rfl ((teq hc223).1) ?_
            refine OEndsQ.adv hm_0 18 (pc' := 465) (L' := [.val (.ref 0), .val (.ref 1), .val (.int (v2 &&& (((1 : Int32) <<< (v16 &&& 31)) ^^^ (-1 : Int32)))), .val (.int (v3 + (-1 : Int32))), .val (.long (v4 - r202.toInt64)), .second, .val (.int 0), .val (.int v7), .val (.int v8), .val (.int v9), .val (.int v10), .val (.int v11), .val (.int v12), .val (.int v13), .val (.int v14), .val (.int v15), .val (.int v16), .val (.int t0), .val (.int r202), .val (.int r203), .unset, .unset, .unset, .unset]) (S' := [.int v7, .int v16]) (H' := ((.inr (.inl (false, scr)) : ACell) :: bk0 n0_roomsOfType n0_roomsAtLeast n0_firstRoomOfType s204 s205 s206 s207 s208 s209 n0_planRoom n0_planGrid n0_planOrder n0_totalRooms s210 n0_planOrderLength s211 n0_planUnplaced [])) rfl ?_
            by_cases hc224 : v16 = v7
            · simp only [if_pos hc224] at h
              refine OEndsQ.icmpF hm_0 rfl ((teq hc224).2) ?_
              refine OEndsQ.adv hm_0 8 (pc' := 514) (L' := [.val (.ref 0), .val (.ref 1), .val (.int (v2 &&& (((1 : Int32) <<< (v16 &&& 31)) ^^^ (-1 : Int32)))), .val (.int (v3 + (-1 : Int32))), .val (.long (v4 - r202.toInt64)), .second, .val (.int 0), .val (.int (-1)), .val (.int v8), .val (.int v9), .val (.int v10), .val (.int v11), .val (.int v12), .val (.int v13), .val (.int v14), .val (.int v15), .val (.int v16), .val (.int t0), .val (.long 0), .second, .val (.int 0), .unset, .unset, .unset]) (S' := []) (H' := ((.inr (.inl (false, scr)) : ACell) :: bk0 n0_roomsOfType n0_roomsAtLeast n0_firstRoomOfType s204 s205 s206 s207 s208 s209 n0_planRoom n0_planGrid n0_planOrder n0_totalRooms s210 n0_planOrderLength s211 n0_planUnplaced [])) rfl ?_
              exact ok_L_law_514 (k630 := f_L_law_630 kb scr) (ok_L_law_630 hkb) 100000 h
            · simp only [if_neg hc224] at h
              refine OEndsQ.icmpT hm_0 rfl (q := 483) rfl ((feq hc224).2) ?_
              refine OEndsQ.adv hm_0 5 (pc' := 514) (L' := [.val (.ref 0), .val (.ref 1), .val (.int (v2 &&& (((1 : Int32) <<< (v16 &&& 31)) ^^^ (-1 : Int32)))), .val (.int (v3 + (-1 : Int32))), .val (.long (v4 - r202.toInt64)), .second, .val (.int 0), .val (.int v7), .val (.int v8), .val (.int v9), .val (.int v10), .val (.int v11), .val (.int v12), .val (.int v13), .val (.int v14), .val (.int v15), .val (.int v16), .val (.int t0), .val (.long 0), .second, .val (.int 0), .unset, .unset, .unset]) (S' := []) (H' := ((.inr (.inl (false, scr)) : ACell) :: bk0 n0_roomsOfType n0_roomsAtLeast n0_firstRoomOfType s204 s205 s206 s207 s208 s209 n0_planRoom n0_planGrid n0_planOrder n0_totalRooms s210 n0_planOrderLength s211 n0_planUnplaced [])) rfl ?_
              exact ok_L_law_514 (k630 := f_L_law_630 kb scr) (ok_L_law_630 hkb) 100000 h
          · simp only [if_neg hc223] at h
            refine OEndsQ.ifF hm_0 rfl ((feq hc223).1) ?_
            refine OEndsQ.adv hm_0 1 (pc' := 437) (L' := [.val (.ref 0), .val (.ref 1), .val (.int v2), .val (.int v3), .val (.long v4), .second, .val (.int v6), .val (.int v7), .val (.int v8), .val (.int v9), .val (.int v10), .val (.int v11), .val (.int v12), .val (.int v13), .val (.int v14), .val (.int v15), .val (.int v16), .val (.int t0), .val (.int r202), .val (.int r203), .unset, .unset, .unset, .unset]) (S' := [.int 0]) (H' := ((.inr (.inl (false, scr)) : ACell) :: bk0 n0_roomsOfType n0_roomsAtLeast n0_firstRoomOfType s204 s205 s206 s207 s208 s209 n0_planRoom n0_planGrid n0_planOrder n0_totalRooms s210 n0_planOrderLength s211 n0_planUnplaced [])) rfl ?_
            cases h
            exact OEndsQ.iret hm_0 rfl rfl
      · simp only [if_neg hc218] at h
        refine OEndsQ.icmpT hm_0 rfl (q := 486) rfl ((feq hc218).2) ?_
        refine OEndsQ.adv hm_0 1 (pc' := 487) (L' := [.val (.ref 0), .val (.ref 1), .val (.int v2), .val (.int v3), .val (.long v4), .second, .val (.int v6), .val (.int v7), .val (.int v8), .val (.int v9), .val (.int v10), .val (.int v11), .val (.int v12), .val (.int v13), .val (.int v14), .val (.int v15), .val (.int v16), .val (.int t0), .unset, .unset, .unset, .unset, .unset, .unset]) (S' := [.ref 1]) (H' := ((.inr (.inl (false, scr)) : ACell) :: bk0 n0_roomsOfType n0_roomsAtLeast n0_firstRoomOfType n0_slotActive n0_slotType n0_slotArrive n0_slotNights n0_exactCount n0_atLeastCount n0_planRoom n0_planGrid n0_planOrder n0_totalRooms n0_activeStays n0_planOrderLength n0_planCurrent n0_planUnplaced [])) rfl ?_
        obtain ⟨⟨r195, s196, s197, s198, s199, s200, s201⟩, hq225, h⟩ := bnd h
        refine OEndsQ.call0 hm_0 rfl rfl (by decide) rfl (as := [.ref 1]) (rest := []) rfl rfl (ok_assign hq225) ?_
        refine OEndsQ.adv hm_0 2 (pc' := 494) (L' := [.val (.ref 0), .val (.ref 1), .val (.int v2), .val (.int v3), .val (.long v4), .second, .val (.int v6), .val (.int v7), .val (.int v8), .val (.int v9), .val (.int v10), .val (.int v11), .val (.int v12), .val (.int v13), .val (.int v14), .val (.int v15), .val (.int v16), .val (.int t0), .val (.int r195), .unset, .unset, .unset, .unset, .unset]) (S' := [.int r195]) (H' := ((.inr (.inl (false, scr)) : ACell) :: bk0 n0_roomsOfType n0_roomsAtLeast n0_firstRoomOfType n0_slotActive n0_slotType n0_slotArrive n0_slotNights n0_exactCount n0_atLeastCount s196 s197 s198 n0_totalRooms n0_activeStays s199 s200 s201 [])) rfl ?_
        by_cases hc226 : r195 < (0 : Int32)
        · simp only [if_pos hc226] at h
          refine OEndsQ.ifT hm_0 rfl (q := 503) rfl ((tlt hc226).1) ?_
          refine OEndsQ.adv hm_0 1 (pc' := 504) (L' := [.val (.ref 0), .val (.ref 1), .val (.int v2), .val (.int v3), .val (.long v4), .second, .val (.int v6), .val (.int v7), .val (.int v8), .val (.int v9), .val (.int v10), .val (.int v11), .val (.int v12), .val (.int v13), .val (.int v14), .val (.int v15), .val (.int v16), .val (.int t0), .val (.int r195), .unset, .unset, .unset, .unset, .unset]) (S' := [.int 0]) (H' := ((.inr (.inl (false, scr)) : ACell) :: bk0 n0_roomsOfType n0_roomsAtLeast n0_firstRoomOfType n0_slotActive n0_slotType n0_slotArrive n0_slotNights n0_exactCount n0_atLeastCount s196 s197 s198 n0_totalRooms n0_activeStays s199 s200 s201 [])) rfl ?_
          cases h
          exact OEndsQ.iret hm_0 rfl rfl
        · simp only [if_neg hc226] at h
          refine OEndsQ.ifF hm_0 rfl ((flt hc226).1) ?_
          refine OEndsQ.adv hm_0 2 (pc' := 500) (L' := [.val (.ref 0), .val (.ref 1), .val (.int v2), .val (.int v3), .val (.long v4), .second, .val (.int v6), .val (.int v7), .val (.int v8), .val (.int v9), .val (.int v10), .val (.int v11), .val (.int v12), .val (.int v13), .val (.int v14), .val (.int v15), .val (.int v16), .val (.int t0), .val (.int r195), .unset, .unset, .unset, .unset, .unset]) (S' := [.int v3, .int r195]) (H' := ((.inr (.inl (false, scr)) : ACell) :: bk0 n0_roomsOfType n0_roomsAtLeast n0_firstRoomOfType n0_slotActive n0_slotType n0_slotArrive n0_slotNights n0_exactCount n0_atLeastCount s196 s197 s198 n0_totalRooms n0_activeStays s199 s200 s201 [])) rfl ?_
          by_cases hc227 : v3 < r195
          · simp only [if_pos hc227] at h
            refine OEndsQ.icmpF hm_0 rfl ((tlt hc227).2.2.2) ?_
            refine OEndsQ.adv hm_0 1 (pc' := 504) (L' := [.val (.ref 0), .val (.ref 1), .val (.int v2), .val (.int v3), .val (.long v4), .second, .val (.int v6), .val (.int v7), .val (.int v8), .val (.int v9), .val (.int v10), .val (.int v11), .val (.int v12), .val (.int v13), .val (.int v14), .val (.int v15), .val (.int v16), .val (.int t0), .val (.int r195), .unset, .unset, .unset, .unset, .unset]) (S' := [.int 0]) (H' := ((.inr (.inl (false, scr)) : ACell) :: bk0 n0_roomsOfType n0_roomsAtLeast n0_firstRoomOfType n0_slotActive n0_slotType n0_slotArrive n0_slotNights n0_exactCount n0_atLeastCount s196 s197 s198 n0_totalRooms n0_activeStays s199 s200 s201 [])) rfl ?_
            cases h
            exact OEndsQ.iret hm_0 rfl rfl
          · simp only [if_neg hc227] at h
            refine OEndsQ.icmpT hm_0 rfl (q := 505) rfl ((flt hc227).2.2.2) ?_
            refine OEndsQ.adv hm_0 6 (pc' := 514) (L' := [.val (.ref 0), .val (.ref 1), .val (.int v2), .val (.int v3), .val (.long v4), .second, .val (.int 1), .val (.int v7), .val (.int v8), .val (.int v9), .val (.int v10), .val (.int v11), .val (.int v12), .val (.int v13), .val (.int v14), .val (.int v15), .val (.int v16), .val (.int t0), .val (.long 0), .second, .val (.int 0), .unset, .unset, .unset]) (S' := []) (H' := ((.inr (.inl (false, scr)) : ACell) :: bk0 n0_roomsOfType n0_roomsAtLeast n0_firstRoomOfType n0_slotActive n0_slotType n0_slotArrive n0_slotNights n0_exactCount n0_atLeastCount s196 s197 s198 n0_totalRooms n0_activeStays s199 s200 s201 [])) rfl ?_
            exact ok_L_law_514 (k630 := f_L_law_630 kb scr) (ok_L_law_630 hkb) 100000 h
theorem ok_L_law_36 {scr : List Int32} : ∀ (n : Nat), ∀ {n0_roomsAtLeast : List Int32} {n0_firstRoomOfType : List Int32} {n0_slotActive : List Int32} {n0_slotType : List Int32} {n0_slotArrive : List Int32} {n0_slotNights : List Int32} {n0_exactCount : List Int32} {n0_atLeastCount : List Int32} {n0_planRoom : List Int32} {n0_planGrid : List Int32} {n0_planOrder : List Int32} {n0_totalRooms : Int32} {n0_activeStays : Int32} {n0_planOrderLength : Int32} {n0_planCurrent : Int32} {n0_planUnplaced : Int32} {v2 : Int32} {v3 : Int32} {v4 : Int64} {v6 : Int32} {v7 : Int32} {v8 : Int32} {v9 : Int32} {v10 : Int32} {v11 : Int32} {n0_roomsOfType : List Int32} {d12 d13 d14 d15 d16 d17 d18 d19 d20 d21 d22 d23 : Slot} {res : Int32}, f_L_law_36 scr n n0_roomsAtLeast n0_firstRoomOfType n0_slotActive n0_slotType n0_slotArrive n0_slotNights n0_exactCount n0_atLeastCount n0_planRoom n0_planGrid n0_planOrder n0_totalRooms n0_activeStays n0_planOrderLength n0_planCurrent n0_planUnplaced v2 v3 v4 v6 v7 v8 v9 v10 v11 = some res → OEndsQ own_P 0 36 [.val (.ref 0), .val (.ref 1), .val (.int v2), .val (.int v3), .val (.long v4), .second, .val (.int v6), .val (.int v7), .val (.int v8), .val (.int v9), .val (.int v10), .val (.int v11), d12, d13, d14, d15, d16, d17, d18, d19, d20, d21, d22, d23] [] ((.inr (.inl (false, scr)) : ACell) :: bk0 n0_roomsOfType n0_roomsAtLeast n0_firstRoomOfType n0_slotActive n0_slotType n0_slotArrive n0_slotNights n0_exactCount n0_atLeastCount n0_planRoom n0_planGrid n0_planOrder n0_totalRooms n0_activeStays n0_planOrderLength n0_planCurrent n0_planUnplaced []) (LawQ res 0 0) := by
  intro n
  induction n with
  | zero => intro n0_roomsAtLeast n0_firstRoomOfType n0_slotActive n0_slotType n0_slotArrive n0_slotNights n0_exactCount n0_atLeastCount n0_planRoom n0_planGrid n0_planOrder n0_totalRooms n0_activeStays n0_planOrderLength n0_planCurrent n0_planUnplaced v2 v3 v4 v6 v7 v8 v9 v10 v11 n0_roomsOfType d12 d13 d14 d15 d16 d17 d18 d19 d20 d21 d22 d23 res h; cases h
  | succ n ih =>
    intro n0_roomsAtLeast n0_firstRoomOfType n0_slotActive n0_slotType n0_slotArrive n0_slotNights n0_exactCount n0_atLeastCount n0_planRoom n0_planGrid n0_planOrder n0_totalRooms n0_activeStays n0_planOrderLength n0_planCurrent n0_planUnplaced v2 v3 v4 v6 v7 v8 v9 v10 v11 n0_roomsOfType d12 d13 d14 d15 d16 d17 d18 d19 d20 d21 d22 d23 res h
    unfold f_L_law_36 at h
    refine OEndsQ.adv hm_0 5 (pc' := 42) (L' := [.val (.ref 0), .val (.ref 1), .val (.int v2), .val (.int v3), .val (.long v4), .second, .val (.int v6), .val (.int v7), .val (.int v8), .val (.int v9), .val (.int v10), .val (.int v11), .unset, .unset, .unset, .unset, .unset, .unset, .unset, .unset, .unset, .unset, .unset, .unset]) (S' := [.int scr.length.toInt32, .int (v11 + (4 : Int32))]) (H' := ((.inr (.inl (false, scr)) : ACell) :: bk0 n0_roomsOfType n0_roomsAtLeast n0_firstRoomOfType n0_slotActive n0_slotType n0_slotArrive n0_slotNights n0_exactCount n0_atLeastCount n0_planRoom n0_planGrid n0_planOrder n0_totalRooms n0_activeStays n0_planOrderLength n0_planCurrent n0_planUnplaced [])) rfl ?_
    by_cases hc228 : (v11 + (4 : Int32)) < scr.length.toInt32
    · simp only [if_pos hc228] at h
      refine OEndsQ.icmpF hm_0 rfl ((tlt hc228).2.1) ?_
      refine OEndsQ.adv hm_0 2 (pc' := 48) (L' := [.val (.ref 0), .val (.ref 1), .val (.int v2), .val (.int v3), .val (.long v4), .second, .val (.int v6), .val (.int v7), .val (.int v8), .val (.int v9), .val (.int v10), .val (.int v11), .unset, .unset, .unset, .unset, .unset, .unset, .unset, .unset, .unset, .unset, .unset, .unset]) (S' := [.int v11, .ref 0]) (H' := ((.inr (.inl (false, scr)) : ACell) :: bk0 n0_roomsOfType n0_roomsAtLeast n0_firstRoomOfType n0_slotActive n0_slotType n0_slotArrive n0_slotNights n0_exactCount n0_atLeastCount n0_planRoom n0_planGrid n0_planOrder n0_totalRooms n0_activeStays n0_planOrderLength n0_planCurrent n0_planUnplaced [])) rfl ?_
      obtain ⟨x190, hx190, h⟩ := bnd h
      refine OEndsQ.plain hm_0 rfl rfl (x_iaload rfl hx190) ?_
      refine OEndsQ.adv hm_0 7 (pc' := 58) (L' := [.val (.ref 0), .val (.ref 1), .val (.int v2), .val (.int v3), .val (.long v4), .second, .val (.int v6), .val (.int v7), .val (.int v8), .val (.int v9), .val (.int v10), .val (.int v11), .val (.int (x190 &&& (3 : Int32))), .unset, .unset, .unset, .unset, .unset, .unset, .unset, .unset, .unset, .unset, .unset]) (S' := [.int (v11 + (1 : Int32)), .ref 0]) (H' := ((.inr (.inl (false, scr)) : ACell) :: bk0 n0_roomsOfType n0_roomsAtLeast n0_firstRoomOfType n0_slotActive n0_slotType n0_slotArrive n0_slotNights n0_exactCount n0_atLeastCount n0_planRoom n0_planGrid n0_planOrder n0_totalRooms n0_activeStays n0_planOrderLength n0_planCurrent n0_planUnplaced [])) rfl ?_
      obtain ⟨x191, hx191, h⟩ := bnd h
      refine OEndsQ.plain hm_0 rfl rfl (x_iaload rfl hx191) ?_
      refine OEndsQ.adv hm_0 7 (pc' := 68) (L' := [.val (.ref 0), .val (.ref 1), .val (.int v2), .val (.int v3), .val (.long v4), .second, .val (.int v6), .val (.int v7), .val (.int v8), .val (.int v9), .val (.int v10), .val (.int v11), .val (.int (x190 &&& (3 : Int32))), .val (.int (x191 &&& (3 : Int32))), .unset, .unset, .unset, .unset, .unset, .unset, .unset, .unset, .unset, .unset]) (S' := [.int (v11 + (2 : Int32)), .ref 0]) (H' := ((.inr (.inl (false, scr)) : ACell) :: bk0 n0_roomsOfType n0_roomsAtLeast n0_firstRoomOfType n0_slotActive n0_slotType n0_slotArrive n0_slotNights n0_exactCount n0_atLeastCount n0_planRoom n0_planGrid n0_planOrder n0_totalRooms n0_activeStays n0_planOrderLength n0_planCurrent n0_planUnplaced [])) rfl ?_
      obtain ⟨x192, hx192, h⟩ := bnd h
      refine OEndsQ.plain hm_0 rfl rfl (x_iaload rfl hx192) ?_
      refine OEndsQ.adv hm_0 7 (pc' := 79) (L' := [.val (.ref 0), .val (.ref 1), .val (.int v2), .val (.int v3), .val (.long v4), .second, .val (.int v6), .val (.int v7), .val (.int v8), .val (.int v9), .val (.int v10), .val (.int v11), .val (.int (x190 &&& (3 : Int32))), .val (.int (x191 &&& (3 : Int32))), .val (.int (x192 &&& (31 : Int32))), .unset, .unset, .unset, .unset, .unset, .unset, .unset, .unset, .unset]) (S' := [.int (v11 + (3 : Int32)), .ref 0]) (H' := ((.inr (.inl (false, scr)) : ACell) :: bk0 n0_roomsOfType n0_roomsAtLeast n0_firstRoomOfType n0_slotActive n0_slotType n0_slotArrive n0_slotNights n0_exactCount n0_atLeastCount n0_planRoom n0_planGrid n0_planOrder n0_totalRooms n0_activeStays n0_planOrderLength n0_planCurrent n0_planUnplaced [])) rfl ?_
      obtain ⟨x193, hx193, h⟩ := bnd h
      refine OEndsQ.plain hm_0 rfl rfl (x_iaload rfl hx193) ?_
      refine OEndsQ.adv hm_0 9 (pc' := 92) (L' := [.val (.ref 0), .val (.ref 1), .val (.int v2), .val (.int v3), .val (.long v4), .second, .val (.int v6), .val (.int v7), .val (.int v8), .val (.int v9), .val (.int v10), .val (.int v11), .val (.int (x190 &&& (3 : Int32))), .val (.int (x191 &&& (3 : Int32))), .val (.int (x192 &&& (31 : Int32))), .val (.int ((x193 &&& (7 : Int32)) + (1 : Int32))), .unset, .unset, .unset, .unset, .unset, .unset, .unset, .unset]) (S' := [.int (v11 + (4 : Int32)), .ref 0]) (H' := ((.inr (.inl (false, scr)) : ACell) :: bk0 n0_roomsOfType n0_roomsAtLeast n0_firstRoomOfType n0_slotActive n0_slotType n0_slotArrive n0_slotNights n0_exactCount n0_atLeastCount n0_planRoom n0_planGrid n0_planOrder n0_totalRooms n0_activeStays n0_planOrderLength n0_planCurrent n0_planUnplaced [])) rfl ?_
      obtain ⟨x194, hx194, h⟩ := bnd h
      refine OEndsQ.plain hm_0 rfl rfl (x_iaload rfl hx194) ?_
      refine OEndsQ.adv hm_0 8 (pc' := 104) (L' := [.val (.ref 0), .val (.ref 1), .val (.int v2), .val (.int v3), .val (.long v4), .second, .val (.int v6), .val (.int v7), .val (.int v8), .val (.int v9), .val (.int v10), .val (.int v11), .val (.int (x190 &&& (3 : Int32))), .val (.int (x191 &&& (3 : Int32))), .val (.int (x192 &&& (31 : Int32))), .val (.int ((x193 &&& (7 : Int32)) + (1 : Int32))), .val (.int (x194 &&& (7 : Int32))), .unset, .unset, .unset, .unset, .unset, .unset, .unset]) (S' := [.int ((XT.ushr v2 (x194 &&& (7 : Int32))) &&& (1 : Int32))]) (H' := ((.inr (.inl (false, scr)) : ACell) :: bk0 n0_roomsOfType n0_roomsAtLeast n0_firstRoomOfType n0_slotActive n0_slotType n0_slotArrive n0_slotNights n0_exactCount n0_atLeastCount n0_planRoom n0_planGrid n0_planOrder n0_totalRooms n0_activeStays n0_planOrderLength n0_planCurrent n0_planUnplaced [])) rfl ?_
      by_cases hc229 : ((XT.ushr v2 (x194 &&& (7 : Int32))) &&& (1 : Int32)) = (0 : Int32)
      · simp only [if_pos hc229] at h
        refine OEndsQ.ifT hm_0 rfl (q := 111) rfl ((teq hc229).1) ?_
        refine OEndsQ.adv hm_0 1 (pc' := 112) (L' := [.val (.ref 0), .val (.ref 1), .val (.int v2), .val (.int v3), .val (.long v4), .second, .val (.int v6), .val (.int v7), .val (.int v8), .val (.int v9), .val (.int v10), .val (.int v11), .val (.int (x190 &&& (3 : Int32))), .val (.int (x191 &&& (3 : Int32))), .val (.int (x192 &&& (31 : Int32))), .val (.int ((x193 &&& (7 : Int32)) + (1 : Int32))), .val (.int (x194 &&& (7 : Int32))), .unset, .unset, .unset, .unset, .unset, .unset, .unset]) (S' := [.int 0]) (H' := ((.inr (.inl (false, scr)) : ACell) :: bk0 n0_roomsOfType n0_roomsAtLeast n0_firstRoomOfType n0_slotActive n0_slotType n0_slotArrive n0_slotNights n0_exactCount n0_atLeastCount n0_planRoom n0_planGrid n0_planOrder n0_totalRooms n0_activeStays n0_planOrderLength n0_planCurrent n0_planUnplaced [])) rfl ?_
        exact ok_L_law_112 ih h
      · simp only [if_neg hc229] at h
        refine OEndsQ.ifF hm_0 rfl ((feq hc229).1) ?_
        refine OEndsQ.adv hm_0 2 (pc' := 112) (L' := [.val (.ref 0), .val (.ref 1), .val (.int v2), .val (.int v3), .val (.long v4), .second, .val (.int v6), .val (.int v7), .val (.int v8), .val (.int v9), .val (.int v10), .val (.int v11), .val (.int (x190 &&& (3 : Int32))), .val (.int (x191 &&& (3 : Int32))), .val (.int (x192 &&& (31 : Int32))), .val (.int ((x193 &&& (7 : Int32)) + (1 : Int32))), .val (.int (x194 &&& (7 : Int32))), .unset, .unset, .unset, .unset, .unset, .unset, .unset]) (S' := [.int 1]) (H' := ((.inr (.inl (false, scr)) : ACell) :: bk0 n0_roomsOfType n0_roomsAtLeast n0_firstRoomOfType n0_slotActive n0_slotType n0_slotArrive n0_slotNights n0_exactCount n0_atLeastCount n0_planRoom n0_planGrid n0_planOrder n0_totalRooms n0_activeStays n0_planOrderLength n0_planCurrent n0_planUnplaced [])) rfl ?_
        exact ok_L_law_112 ih h
    · simp only [if_neg hc228] at h
      refine OEndsQ.icmpT hm_0 rfl (q := 707) rfl ((flt hc228).2.1) ?_
      refine OEndsQ.adv hm_0 1 (pc' := 708) (L' := [.val (.ref 0), .val (.ref 1), .val (.int v2), .val (.int v3), .val (.long v4), .second, .val (.int v6), .val (.int v7), .val (.int v8), .val (.int v9), .val (.int v10), .val (.int v11), .unset, .unset, .unset, .unset, .unset, .unset, .unset, .unset, .unset, .unset, .unset, .unset]) (S' := [.int 1]) (H' := ((.inr (.inl (false, scr)) : ACell) :: bk0 n0_roomsOfType n0_roomsAtLeast n0_firstRoomOfType n0_slotActive n0_slotType n0_slotArrive n0_slotNights n0_exactCount n0_atLeastCount n0_planRoom n0_planGrid n0_planOrder n0_totalRooms n0_activeStays n0_planOrderLength n0_planCurrent n0_planUnplaced [])) rfl ?_
      cases h
      exact OEndsQ.iret hm_0 rfl rfl
theorem ok_L_law {scr : List Int32} {res : Int32} (h : f_L_law scr = some res) : OEndsQ own_P 0 0 [.val (.ref 0), .unset, .unset, .unset, .unset, .unset, .unset, .unset, .unset, .unset, .unset, .unset, .unset, .unset, .unset, .unset, .unset, .unset, .unset, .unset, .unset, .unset, .unset, .unset] [] ((.inr (.inl (false, scr)) : ACell) :: []) (LawQ res 13 1178) := by
  unfold f_L_law at h
  refine OEndsQ.made hm_0 rfl rfl (ks := 17) (c0 := 12) (s0 := 1161) rfl (Nat.le_of_ble_eq_true rfl) (Nat.le_of_ble_eq_true rfl) ?_
  refine OEndsQ.adv hm_0 4 (pc' := 7) (L' := [.val (.ref 0), .unset, .unset, .unset, .unset, .unset, .unset, .unset, .unset, .unset, .unset, .unset, .unset, .unset, .unset, .unset, .unset, .unset, .unset, .unset, .unset, .unset, .unset, .unset]) (S' := [.int 1, .int 2, .int 2, .ref 1, .ref 1]) (H' := ((.inr (.inl (false, scr)) : ACell) :: (.inl (0, [.null, .null, .null, .null, .null, .null, .null, .null, .null, .null, .null, .null, .int 0, .int 0, .int 0, .int 0, .int 0]) : ACell) :: [])) rfl ?_
  obtain ⟨⟨s173, s174, s175, s176, s177, s178, s179, s180, s181, s182, s183, s184, s185, s186, s187, s188, s189⟩, hq230, h⟩ := bnd h
  refine OEndsQ.callN hm_0 rfl rfl (by decide) rfl (as := [.ref 1, .int 2, .int 2, .int 1]) (rest := [.ref 1]) rfl rfl (c0 := 0) (s0 := 0) (ok_init hq230) (Nat.le_of_ble_eq_true rfl) (Nat.le_of_ble_eq_true rfl) ?_
  refine OEndsQ.adv hm_0 19 (pc' := 36) (L' := [.val (.ref 0), .val (.ref 1), .val (.int 0), .val (.int 0), .val (.long 0), .second, .val (.int 0), .val (.int (-1)), .val (.int 0), .val (.int 0), .val (.int 0), .val (.int 0), .unset, .unset, .unset, .unset, .unset, .unset, .unset, .unset, .unset, .unset, .unset, .unset]) (S' := []) (H' := ((.inr (.inl (false, scr)) : ACell) :: bk0 s173 s174 s175 s176 s177 s178 s179 s180 s181 s182 s183 s184 s185 s186 s187 s188 s189 [])) rfl ?_
  exact ok_L_law_36 100000 h
/-! The planner -/
theorem own_w0 {α : Type} (a x : α) (t : List α) : wrA (a :: t) 0 x = some (x :: t) := by
  have h : ¬ (0 : Int32) < 0 := by decide
  have e : (0 : Int32).toNatClampNeg = 0 := rfl
  simp [wrA, h, e]
theorem own_w1 {α : Type} (a b x : α) (t : List α) : wrA (a :: b :: t) 1 x = some (a :: x :: t) := by
  have h : ¬ (1 : Int32) < 0 := by decide
  have e : (1 : Int32).toNatClampNeg = 1 := rfl
  simp [wrA, h, e]
theorem own_w2 {α : Type} (a b c x : α) (t : List α) : wrA (a :: b :: c :: t) 2 x = some (a :: b :: x :: t) := by
  have h : ¬ (2 : Int32) < 0 := by decide
  have e : (2 : Int32).toNatClampNeg = 2 := rfl
  simp [wrA, h, e]
theorem own_r0 {α : Type} (a : α) (t : List α) : rdA (a :: t) 0 = some a := by
  have h : ¬ (0 : Int32) < 0 := by decide
  have e : (0 : Int32).toNatClampNeg = 0 := rfl
  simp [rdA, h, e]
theorem own_r1 {α : Type} (a b : α) (t : List α) : rdA (a :: b :: t) 1 = some b := by
  have h : ¬ (1 : Int32) < 0 := by decide
  have e : (1 : Int32).toNatClampNeg = 1 := rfl
  simp [rdA, h, e]
theorem own_r2 {α : Type} (a b c : α) (t : List α) : rdA (a :: b :: c :: t) 2 = some c := by
  have h : ¬ (2 : Int32) < 0 := by decide
  have e : (2 : Int32).toNatClampNeg = 2 := rfl
  simp [rdA, h, e]
/-- a loop that fills from the front -/
theorem own_fill {α : Type} (a b : α) (i m : Nat) {j : Int32} (hj : j.toInt = i) : wrA (List.replicate i a ++ List.replicate (m + 1) b) j a = some (List.replicate (i + 1) a ++ List.replicate m b) := by
  rw [wrA_in (by omega) (by rw [List.length_append, List.length_replicate, List.length_replicate]; omega)]
  have e : j.toInt.toNat = i := by omega
  rw [e, List.set_append_right _ _ (by simp), List.length_replicate, Nat.sub_self, List.replicate_succ, List.set_cons_zero, List.replicate_succ' (n := i), List.append_assoc]
  (first | done | rfl | simp)
theorem own_rs2 : ∀ (m n i : Nat) (s j : Int32), m < n → j.toInt = i → i + m = 32 →
    f_resetStays_2 n (List.replicate i 0 ++ List.replicate m 0) (List.replicate i 0 ++ List.replicate m 0) (List.replicate i 0 ++ List.replicate m 0) (List.replicate i 0 ++ List.replicate m 0) s j = some (List.replicate 32 0, List.replicate 32 0, List.replicate 32 0, List.replicate 32 0, 0) := by
  intro m
  induction m with
  | zero =>
    intro n i s j h1 h2 h3
    obtain ⟨n, rfl⟩ : ∃ n', n = n' + 1 := ⟨n - 1, by omega⟩
    unfold f_resetStays_2
    have e : i = 32 := by omega
    rw [if_neg (by ((try simp only [ilt, ile, ieq, iadd_e, isub_e, imul_e, Int32.reduceToInt] at *) <;> omega)), e]
    (first | done | rfl | simp)
  | succ m ih =>
    intro n i s j h1 h2 h3
    obtain ⟨n, rfl⟩ : ∃ n', n = n' + 1 := ⟨n - 1, by omega⟩
    unfold f_resetStays_2
    rw [if_pos (by clear ih; ((try simp only [ilt, ile, ieq, iadd_e, isub_e, imul_e, Int32.reduceToInt] at *) <;> omega)), own_fill 0 0 i m h2]
    simp only [Option.bind_some]
    exact ih n (i + 1) s (j + 1) (by omega) (by clear ih; ((try simp only [ilt, ile, ieq, iadd_e, isub_e, imul_e, Int32.reduceToInt] at *) <;> omega)) (by omega)
theorem own_rs : f_resetStays (List.replicate 32 0) (List.replicate 32 0) (List.replicate 32 0) (List.replicate 32 0) 0 = some (List.replicate 32 0, List.replicate 32 0, List.replicate 32 0, List.replicate 32 0, 0) := by
  unfold f_resetStays
  exact own_rs2 32 100000 0 0 0 (by decide) rfl rfl
theorem own_rc2 : ∀ (m n i : Nat) (j : Int32), m < n → j.toInt = i → i + m = 96 →
    f_resetCounts_2 n (List.replicate i 0 ++ List.replicate m 0) (List.replicate i 0 ++ List.replicate m 0) j = some (List.replicate 96 0, List.replicate 96 0) := by
  intro m
  induction m with
  | zero =>
    intro n i j h1 h2 h3
    obtain ⟨n, rfl⟩ : ∃ n', n = n' + 1 := ⟨n - 1, by omega⟩
    unfold f_resetCounts_2
    have e : i = 96 := by omega
    rw [if_neg (by ((try simp only [ilt, ile, ieq, iadd_e, isub_e, imul_e, Int32.reduceToInt] at *) <;> omega)), e]
    (first | done | rfl | simp)
  | succ m ih =>
    intro n i j h1 h2 h3
    obtain ⟨n, rfl⟩ : ∃ n', n = n' + 1 := ⟨n - 1, by omega⟩
    unfold f_resetCounts_2
    rw [if_pos (by clear ih; ((try simp only [ilt, ile, ieq, iadd_e, isub_e, imul_e, Int32.reduceToInt] at *) <;> omega)), own_fill 0 0 i m h2]
    simp only [Option.bind_some]
    exact ih n (i + 1) (j + 1) (by omega) (by clear ih; ((try simp only [ilt, ile, ieq, iadd_e, isub_e, imul_e, Int32.reduceToInt] at *) <;> omega)) (by omega)
theorem own_rc : f_resetCounts (List.replicate 96 0) (List.replicate 96 0) = some (List.replicate 96 0, List.replicate 96 0) := by
  unfold f_resetCounts
  exact own_rc2 96 100000 0 0 (by decide) rfl rfl
theorem own_cp30 (R O : List Int32) (l : Int32) : ∀ (m n i : Nat) (j : Int32), m < n → j.toInt = i → i + m = 768 →
    f_clearPlan_30 n R (List.replicate i (-1) ++ List.replicate m 0) O l j = some (R, List.replicate 768 (-1), O, 0) := by
  intro m
  induction m with
  | zero =>
    intro n i j h1 h2 h3
    obtain ⟨n, rfl⟩ : ∃ n', n = n' + 1 := ⟨n - 1, by omega⟩
    unfold f_clearPlan_30
    have e : i = 768 := by omega
    rw [if_neg (by ((try simp only [ilt, ile, ieq, iadd_e, isub_e, imul_e, Int32.reduceToInt] at *) <;> omega)), e, List.replicate_zero, List.append_nil]
  | succ m ih =>
    intro n i j h1 h2 h3
    obtain ⟨n, rfl⟩ : ∃ n', n = n' + 1 := ⟨n - 1, by omega⟩
    unfold f_clearPlan_30
    rw [if_pos (by clear ih; ((try simp only [ilt, ile, ieq, iadd_e, isub_e, imul_e, Int32.reduceToInt] at *) <;> omega)), own_fill (-1) 0 i m h2, Option.bind_some]
    exact ih n (i + 1) (j + 1) (by omega) (by clear ih; ((try simp only [ilt, ile, ieq, iadd_e, isub_e, imul_e, Int32.reduceToInt] at *) <;> omega)) (by omega)
theorem own_cp2 (G : List Int32) (l : Int32) (k30 : List Int32 → List Int32 → List Int32 → Int32 → Int32 → Option (List Int32 × List Int32 × List Int32 × Int32)) : ∀ (m n i : Nat) (j : Int32), m < n → j.toInt = i → i + m = 32 →
    f_clearPlan_2 k30 n (List.replicate i (-1) ++ List.replicate m 0) G (List.replicate i 0 ++ List.replicate m 0) l j = k30 (List.replicate 32 (-1)) G (List.replicate 32 0) l 0 := by
  intro m
  induction m with
  | zero =>
    intro n i j h1 h2 h3
    obtain ⟨n, rfl⟩ : ∃ n', n = n' + 1 := ⟨n - 1, by omega⟩
    unfold f_clearPlan_2
    have e : i = 32 := by omega
    rw [if_neg (by ((try simp only [ilt, ile, ieq, iadd_e, isub_e, imul_e, Int32.reduceToInt] at *) <;> omega)), e, List.replicate_zero, List.append_nil, List.append_nil]
  | succ m ih =>
    intro n i j h1 h2 h3
    obtain ⟨n, rfl⟩ : ∃ n', n = n' + 1 := ⟨n - 1, by omega⟩
    unfold f_clearPlan_2
    rw [if_pos (by clear ih; ((try simp only [ilt, ile, ieq, iadd_e, isub_e, imul_e, Int32.reduceToInt] at *) <;> omega)), own_fill (-1) 0 i m h2, Option.bind_some, own_fill 0 0 i m h2, Option.bind_some]
    exact ih n (i + 1) (j + 1) (by omega) (by clear ih; ((try simp only [ilt, ile, ieq, iadd_e, isub_e, imul_e, Int32.reduceToInt] at *) <;> omega)) (by omega)
theorem own_cp : f_clearPlan (List.replicate 32 0) (List.replicate 768 0) (List.replicate 32 0) 0 = some (List.replicate 32 (-1), List.replicate 768 (-1), List.replicate 32 0, 0) := by
  unfold f_clearPlan
  have a := own_cp2 (List.replicate 768 0) 0 (f_clearPlan_30 100000) 32 100000 0 0 (by decide) rfl rfl
  have b := own_cp30 (List.replicate 32 (-1)) (List.replicate 32 0) 0 768 100000 0 0 (by decide) rfl rfl
  rw [List.replicate_zero, List.nil_append, List.replicate_zero, List.nil_append] at a
  rw [List.replicate_zero, List.nil_append] at b
  rw [a, b]
def own_cl (v : Int32) : Int32 := if v < (0 : Int32) then (0 : Int32) else (if (8 : Int32) < v then (8 : Int32) else v)
theorem own_cl_rng (v : Int32) : 0 ≤ (own_cl v).toInt ∧ (own_cl v).toInt ≤ 8 := by
  unfold own_cl
  have e0 : (0 : Int32).toInt = 0 := rfl
  have e8 : (8 : Int32).toInt = 8 := rfl
  split
  · decide
  · rename_i g
    split
    · decide
    · rename_i g2
      rw [ilt] at g g2
      omega
theorem own_init (v1 v2 v3 : Int32) : f_init v1 v2 v3 = some ([own_cl v1, own_cl v2, own_cl v3], [own_cl v1 + own_cl v2 + own_cl v3, own_cl v2 + own_cl v3, own_cl v3], [0, own_cl v1, own_cl v1 + own_cl v2], List.replicate 32 0, List.replicate 32 0, List.replicate 32 0, List.replicate 32 0, List.replicate 96 0, List.replicate 96 0, List.replicate 32 (-1), List.replicate 768 (-1), List.replicate 32 0, own_cl v1 + own_cl v2 + own_cl v3, 0, 0, 0, 0) := by
  have e3 : (List.replicate 3 0 : List Int32) = [0, 0, 0] := rfl
  have a1 : ∀ v, f_clampRooms v = some (own_cl v) := fun v => rfl
  simp only [f_init, a1, Option.bind_some, e3, own_w0, own_w1, own_w2, f_computeRoomTables, own_r0, own_r1, own_r2, own_rs, own_rc, own_cp]
theorem own_type (v : Int32) : v < 0 ∨ (2 : Int32) < v ∨ v = 0 ∨ v = 1 ∨ v = 2 := by
  simp only [ilt, ieq, Int32.reduceToInt]
  omega
theorem own_night (v : Int32) : v < 0 ∨ (31 : Int32) < v ∨ (0 ≤ v.toInt ∧ v.toInt ≤ 31) := by
  simp only [ilt, Int32.reduceToInt]
  omega
/-! What a stay adds to the counts -/
def own_wn (w m : Int32) : Prop := 0 ≤ w.toInt ∧ w.toInt < 3 ∧ 0 ≤ m.toInt ∧ m.toInt < 32
theorem own_wx {w m : Int32} (h : own_wn w m) : (w * 32 + m).toInt = w.toInt * 32 + m.toInt := by
  obtain ⟨a, b, c, d⟩ := h
  ((try simp only [ilt, ile, ieq, iadd_e, isub_e, imul_e, Int32.reduceToInt] at *) <;> omega)
theorem own_ix_ne {w m u n : Int32} (h : own_wn w m) (g : own_wn u n) : (u * 32 + n = w * 32 + m) ↔ (w.toInt = u.toInt ∧ m.toInt = n.toInt) := by
  rw [ieq, own_wx h, own_wx g]
  obtain ⟨a, b, c, d⟩ := h
  obtain ⟨a', b', c', d'⟩ := g
  omega
theorem own_set2 {A : List Int32} (hA : A.length = 96) {u n w m x : Int32} (g : own_wn u n) (h : own_wn w m) : gI (A.set (u * 32 + n).toInt.toNat x) (w * 32 + m) = if w.toInt = u.toInt ∧ m.toInt = n.toInt then x else gI A (w * 32 + m) := by
  have e1 := own_wx h
  have e2 := own_wx g
  have q := own_ix_ne h g
  obtain ⟨a, b, c, d⟩ := h
  obtain ⟨a', b', c', d'⟩ := g
  rw [gset (by omega) (by omega) (by omega)]
  by_cases k : w.toInt = u.toInt ∧ m.toInt = n.toInt
  · rw [if_pos k, if_pos (q.mpr k)]
  · rw [if_neg k, if_neg (fun z => k (q.mp z))]
theorem own_adj84 {Q : List Int32 × List Int32 → Prop} (k53 : List Int32 → List Int32 → Int32 → Int32 → Int32 → Int32 → Option (List Int32 × List Int32)) (ST SA SN EX AL0 : List Int32) (δ ty e n : Int32) (ht0 : 0 ≤ ty.toInt) (ht2 : ty.toInt ≤ 2) (hn0 : 0 ≤ n.toInt) (hn : n.toInt < 32)
    (hk : ∀ AL' : List Int32, AL'.length = 96 → (∀ w m : Int32, own_wn w m → gI AL' (w * 32 + m) = gI AL0 (w * 32 + m) + (if m.toInt = n.toInt ∧ w.toInt ≤ ty.toInt then δ else 0)) → Tot (k53 EX AL' δ ty e (n + 1)) Q) :
    ∀ (fuel : Nat) (AL : List Int32) (u : Int32), AL.length = 96 → 0 ≤ u.toInt → u.toInt ≤ ty.toInt + 1 → 3 - u.toInt < fuel → (∀ w m : Int32, own_wn w m → gI AL (w * 32 + m) = gI AL0 (w * 32 + m) + (if m.toInt = n.toInt ∧ w.toInt < u.toInt then δ else 0)) → Tot (f_adjustCoverage_84 k53 ST SA SN fuel EX AL δ ty e n u) Q := by
  intro fuel
  induction fuel with
  | zero => intro AL u h1 h2 h3 h4; exfalso; omega
  | succ fuel ih =>
    intro AL u h1 h2 h3 h4 h5
    unfold f_adjustCoverage_84
    refine Tot.ite (fun g => ?_) (fun g => ?_)
    · have g' := ilt.mp g
      refine hk AL h1 (fun w m hw => ?_)
      rw [h5 w m hw]
      have hi := hw
      obtain ⟨a, b, c, d⟩ := hi
      by_cases k : m.toInt = n.toInt ∧ w.toInt ≤ ty.toInt
      · rw [if_pos k, if_pos ⟨k.1, by omega⟩]
      · rw [if_neg k, if_neg (fun z => k ⟨z.1, by omega⟩)]
    · have g' : ¬ ty.toInt < u.toInt := fun z => g (ilt.mpr z)
      have gu : own_wn u n := ⟨h2, by omega, hn0, hn⟩
      have ei := own_wx gu
      have eu : (u + 1).toInt = u.toInt + 1 := by clear ih h5 hk ei; ((try simp only [ilt, ile, ieq, iadd_e, isub_e, imul_e, Int32.reduceToInt] at *) <;> omega)
      unfold f_countIndex
      rw [Option.bind_some]
      refine Tot.rdI (by omega) (by omega) (Tot.wr (by omega) (by omega) (fun A' q1 q2 => ?_))
      refine ih A' (u + 1) (by omega) (by omega) (by omega) (by omega) (fun w m hw => ?_)
      rw [q1, own_set2 h1 gu hw]
      have p := h5 w m hw
      have p0 := h5 u n gu
      rw [if_neg (by omega), Int32.add_zero] at p0
      have hi := hw
      obtain ⟨a, b, c, d⟩ := hi
      by_cases k : w.toInt = u.toInt ∧ m.toInt = n.toInt
      · rw [if_pos k, p0, if_pos ⟨k.2, by omega⟩]
        have ew : w = u := ieq.mpr k.1
        have em : m = n := ieq.mpr k.2
        rw [ew, em]
      · rw [if_neg k, p]
        by_cases k2 : m.toInt = n.toInt ∧ w.toInt < u.toInt
        · rw [if_pos k2, if_pos ⟨k2.1, by omega⟩]
        · rw [if_neg k2, if_neg (fun z => by
            apply k2
            refine ⟨z.1, ?_⟩
            have z2 := z.2
            have nz : ¬ w.toInt = u.toInt := fun y => k ⟨y, z.1⟩
            omega)]
/-- exact and at-least counts after a stay's nights a .. e - 1 -/
def own_cov (EX0 AL0 : List Int32) (δ ty a e : Int32) (EX AL : List Int32) : Prop :=
  EX.length = 96 ∧ AL.length = 96 ∧ ∀ w m : Int32, own_wn w m →
    gI EX (w * 32 + m) = gI EX0 (w * 32 + m) + (if w.toInt = ty.toInt ∧ a.toInt ≤ m.toInt ∧ m.toInt < e.toInt then δ else 0) ∧
    gI AL (w * 32 + m) = gI AL0 (w * 32 + m) + (if w.toInt ≤ ty.toInt ∧ a.toInt ≤ m.toInt ∧ m.toInt < e.toInt then δ else 0)
theorem own_adj53 (ST SA SN EX0 AL0 : List Int32) (δ ty a e : Int32) (ht0 : 0 ≤ ty.toInt) (ht2 : ty.toInt ≤ 2) (ha : 0 ≤ a.toInt) (he : e.toInt ≤ 32) :
    ∀ (fuel : Nat) (EX AL : List Int32) (j : Int32), a.toInt ≤ j.toInt → j.toInt ≤ e.toInt → 32 - j.toInt < fuel → own_cov EX0 AL0 δ ty a j EX AL → Tot (f_adjustCoverage_53 ST SA SN fuel EX AL δ ty e j) (fun r => own_cov EX0 AL0 δ ty a e r.1 r.2) := by
  intro fuel
  induction fuel with
  | zero => intro EX AL j h1 h2 h3; exfalso; omega
  | succ fuel ih =>
    intro EX AL j h1 h2 h3 h4
    have e0 : (0 : Int32).toInt = 0 := rfl
    unfold f_adjustCoverage_53
    refine Tot.ite (fun g => ?_) (fun g0 => Tot.ite (fun g => ?_) (fun g => ?_))
    · exfalso
      rw [ilt] at g
      omega
    · have g' := ilt.mp g
      obtain ⟨l1, l2, h5⟩ := h4
      have gu : own_wn ty j := ⟨ht0, by omega, by omega, by omega⟩
      have ei := own_wx gu
      have ej : (j + 1).toInt = j.toInt + 1 := by clear ih h5 ei; ((try simp only [ilt, ile, ieq, iadd_e, isub_e, imul_e, Int32.reduceToInt] at *) <;> omega)
      unfold f_countIndex
      rw [Option.bind_some]
      refine Tot.rdI (by omega) (by omega) (Tot.wr (by omega) (by omega) (fun EX' q1 q2 => ?_))
      refine own_adj84 _ ST SA SN EX' AL δ ty e j ht0 ht2 (by omega) (by omega) (fun AL' l3 h6 => ?_) 100000 AL 0 l2 (by decide) (by omega) (by decide) (fun w m hw => ?_)
      · refine ih EX' AL' (j + 1) (by omega) (by omega) (by omega) ⟨by omega, l3, fun w m hw => ⟨?_, ?_⟩⟩
        · rw [q1, own_set2 l1 gu hw]
          have p := (h5 w m hw).1
          have p0 := (h5 ty j gu).1
          rw [if_neg (by omega), Int32.add_zero] at p0
          by_cases k : w.toInt = ty.toInt ∧ m.toInt = j.toInt
          · rw [if_pos k, p0, if_pos ⟨k.1, by omega, by omega⟩]
            have ew : w = ty := ieq.mpr k.1
            have em : m = j := ieq.mpr k.2
            rw [ew, em]
          · rw [if_neg k, p]
            by_cases k2 : w.toInt = ty.toInt ∧ a.toInt ≤ m.toInt ∧ m.toInt < j.toInt
            · rw [if_pos k2, if_pos ⟨k2.1, k2.2.1, by omega⟩]
            · rw [if_neg k2, if_neg (fun z => by
                apply k2
                refine ⟨z.1, z.2.1, ?_⟩
                have z2 := z.2.2
                have nz : ¬ m.toInt = j.toInt := fun y => k ⟨z.1, y⟩
                omega)]
        · rw [h6 w m hw, (h5 w m hw).2]
          by_cases k : m.toInt = j.toInt ∧ w.toInt ≤ ty.toInt
          · rw [if_pos k, if_neg (by omega), if_pos ⟨k.2, by omega, by omega⟩, Int32.add_zero]
          · rw [if_neg k, Int32.add_zero]
            by_cases k2 : w.toInt ≤ ty.toInt ∧ a.toInt ≤ m.toInt ∧ m.toInt < j.toInt
            · rw [if_pos k2, if_pos ⟨k2.1, k2.2.1, by omega⟩]
            · rw [if_neg k2, if_neg (fun z => by
                apply k2
                refine ⟨z.1, z.2.1, ?_⟩
                have z2 := z.2.2
                have nz : ¬ m.toInt = j.toInt := fun y => k ⟨y, z.1⟩
                omega)]
      · rw [if_neg (by obtain ⟨q1', -, -, -⟩ := hw; omega), Int32.add_zero]
    · have g' : ¬ j.toInt < e.toInt := fun z => g (ilt.mpr z)
      have ee : j = e := ieq.mpr (by omega)
      rw [ee] at h4
      exact Tot.mk h4
theorem own_cov0 {EX AL : List Int32} (h1 : EX.length = 96) (h2 : AL.length = 96) (δ ty a : Int32) : own_cov EX AL δ ty a a EX AL := by
  refine ⟨h1, h2, fun w m hw => ⟨?_, ?_⟩⟩
  · rw [if_neg (by omega), Int32.add_zero]
  · rw [if_neg (by omega), Int32.add_zero]
/-- a stay's coverage is added or taken back -/
theorem own_adjust {ST SA SN EX AL : List Int32} (hT : ST.length = 32) (hA : SA.length = 32) (hN : SN.length = 32) (hE : EX.length = 96) (hL : AL.length = 96) {id : Int32} (hi0 : 0 ≤ id.toInt) (hi1 : id.toInt < 32) (δ : Int32)
    (ht0 : 0 ≤ (gI ST id).toInt) (ht2 : (gI ST id).toInt ≤ 2) (ha0 : 0 ≤ (gI SA id).toInt) (hk0 : 0 ≤ (gI SN id).toInt) (hk : (gI SA id).toInt + (gI SN id).toInt ≤ 32) :
    Tot (f_adjustCoverage ST SA SN EX AL id δ) (fun r => own_cov EX AL δ (gI ST id) (gI SA id) (gI SA id + gI SN id) r.1 r.2) := by
  have e0 : (0 : Int32).toInt = 0 := rfl
  have e32 : (32 : Int32).toInt = 32 := rfl
  have e3 : (3 : Int32).toInt = 3 := rfl
  unfold f_adjustCoverage
  rw [if_neg (by rw [ilt]; omega), if_pos (by rw [ilt]; omega)]
  refine Tot.rdI hi0 (by omega) ?_
  have vt : f_isValidType (gI ST id) = some 1 := by
    unfold f_isValidType
    rw [if_neg (by rw [ilt]; omega), if_pos (by rw [ilt]; omega)]
  rw [vt, Option.bind_some, if_neg (by decide)]
  refine Tot.rdI hi0 (by omega) (Tot.rdI hi0 (by omega) ?_)
  generalize gI ST id = ty at *
  generalize gI SA id = a at *
  generalize gI SN id = k at *
  have es : (a + k).toInt = a.toInt + k.toInt := by clear vt; ((try simp only [ilt, ile, ieq, iadd_e, isub_e, imul_e, Int32.reduceToInt] at *) <;> omega)
  unfold f_endOf
  rw [if_neg (by rw [ilt]; omega), Option.bind_some]
  exact own_adj53 ST SA SN EX AL δ ty a (a + k) ht0 ht2 ha0 (by omega) 100000 EX AL a (by omega) (by omega) (by omega) (own_cov0 hE hL δ ty a)
/-! The planner's calls, for any state -/
abbrev own_PS (AC ST SA SN EX AL : List Int32) : Prop := (AC.length = 32) ∧ (ST.length = 32) ∧ (SA.length = 32) ∧ (SN.length = 32) ∧ (EX.length = 96) ∧ (AL.length = 96) ∧ (∀ id : Int32, 0 ≤ id.toInt → id.toInt < 32 → (gI AC id = 0 ∧ gI ST id = 0 ∧ gI SA id = 0 ∧ gI SN id = 0) ∨ (gI AC id = 1 ∧ 0 ≤ (gI ST id).toInt ∧ (gI ST id).toInt ≤ 2 ∧ 0 ≤ (gI SA id).toInt ∧ 1 ≤ (gI SN id).toInt ∧ (gI SA id).toInt + (gI SN id).toInt ≤ 32))
theorem own_PS.lC {AC ST SA SN EX AL : List Int32} (self : own_PS AC ST SA SN EX AL) : AC.length = 32 := self.1
theorem own_PS.lT {AC ST SA SN EX AL : List Int32} (self : own_PS AC ST SA SN EX AL) : ST.length = 32 := self.2.1
theorem own_PS.lA {AC ST SA SN EX AL : List Int32} (self : own_PS AC ST SA SN EX AL) : SA.length = 32 := self.2.2.1
theorem own_PS.lN {AC ST SA SN EX AL : List Int32} (self : own_PS AC ST SA SN EX AL) : SN.length = 32 := self.2.2.2.1
theorem own_PS.lE {AC ST SA SN EX AL : List Int32} (self : own_PS AC ST SA SN EX AL) : EX.length = 96 := self.2.2.2.2.1
theorem own_PS.lL {AC ST SA SN EX AL : List Int32} (self : own_PS AC ST SA SN EX AL) : AL.length = 96 := self.2.2.2.2.2.1
theorem own_PS.ok {AC ST SA SN EX AL : List Int32} (self : own_PS AC ST SA SN EX AL) : ∀ id : Int32, 0 ≤ id.toInt → id.toInt < 32 → (gI AC id = 0 ∧ gI ST id = 0 ∧ gI SA id = 0 ∧ gI SN id = 0) ∨ (gI AC id = 1 ∧ 0 ≤ (gI ST id).toInt ∧ (gI ST id).toInt ≤ 2 ∧ 0 ≤ (gI SA id).toInt ∧ 1 ≤ (gI SN id).toInt ∧ (gI SA id).toInt + (gI SN id).toInt ≤ 32) := self.2.2.2.2.2.2
theorem own_act {AC : List Int32} (hl : AC.length = 32) (v : Int32) : (f_isActiveStay AC v = some 0 ∧ (v.toInt < 0 ∨ 32 ≤ v.toInt)) ∨ (f_isActiveStay AC v = some (gI AC v &&& 1) ∧ 0 ≤ v.toInt ∧ v.toInt < 32) := by
  have e0 : (0 : Int32).toInt = 0 := rfl
  unfold f_isActiveStay
  by_cases a : v < 0
  · rw [if_pos a]
    exact Or.inl ⟨rfl, Or.inl (by rw [ilt] at a; omega)⟩
  · have a' := a
    rw [ilt] at a'
    by_cases b : v < 32
    · have b' : v.toInt < 32 := ilt.mp b
      rw [if_neg a, if_pos b, rdg (by omega) (by omega), Option.bind_some]
      exact Or.inr ⟨rfl, by omega, b'⟩
    · have b' : ¬ v.toInt < 32 := fun z => b (ilt.mpr z)
      rw [if_neg a, if_neg b]
      exact Or.inl ⟨rfl, Or.inr (by omega)⟩
theorem own_act01 {AC ST SA SN EX AL : List Int32} (h : own_PS AC ST SA SN EX AL) (v : Int32) : (f_isActiveStay AC v = some 0 ∧ (0 ≤ v.toInt → v.toInt < 32 → gI AC v = 0)) ∨ (f_isActiveStay AC v = some 1 ∧ 0 ≤ v.toInt ∧ v.toInt < 32 ∧ gI AC v = 1 ∧ 0 ≤ (gI ST v).toInt ∧ (gI ST v).toInt ≤ 2 ∧ 0 ≤ (gI SA v).toInt ∧ 1 ≤ (gI SN v).toInt ∧ (gI SA v).toInt + (gI SN v).toInt ≤ 32) := by
  rcases own_act h.lC v with ⟨e, r⟩ | ⟨e, r0, r1⟩
  · exact Or.inl ⟨e, fun a b => by omega⟩
  · rcases h.ok v r0 r1 with ⟨k, -⟩ | ⟨k, k1, k2, k3, k4, k5⟩
    · left
      rw [e, k]
      exact ⟨by decide, fun _ _ => rfl⟩
    · right
      rw [e, k]
      exact ⟨by decide, r0, r1, rfl, k1, k2, k3, k4, k5⟩
theorem own_vt3 (t : Int32) : f_isValidType t = some 0 ∨ (f_isValidType t = some 1 ∧ 0 ≤ t.toInt ∧ t.toInt ≤ 2) := by
  have e0 : (0 : Int32).toInt = 0 := rfl
  have e3 : (3 : Int32).toInt = 3 := rfl
  unfold f_isValidType
  by_cases a : t < 0
  · rw [if_pos a]; exact Or.inl rfl
  · by_cases b : t < 3
    · rw [if_neg a, if_pos b]
      rw [ilt] at a b
      exact Or.inr ⟨rfl, by omega, by omega⟩
    · rw [if_neg a, if_neg b]; exact Or.inl rfl
theorem own_vn3 (t : Int32) : f_isValidNight t = some 0 ∨ (f_isValidNight t = some 1 ∧ 0 ≤ t.toInt ∧ t.toInt ≤ 31) := by
  have e0 : (0 : Int32).toInt = 0 := rfl
  have e3 : (32 : Int32).toInt = 32 := rfl
  unfold f_isValidNight
  by_cases a : t < 0
  · rw [if_pos a]; exact Or.inl rfl
  · by_cases b : t < 32
    · rw [if_neg a, if_pos b]
      rw [ilt] at a b
      exact Or.inr ⟨rfl, by omega, by omega⟩
    · rw [if_neg a, if_neg b]; exact Or.inl rfl
/-- a request: an error, or type, night and length in range -/
theorem own_rq (t a k : Int32) : (∃ e, f_requestError t a k = some e ∧ e.toInt < 0) ∨ (f_requestError t a k = some 0 ∧ 0 ≤ t.toInt ∧ t.toInt ≤ 2 ∧ 0 ≤ a.toInt ∧ a.toInt ≤ 31 ∧ 1 ≤ k.toInt ∧ a.toInt + k.toInt ≤ 32) := by
  have e1 : (1 : Int32).toInt = 1 := rfl
  have e32 : (32 : Int32).toInt = 32 := rfl
  unfold f_requestError
  rcases own_vt3 t with e | ⟨e, t0, t2⟩
  · rw [e, Option.bind_some, if_pos rfl]
    exact Or.inl ⟨_, rfl, by decide⟩
  · rw [e, Option.bind_some, if_neg (by decide)]
    rcases own_vn3 a with e | ⟨e, a0, a1⟩
    · rw [e, Option.bind_some, if_pos rfl]
      exact Or.inl ⟨_, rfl, by decide⟩
    · unfold f_isValidLength
      rw [e, Option.bind_some, if_neg (by decide), Option.bind_some]
      by_cases g : k < 1
      · rw [if_pos g, if_pos rfl]
        exact Or.inl ⟨_, rfl, by decide⟩
      · by_cases g2 : 32 - a < k
        · rw [if_neg g, if_pos g2, if_pos rfl]
          exact Or.inl ⟨_, rfl, by decide⟩
        · have es : (32 - a).toInt = 32 - a.toInt := by rw [isub_i (by omega) (by omega), e32]
          rw [if_neg g, if_neg g2, if_neg (by decide)]
          rw [ilt] at g g2
          exact Or.inr ⟨rfl, t0, t2, a0, a1, by omega, by omega⟩
theorem own_ala {AL : List Int32} (hL : AL.length = 96) {u n : Int32} (h : own_wn u n) : f_atLeastAt AL u n = some (gI AL (u * 32 + n)) := by
  have ei := own_wx h
  obtain ⟨a, b, c, d⟩ := h
  have e0 : (0 : Int32).toInt = 0 := rfl
  have e3 : (3 : Int32).toInt = 3 := rfl
  have e32 : (32 : Int32).toInt = 32 := rfl
  unfold f_atLeastAt f_countIndex f_isValidType f_isValidNight
  rw [if_neg (by rw [ilt]; omega), if_pos (by rw [ilt]; omega), Option.bind_some, if_neg (by decide), if_neg (by rw [ilt]; omega), if_pos (by rw [ilt]; omega), Option.bind_some, if_neg (by decide), Option.bind_some, rdg (by omega) (by omega), Option.bind_some]
theorem own_exc {AC ST SA SN EX AL : List Int32} (h : own_PS AC ST SA SN EX AL) (id u n : Int32) : ∃ r, f_exclusion AC ST SA SN id u n = some r := by
  have hT := h.lT
  have hA := h.lA
  have hN := h.lN
  unfold f_exclusion f_coversNight
  rcases own_act01 h id with ⟨e, -⟩ | ⟨e, r0, r1, -⟩
  · rw [e, Option.bind_some, if_pos rfl]; exact ⟨_, rfl⟩
  · rw [e, Option.bind_some, if_neg (by decide), rdg r0 (by omega), Option.bind_some]
    split
    · exact ⟨_, rfl⟩
    · rw [Option.bind_some, if_neg (by decide), rdg r0 (by omega), Option.bind_some]
      split
      · exact ⟨_, rfl⟩
      · rw [rdg r0 (by omega), Option.bind_some, Option.bind_some]; exact ⟨_, rfl⟩
theorem own_nf3 {R AC ST SA SN EX AL : List Int32} (h : own_PS AC ST SA SN EX AL) (hR : R.length = 3) {id t n : Int32} (hn0 : 0 ≤ n.toInt) (hn1 : n.toInt < 32) : ∀ (f : Nat) (u : Int32), 0 ≤ u.toInt → u.toInt ≤ 3 → 3 - u.toInt < f → ∃ r, f_nightFits_3 R AC ST SA SN AL f id t n u = some r := by
  intro f
  induction f with
  | zero => intro u h0 h1 h2; exfalso; omega
  | succ f ih =>
    intro u h0 h1 h2
    unfold f_nightFits_3
    split
    · exact ⟨_, rfl⟩
    · by_cases g : u < 3
      · have g' : u.toInt < 3 := ilt.mp g
        have eu : (u + 1).toInt = u.toInt + 1 := by clear ih h; ((try simp only [ilt, ile, ieq, iadd_e, isub_e, imul_e, Int32.reduceToInt] at *) <;> omega)
        obtain ⟨r, er⟩ := own_exc h id u n
        rw [if_pos g, own_ala h.lL ⟨h0, g', hn0, hn1⟩, Option.bind_some, er, Option.bind_some, rdg h0 (by omega), Option.bind_some]
        split
        · exact ⟨_, rfl⟩
        · exact ih (u + 1) (by omega) (by omega) (by omega)
      · rw [if_neg g]; exact ⟨_, rfl⟩
theorem own_fw {R AC ST SA SN EX AL : List Int32} (h : own_PS AC ST SA SN EX AL) (hR : R.length = 3) {id t a k : Int32} (ha0 : 0 ≤ a.toInt) (hk : 0 ≤ k.toInt) (hak : a.toInt + k.toInt ≤ 32) : ∃ r, f_fitsWith R AC ST SA SN AL id t a k = some r := by
  have es : (a + k).toInt = a.toInt + k.toInt := by clear h; ((try simp only [ilt, ile, ieq, iadd_e, isub_e, imul_e, Int32.reduceToInt] at *) <;> omega)
  have e32 : (32 : Int32).toInt = 32 := rfl
  have e0 : (0 : Int32).toInt = 0 := rfl
  have key : ∀ (f : Nat) (j : Int32), 0 ≤ j.toInt → j.toInt ≤ 32 → 32 - j.toInt < f → ∃ r, f_fitsWith_12 R AC ST SA SN AL f id t (a + k) j = some r := by
    intro f
    induction f with
    | zero => intro j h0 h1 h2; exfalso; omega
    | succ f ih =>
      intro j h0 h1 h2
      unfold f_fitsWith_12
      rw [if_neg (by rw [ilt]; omega)]
      by_cases g : j < a + k
      · have g' := ilt.mp g
        have ej : (j + 1).toInt = j.toInt + 1 := by clear ih h; ((try simp only [ilt, ile, ieq, iadd_e, isub_e, imul_e, Int32.reduceToInt] at *) <;> omega)
        obtain ⟨r, er⟩ := own_nf3 h hR (id := id) (t := t) h0 (by omega) 100000 0 (by decide) (by decide) (by decide)
        unfold f_nightFits
        rw [if_pos g, er, Option.bind_some]
        split
        · exact ⟨_, rfl⟩
        · exact ih (j + 1) (by omega) (by omega) (by omega)
      · rw [if_neg g]; exact ⟨_, rfl⟩
  unfold f_fitsWith f_endOf
  rw [if_neg (by rw [ilt]; omega), Option.bind_some]
  exact key 100000 a ha0 (by omega) (by omega)
theorem own_low {AC : List Int32} (hl : AC.length = 32) : ∀ (f : Nat) (j : Int32), 0 ≤ j.toInt → j.toInt ≤ 32 → 32 - j.toInt < f → f_lowestInactiveSlot_2 AC f j = some (-1) ∨ ∃ r : Int32, f_lowestInactiveSlot_2 AC f j = some r ∧ 0 ≤ r.toInt ∧ r.toInt < 32 ∧ gI AC r = 0 := by
  intro f
  induction f with
  | zero => intro j h0 h1 h2; exfalso; omega
  | succ f ih =>
    intro j h0 h1 h2
    unfold f_lowestInactiveSlot_2
    by_cases g : j < 32
    · have g' : j.toInt < 32 := ilt.mp g
      have ej : (j + 1).toInt = j.toInt + 1 := by clear ih; ((try simp only [ilt, ile, ieq, iadd_e, isub_e, imul_e, Int32.reduceToInt] at *) <;> omega)
      rw [if_pos g, rdg h0 (by omega), Option.bind_some]
      by_cases k : gI AC j = 0
      · rw [if_pos k]
        exact Or.inr ⟨j, rfl, h0, g', k⟩
      · rw [if_neg k]
        exact ih (j + 1) (by omega) (by omega) (by omega)
    · rw [if_neg g]; exact Or.inl rfl
/-! Book and cancel, amend -/
theorem own_of {q : Int32} (h0 : 0 ≤ q.toInt) : Int32.ofNat q.toInt.toNat = q := by
  have := irng q
  rw [ieq, Int32.toInt_ofNat_of_lt (by omega)]
  omega
theorem own_ixs {i : Int32} (h0 : 0 ≤ i.toInt) (h1 : i.toInt < 96) : ∃ w m : Int32, own_wn w m ∧ i = w * 32 + m := by
  have e1 : (Int32.ofNat (i.toInt.toNat / 32)).toInt = (i.toInt.toNat / 32 : Nat) := Int32.toInt_ofNat_of_lt (by omega)
  have e2 : (Int32.ofNat (i.toInt.toNat % 32)).toInt = (i.toInt.toNat % 32 : Nat) := Int32.toInt_ofNat_of_lt (by omega)
  have hw : own_wn (Int32.ofNat (i.toInt.toNat / 32)) (Int32.ofNat (i.toInt.toNat % 32)) := ⟨by omega, by omega, by omega, by omega⟩
  refine ⟨_, _, hw, ?_⟩
  rw [ieq, own_wx hw, e1, e2]
  omega
theorem own_pm (x : Int32) (c : Prop) [Decidable c] : x + (if c then (1 : Int32) else 0) + (if c then (-1 : Int32) else 0) = x := by
  by_cases h : c
  · rw [if_pos h, if_pos h, Int32.add_assoc, show (1 + -1 : Int32) = 0 from by decide, Int32.add_zero]
  · rw [if_neg h, if_neg h, Int32.add_zero, Int32.add_zero]
theorem own_cov_back {EX AL EX1 AL1 EX2 AL2 : List Int32} {ty a e : Int32} (lE : EX.length = 96) (lL : AL.length = 96) (h1 : own_cov EX AL 1 ty a e EX1 AL1) (h2 : own_cov EX1 AL1 (-1) ty a e EX2 AL2) : EX2 = EX ∧ AL2 = AL := by
  obtain ⟨a1, a2, a3⟩ := h1
  obtain ⟨b1, b2, b3⟩ := h2
  constructor
  · refine gext (by omega) (by omega) (fun i p q => ?_)
    obtain ⟨w, m, hw, rfl⟩ := own_ixs p (by omega)
    rw [(b3 w m hw).1, (a3 w m hw).1, own_pm]
  · refine gext (by omega) (by omega) (fun i p q => ?_)
    obtain ⟨w, m, hw, rfl⟩ := own_ixs p (by omega)
    rw [(b3 w m hw).2, (a3 w m hw).2, own_pm]
theorem own_set_back {L : List Int32} (hl : L.length = 32) {id x y : Int32} (h0 : 0 ≤ id.toInt) (h1 : id.toInt < 32) (hx : gI L id = x) : (L.set id.toInt.toNat y).set id.toInt.toNat x = L := by
  refine gext (by simp; omega) (by simp) (fun i p q => ?_)
  rw [gset h0 (by simp; omega) p]
  by_cases e : id = i
  · rw [if_pos e, ← e, hx]
  · rw [if_neg e, gset h0 (by omega) p, if_neg e]
theorem own_gs {L : List Int32} (hl : L.length = 32) {id i x : Int32} (h0 : 0 ≤ id.toInt) (h1 : id.toInt < 32) (p : 0 ≤ i.toInt) : gI (L.set id.toInt.toNat x) i = if id = i then x else gI L i := gset h0 (by omega) p
theorem own_len {L : List Int32} {n : Nat} (hl : L.length = n) (k : Nat) (x : Int32) : (L.set k x).length = n := by rw [List.length_set]; exact hl
/-- a stay is stored at a slot -/
theorem own_put {AC ST SA SN EX AL EX' AL' : List Int32} (h : own_PS AC ST SA SN EX AL) {id t a k : Int32} (h0 : 0 ≤ id.toInt) (h1 : id.toInt < 32) (t0 : 0 ≤ t.toInt) (t2 : t.toInt ≤ 2) (a0 : 0 ≤ a.toInt) (k1 : 1 ≤ k.toInt) (ak : a.toInt + k.toInt ≤ 32) (l1 : EX'.length = 96) (l2 : AL'.length = 96) :
    own_PS (AC.set id.toInt.toNat 1) (ST.set id.toInt.toNat t) (SA.set id.toInt.toNat a) (SN.set id.toInt.toNat k) EX' AL' := by
  refine ⟨own_len h.lC _ _, own_len h.lT _ _, own_len h.lA _ _, own_len h.lN _ _, l1, l2, fun i p q => ?_⟩
  rw [own_gs h.lC h0 h1 p, own_gs h.lT h0 h1 p, own_gs h.lA h0 h1 p, own_gs h.lN h0 h1 p]
  by_cases e : id = i
  · rw [if_pos e, if_pos e, if_pos e, if_pos e]
    exact Or.inr ⟨rfl, t0, t2, a0, k1, ak⟩
  · rw [if_neg e, if_neg e, if_neg e, if_neg e]
    exact h.ok i p q
theorem own_drop {AC ST SA SN EX AL EX' AL' : List Int32} (h : own_PS AC ST SA SN EX AL) {id : Int32} (h0 : 0 ≤ id.toInt) (h1 : id.toInt < 32) (l1 : EX'.length = 96) (l2 : AL'.length = 96) :
    own_PS (AC.set id.toInt.toNat 0) (ST.set id.toInt.toNat 0) (SA.set id.toInt.toNat 0) (SN.set id.toInt.toNat 0) EX' AL' := by
  refine ⟨own_len h.lC _ _, own_len h.lT _ _, own_len h.lA _ _, own_len h.lN _ _, l1, l2, fun i p q => ?_⟩
  rw [own_gs h.lC h0 h1 p, own_gs h.lT h0 h1 p, own_gs h.lA h0 h1 p, own_gs h.lN h0 h1 p]
  by_cases e : id = i
  · rw [if_pos e, if_pos e, if_pos e, if_pos e]
    exact Or.inl ⟨rfl, rfl, rfl, rfl⟩
  · rw [if_neg e, if_neg e, if_neg e, if_neg e]
    exact h.ok i p q
/-- coverage of a stay that stands in the slots -/
theorem own_adj {AC ST SA SN EX AL : List Int32} (lT : ST.length = 32) (lA : SA.length = 32) (lN : SN.length = 32) (lE : EX.length = 96) (lL : AL.length = 96) {id t a k δ : Int32} (h0 : 0 ≤ id.toInt) (h1 : id.toInt < 32) (eT : gI ST id = t) (eA : gI SA id = a) (eN : gI SN id = k) (t0 : 0 ≤ t.toInt) (t2 : t.toInt ≤ 2) (a0 : 0 ≤ a.toInt) (k0 : 0 ≤ k.toInt) (ak : a.toInt + k.toInt ≤ 32) :
    ∃ EX' AL', f_adjustCoverage ST SA SN EX AL id δ = some (EX', AL') ∧ own_cov EX AL δ t a (a + k) EX' AL' := by
  obtain ⟨⟨x, y⟩, e, h⟩ := own_adjust lT lA lN lE lL h0 h1 δ (by rw [eT]; exact t0) (by rw [eT]; exact t2) (by rw [eA]; exact a0) (by rw [eN]; exact k0) (by rw [eA, eN]; exact ak)
  rw [eT, eA, eN] at h
  exact ⟨x, y, e, h⟩
theorem own_book {R AC ST SA SN EX AL : List Int32} (h : own_PS AC ST SA SN EX AL) (hR : R.length = 3) (n t a k : Int32) :
    (∃ e : Int32, e.toInt < 0 ∧ ∀ pc, f_book R AC ST SA SN EX AL n pc t a k = some (e, AC, ST, SA, SN, EX, AL, n, pc)) ∨
    (∃ (id : Int32) (EX' AL' : List Int32), 0 ≤ id.toInt ∧ id.toInt < 32 ∧ gI AC id = 0 ∧ own_cov EX AL 1 t a (a + k) EX' AL' ∧ (0 ≤ t.toInt ∧ t.toInt ≤ 2 ∧ 0 ≤ a.toInt ∧ 1 ≤ k.toInt ∧ a.toInt + k.toInt ≤ 32) ∧ ∀ pc, f_book R AC ST SA SN EX AL n pc t a k = some (id, AC.set id.toInt.toNat 1, ST.set id.toInt.toNat t, SA.set id.toInt.toNat a, SN.set id.toInt.toNat k, EX', AL', n + 1, 0)) := by
  have lC := h.lC
  have lT := h.lT
  have lA := h.lA
  have lN := h.lN
  rcases own_rq t a k with ⟨e, er, en⟩ | ⟨er, t0, t2, a0, a1, k1, ak⟩
  · left
    refine ⟨e, en, fun pc => ?_⟩
    unfold f_book
    rw [er, Option.bind_some, if_neg (by rw [ieq]; have e0 : (0 : Int32).toInt = 0 := rfl; omega)]
  · by_cases g : n < 32
    · obtain ⟨r, ef⟩ := own_fw h hR (id := -1) (t := t) a0 (by omega) ak
      by_cases gr : r = 0
      · left
        refine ⟨-4, by decide, fun pc => ?_⟩
        unfold f_book
        rw [er, Option.bind_some, if_pos rfl, if_pos g, ef, Option.bind_some, if_pos gr]
      · have lo : f_lowestInactiveSlot AC = f_lowestInactiveSlot_2 AC 100000 0 := rfl
        rcases own_low lC 100000 0 (by decide) (by decide) (by decide) with el | ⟨id, el, i0, i1, iz⟩
        · left
          refine ⟨-3, by decide, fun pc => ?_⟩
          unfold f_book
          rw [er, Option.bind_some, if_pos rfl, if_pos g, ef, Option.bind_some, if_neg gr, lo, el, Option.bind_some, if_pos (by decide)]
        · right
          have z : ∀ L : List Int32, L.length = 32 → ∀ x, gI (L.set id.toInt.toNat x) id = x := fun L hl x => by rw [own_gs hl i0 i1 i0, if_pos rfl]
          obtain ⟨EX', AL', ea, hc⟩ := own_adj (AC := AC) (own_len lT _ t) (own_len lA _ a) (own_len lN _ k) h.lE h.lL (δ := 1) i0 i1 (z ST lT t) (z SA lA a) (z SN lN k) t0 t2 a0 (by omega) ak
          refine ⟨id, EX', AL', i0, i1, iz, hc, ⟨t0, t2, a0, k1, ak⟩, fun pc => ?_⟩
          have e0 : (0 : Int32).toInt = 0 := rfl
          have ei : f_activateStay AC ST SA SN EX AL n id t a k = some (AC.set id.toInt.toNat 1, ST.set id.toInt.toNat t, SA.set id.toInt.toNat a, SN.set id.toInt.toNat k, EX', AL', n + 1) := by
            unfold f_activateStay f_storeStay
            rw [wrA_in i0 (by omega), Option.bind_some, wrA_in i0 (by omega), Option.bind_some, wrA_in i0 (by omega), Option.bind_some, Option.bind_some]
            show Option.bind (wrA AC id 1) _ = _
            rw [wrA_in i0 (by omega), Option.bind_some, ea, Option.bind_some]
          unfold f_book f_discardPlan
          rw [er, Option.bind_some, if_pos rfl, if_pos g, ef, Option.bind_some, if_neg gr, lo, el, Option.bind_some, if_neg (by rw [ilt]; omega), ei, Option.bind_some]
          rfl
    · left
      refine ⟨-3, by decide, fun pc => ?_⟩
      unfold f_book
      rw [er, Option.bind_some, if_pos rfl, if_neg g]
theorem own_cancel {AC ST SA SN EX AL : List Int32} (h : own_PS AC ST SA SN EX AL) (n id : Int32) :
    (∀ pc, f_cancel AC ST SA SN EX AL n pc id = some (-5, AC, ST, SA, SN, EX, AL, n, pc)) ∨
    (∃ EX' AL' : List Int32, 0 ≤ id.toInt ∧ id.toInt < 32 ∧ gI AC id = 1 ∧ own_cov EX AL (-1) (gI ST id) (gI SA id) (gI SA id + gI SN id) EX' AL' ∧ ∀ pc, f_cancel AC ST SA SN EX AL n pc id = some (0, AC.set id.toInt.toNat 0, ST.set id.toInt.toNat 0, SA.set id.toInt.toNat 0, SN.set id.toInt.toNat 0, EX', AL', n - 1, 0)) := by
  have lC := h.lC
  have lT := h.lT
  have lA := h.lA
  have lN := h.lN
  rcases own_act01 h id with ⟨e, -⟩ | ⟨e, i0, i1, ia, t0, t2, a0, k1, ak⟩
  · left
    intro pc
    unfold f_cancel
    rw [e, Option.bind_some, if_pos rfl]
  · right
    obtain ⟨EX', AL', ea, hc⟩ := own_adj (AC := AC) lT lA lN h.lE h.lL (δ := -1) i0 i1 rfl rfl rfl t0 t2 a0 (by omega) ak
    refine ⟨EX', AL', i0, i1, ia, hc, fun pc => ?_⟩
    have ed : f_deactivateStay AC ST SA SN EX AL n id = some (AC.set id.toInt.toNat 0, ST.set id.toInt.toNat 0, SA.set id.toInt.toNat 0, SN.set id.toInt.toNat 0, EX', AL', n - 1) := by
      unfold f_deactivateStay f_storeStay
      rw [ea, Option.bind_some]
      show Option.bind (wrA AC id 0) _ = _
      rw [wrA_in i0 (by omega), Option.bind_some, wrA_in i0 (by omega), Option.bind_some, wrA_in i0 (by omega), Option.bind_some, wrA_in i0 (by omega), Option.bind_some, Option.bind_some]
    unfold f_cancel f_discardPlan
    rw [e, Option.bind_some, if_neg (by decide), ed, Option.bind_some]
    rfl
theorem own_amend {R AC ST SA SN EX AL : List Int32} (h : own_PS AC ST SA SN EX AL) (hR : R.length = 3) (id t a k : Int32) :
    ∃ (r : Int32) (ST' SA' SN' EX' AL' : List Int32), own_PS AC ST' SA' SN' EX' AL' ∧ ∀ pc, ∃ pc', f_amend R AC ST SA SN EX AL pc id t a k = some (r, ST', SA', SN', EX', AL', pc') := by
  have lC := h.lC
  have lT := h.lT
  have lA := h.lA
  have lN := h.lN
  rcases own_act01 h id with ⟨e, -⟩ | ⟨e, i0, i1, ia, t0', t2', a0', k1', ak'⟩
  · refine ⟨-5, ST, SA, SN, EX, AL, h, fun pc => ⟨pc, ?_⟩⟩
    unfold f_amend
    rw [e, Option.bind_some, if_pos rfl]
  · rcases own_rq t a k with ⟨x, er, en⟩ | ⟨er, t0, t2, a0, a1, k1, ak⟩
    · refine ⟨x, ST, SA, SN, EX, AL, h, fun pc => ⟨pc, ?_⟩⟩
      unfold f_amend
      rw [e, Option.bind_some, if_neg (by decide), er, Option.bind_some, if_neg (by rw [ieq]; have e0 : (0 : Int32).toInt = 0 := rfl; omega)]
    · obtain ⟨r, ef⟩ := own_fw h hR (id := id) (t := t) a0 (by omega) ak
      by_cases gr : r = 0
      · refine ⟨-4, ST, SA, SN, EX, AL, h, fun pc => ⟨pc, ?_⟩⟩
        unfold f_amend
        rw [e, Option.bind_some, if_neg (by decide), er, Option.bind_some, if_pos rfl, ef, Option.bind_some, if_pos gr]
      · have z : ∀ L : List Int32, L.length = 32 → ∀ x, gI (L.set id.toInt.toNat x) id = x := fun L hl x => by rw [own_gs hl i0 i1 i0, if_pos rfl]
        obtain ⟨EX1, AL1, e1, c1⟩ := own_adj (AC := AC) lT lA lN h.lE h.lL (δ := -1) i0 i1 rfl rfl rfl t0' t2' a0' (by omega) ak'
        obtain ⟨EX2, AL2, e2, c2⟩ := own_adj (AC := AC) (own_len lT _ t) (own_len lA _ a) (own_len lN _ k) c1.1 c1.2.1 (δ := 1) i0 i1 (z ST lT t) (z SA lA a) (z SN lN k) t0 t2 a0 (by omega) ak
        have hP := own_put h (EX' := EX2) (AL' := AL2) i0 i1 t0 t2 a0 k1 ak c2.1 c2.2.1
        have eC : AC.set id.toInt.toNat 1 = AC := by
          refine gext (by simp; omega) (by simp) (fun i p q => ?_)
          rw [own_gs lC i0 i1 p]
          by_cases ee : id = i
          · rw [if_pos ee, ← ee, ia]
          · rw [if_neg ee]
        rw [eC] at hP
        refine ⟨0, _, _, _, EX2, AL2, hP, fun pc => ⟨0, ?_⟩⟩
        unfold f_amend f_storeStay f_discardPlan
        rw [e, Option.bind_some, if_neg (by decide), er, Option.bind_some, if_pos rfl, ef, Option.bind_some, if_neg gr, e1, Option.bind_some, wrA_in i0 (by omega), Option.bind_some, wrA_in i0 (by omega), Option.bind_some, wrA_in i0 (by omega), Option.bind_some]
        show Option.bind (some (ST.set id.toInt.toNat t, SA.set id.toInt.toNat a, SN.set id.toInt.toNat k)) _ = _
        rw [Option.bind_some]
        show Option.bind (f_adjustCoverage (ST.set id.toInt.toNat t) (SA.set id.toInt.toNat a) (SN.set id.toInt.toNat k) EX1 AL1 id 1) _ = _
        rw [e2, Option.bind_some]
        rfl
/-! The plan: assign ends, whatever stands in the slots -/
theorem own_c30 (PR PO : List Int32) (l : Int32) : ∀ (n : Nat) (PG : List Int32) (j : Int32), PG.length = 768 → 0 ≤ j.toInt → j.toInt ≤ 768 → 768 - j.toInt < n → Tot (f_clearPlan_30 n PR PG PO l j) (fun r => r.1 = PR ∧ r.2.1.length = 768 ∧ r.2.2.1 = PO ∧ r.2.2.2 = 0) := by
  intro n
  induction n with
  | zero => intro PG j h0 h1 h2 h3; exfalso; omega
  | succ n ih =>
    intro PG j h0 h1 h2 h3
    unfold f_clearPlan_30
    refine Tot.ite (fun g => ?_) (fun g => Tot.mk ⟨rfl, h0, rfl, rfl⟩)
    have g' : j.toInt < 768 := ilt.mp g
    have ej : (j + 1).toInt = j.toInt + 1 := by clear ih; ((try simp only [ilt, ile, ieq, iadd_e, isub_e, imul_e, Int32.reduceToInt] at *) <;> omega)
    exact Tot.wr h1 (by omega) (fun A q1 q2 => ih A (j + 1) (by omega) (by omega) (by omega) (by omega))
theorem own_c2 (PG : List Int32) (hG : PG.length = 768) (l : Int32) : ∀ (n : Nat) (PR PO : List Int32) (j : Int32), PR.length = 32 → PO.length = 32 → 0 ≤ j.toInt → j.toInt ≤ 32 → 32 - j.toInt < n → Tot (f_clearPlan_2 (f_clearPlan_30 100000) n PR PG PO l j) (fun r => r.1.length = 32 ∧ r.2.1.length = 768 ∧ r.2.2.1.length = 32 ∧ r.2.2.2 = 0) := by
  intro n
  induction n with
  | zero => intro PR PO j h0 h0' h1 h2 h3; exfalso; omega
  | succ n ih =>
    intro PR PO j h0 h0' h1 h2 h3
    unfold f_clearPlan_2
    refine Tot.ite (fun g => ?_) (fun g => ?_)
    · have g' : j.toInt < 32 := ilt.mp g
      have ej : (j + 1).toInt = j.toInt + 1 := by clear ih; ((try simp only [ilt, ile, ieq, iadd_e, isub_e, imul_e, Int32.reduceToInt] at *) <;> omega)
      exact Tot.wr h1 (by omega) (fun A q1 q2 => Tot.wr h1 (by omega) (fun B q3 q4 => ih A B (j + 1) (by omega) (by omega) (by omega) (by omega) (by omega)))
    · refine (own_c30 PR PO l 100000 PG 0 hG (by decide) (by decide) (by decide)).mono ?_
      rintro r ⟨a, b, c, d⟩
      exact ⟨by rw [a]; exact h0, b, by rw [c]; exact h0', d⟩
def own_J (PO : List Int32) (n : Int32) : Prop := PO.length = 32 ∧ 0 ≤ n.toInt ∧ n.toInt ≤ 32 ∧ ∀ i : Int32, 0 ≤ i.toInt → i.toInt < n.toInt → 0 ≤ (gI PO i).toInt ∧ (gI PO i).toInt < 32
theorem own_app {PO : List Int32} {n v : Int32} (h : own_J PO n) (v0 : 0 ≤ v.toInt) (v1 : v.toInt < 32) : ∃ PO' n', f_appendToOrder PO n v = some (PO', n') ∧ own_J PO' n' := by
  obtain ⟨a, b, c, d⟩ := h
  have e0 : (0 : Int32).toInt = 0 := rfl
  unfold f_appendToOrder
  rw [if_neg (by rw [ilt]; omega)]
  by_cases g : n < 32
  · have g' : n.toInt < 32 := ilt.mp g
    have en : (n + 1).toInt = n.toInt + 1 := by clear d; ((try simp only [ilt, ile, ieq, iadd_e, isub_e, imul_e, Int32.reduceToInt] at *) <;> omega)
    rw [if_pos g, wrA_in b (by omega), Option.bind_some]
    refine ⟨_, _, rfl, own_len a _ _, by omega, by omega, fun i p q => ?_⟩
    rw [gset b (by omega) p]
    by_cases e : n = i
    · rw [if_pos e]; exact ⟨v0, v1⟩
    · rw [if_neg e]
      rw [ieq] at e
      exact d i p (by omega)
  · rw [if_neg g]
    exact ⟨_, _, rfl, a, b, c, d⟩
theorem own_bo15 {Q : List Int32 × Int32 → Prop} {AC SA : List Int32} (lC : AC.length = 32) (lA : SA.length = 32) (k7 : List Int32 → Int32 → Int32 → Option (List Int32 × Int32)) (v : Int32) (hk : ∀ (PO : List Int32) (n : Int32), own_J PO n → Tot (k7 PO n (v + 1)) Q) : ∀ (f : Nat) (PO : List Int32) (n j : Int32), own_J PO n → 0 ≤ j.toInt → j.toInt ≤ 32 → 32 - j.toInt < f → Tot (f_buildOrder_15 k7 AC SA f PO n v j) Q := by
  intro f
  induction f with
  | zero => intro PO n j h h0 h1 h2; exfalso; omega
  | succ f ih =>
    intro PO n j h h0 h1 h2
    unfold f_buildOrder_15
    refine Tot.ite (fun g => ?_) (fun g => hk PO n h)
    have g' : j.toInt < 32 := ilt.mp g
    have ej : (j + 1).toInt = j.toInt + 1 := by clear ih hk h; ((try simp only [ilt, ile, ieq, iadd_e, isub_e, imul_e, Int32.reduceToInt] at *) <;> omega)
    refine Tot.rdI h0 (by omega) (Tot.ite (fun g2 => ih PO n (j + 1) h (by omega) (by omega) (by omega)) (fun g2 => Tot.rdI h0 (by omega) (Tot.ite (fun g3 => ?_) (fun g3 => ih PO n (j + 1) h (by omega) (by omega) (by omega)))))
    obtain ⟨PO', n', e, h'⟩ := own_app h h0 g'
    rw [e, Option.bind_some]
    exact ih PO' n' (j + 1) h' (by omega) (by omega) (by omega)
theorem own_bo7 {AC SA : List Int32} (lC : AC.length = 32) (lA : SA.length = 32) : ∀ (f : Nat) (PO : List Int32) (n v : Int32), own_J PO n → 0 ≤ v.toInt → v.toInt ≤ 32 → 32 - v.toInt < f → Tot (f_buildOrder_7 AC SA f PO n v) (fun r => own_J r.1 r.2) := by
  intro f
  induction f with
  | zero => intro PO n v h h0 h1 h2; exfalso; omega
  | succ f ih =>
    intro PO n v h h0 h1 h2
    unfold f_buildOrder_7
    refine Tot.ite (fun g => ?_) (fun g => Tot.mk h)
    have g' : v.toInt < 32 := ilt.mp g
    have ev : (v + 1).toInt = v.toInt + 1 := by clear ih h; ((try simp only [ilt, ile, ieq, iadd_e, isub_e, imul_e, Int32.reduceToInt] at *) <;> omega)
    exact own_bo15 lC lA _ v (fun PO' n' h' => ih PO' n' (v + 1) h' (by omega) (by omega) (by omega)) 100000 PO n 0 h (by decide) (by decide) (by decide)
theorem own_ga {PG : List Int32} (hG : PG.length = 768) (r n : Int32) : ∃ x, f_gridAt PG r n = some x := by
  have e0 : (0 : Int32).toInt = 0 := rfl
  unfold f_gridAt
  by_cases a : r < 0
  · rw [if_pos a]; exact ⟨_, rfl⟩
  · by_cases b : r < 24
    · rw [if_neg a, if_pos b]
      rcases own_vn3 n with e | ⟨e, n0, n1⟩
      · rw [e, Option.bind_some, if_pos rfl]; exact ⟨_, rfl⟩
      · have b' : r.toInt < 24 := ilt.mp b
        rw [ilt] at a
        have ei : (r * 32 + n).toInt = r.toInt * 32 + n.toInt := by clear e; ((try simp only [ilt, ile, ieq, iadd_e, isub_e, imul_e, Int32.reduceToInt] at *) <;> omega)
        unfold f_gridIndex
        rw [e, Option.bind_some, if_neg (by decide), Option.bind_some, rdg (by omega) (by omega), Option.bind_some]
        exact ⟨_, rfl⟩
    · rw [if_neg a, if_neg b]; exact ⟨_, rfl⟩
theorem own_rf {PG : List Int32} (hG : PG.length = 768) {r a k : Int32} (a0 : 0 ≤ a.toInt) (k0 : 0 ≤ k.toInt) (ak : a.toInt + k.toInt ≤ 32) : ∃ x, f_roomIsFree PG r a k = some x := by
  have es : (a + k).toInt = a.toInt + k.toInt := by ((try simp only [ilt, ile, ieq, iadd_e, isub_e, imul_e, Int32.reduceToInt] at *) <;> omega)
  have e32 : (32 : Int32).toInt = 32 := rfl
  have e0 : (0 : Int32).toInt = 0 := rfl
  have key : ∀ (f : Nat) (j : Int32), 0 ≤ j.toInt → j.toInt ≤ 32 → 32 - j.toInt < f → ∃ x, f_roomIsFree_11 PG f r (a + k) j = some x := by
    intro f
    induction f with
    | zero => intro j h0 h1 h2; exfalso; omega
    | succ f ih =>
      intro j h0 h1 h2
      unfold f_roomIsFree_11
      rw [if_neg (by rw [ilt]; omega)]
      by_cases g : j < a + k
      · have g' := ilt.mp g
        have ej : (j + 1).toInt = j.toInt + 1 := by clear ih; ((try simp only [ilt, ile, ieq, iadd_e, isub_e, imul_e, Int32.reduceToInt] at *) <;> omega)
        obtain ⟨x, ex⟩ := own_ga hG r j
        rw [if_pos g, ex, Option.bind_some]
        split
        · exact ih (j + 1) (by omega) (by omega) (by omega)
        · exact ⟨_, rfl⟩
      · rw [if_neg g]; exact ⟨_, rfl⟩
  unfold f_roomIsFree f_endOf
  rw [if_neg (by rw [ilt]; omega), Option.bind_some]
  exact key 100000 a a0 (by omega) (by omega)
theorem own_mr {PG : List Int32} (hG : PG.length = 768) {r id a k : Int32} (a0 : 0 ≤ a.toInt) (k0 : 0 ≤ k.toInt) (ak : a.toInt + k.toInt ≤ 32) : Tot (f_markRoom PG r id a k) (fun x => x.length = 768) := by
  have es : (a + k).toInt = a.toInt + k.toInt := by ((try simp only [ilt, ile, ieq, iadd_e, isub_e, imul_e, Int32.reduceToInt] at *) <;> omega)
  have e32 : (32 : Int32).toInt = 32 := rfl
  have e0 : (0 : Int32).toInt = 0 := rfl
  unfold f_markRoom
  refine Tot.ite (fun _ => Tot.mk hG) (fun g0 => Tot.ite (fun g1 => ?_) (fun _ => Tot.mk hG))
  have g1' : r.toInt < 24 := ilt.mp g1
  rw [ilt] at g0
  have key : ∀ (f : Nat) (PG : List Int32) (j : Int32), PG.length = 768 → 0 ≤ j.toInt → j.toInt ≤ 32 → 32 - j.toInt < f → Tot (f_markRoom_23 f PG r id (a + k) j) (fun x => x.length = 768) := by
    intro f
    induction f with
    | zero => intro PG j h h0 h1 h2; exfalso; omega
    | succ f ih =>
      intro PG j h h0 h1 h2
      unfold f_markRoom_23
      refine Tot.ite (fun _ => Tot.mk h) (fun _ => Tot.ite (fun g => ?_) (fun _ => Tot.mk h))
      have g' := ilt.mp g
      have ej : (j + 1).toInt = j.toInt + 1 := by clear ih; ((try simp only [ilt, ile, ieq, iadd_e, isub_e, imul_e, Int32.reduceToInt] at *) <;> omega)
      have ei : (r * 32 + j).toInt = r.toInt * 32 + j.toInt := by
        rw [es] at g'
        clear ih g g1; ((try simp only [ilt, ile, ieq, iadd_e, isub_e, imul_e, Int32.reduceToInt] at *) <;> omega)
      unfold f_gridIndex
      rw [Option.bind_some]
      exact Tot.wr (by omega) (by omega) (fun A q1 q2 => ih A (j + 1) (by omega) (by omega) (by omega) (by omega))
  unfold f_endOf
  rw [if_neg (by rw [ilt]; omega), Option.bind_some]
  exact key 100000 PG a hG a0 (by omega) (by omega)
theorem own_ps50 {F AC ST SA SN : List Int32} {tot id a k : Int32} (i0 : 0 ≤ id.toInt) (i1 : id.toInt < 32) (a0 : 0 ≤ a.toInt) (k0 : 0 ≤ k.toInt) (ak : a.toInt + k.toInt ≤ 32) : ∀ (f : Nat) (PR PG : List Int32) (v : Int32), PR.length = 32 → PG.length = 768 → 0 ≤ v.toInt → v.toInt ≤ 24 → 24 - v.toInt < f → Tot (f_placeStay_50 (f_placeStay_78 F AC ST SA SN tot) F AC ST SA SN tot f PR PG id a k v) (fun r => r.2.1.length = 32 ∧ r.2.2.length = 768) := by
  intro f
  induction f with
  | zero => intro PR PG v h h' h0 h1 h2; exfalso; omega
  | succ f ih =>
    intro PR PG v h h' h0 h1 h2
    unfold f_placeStay_50
    refine Tot.ite (fun g => Tot.ite (fun g2 => ?_) (fun _ => Tot.mk ⟨h, h'⟩)) (fun _ => Tot.mk ⟨h, h'⟩)
    have g' : v.toInt < 24 := ilt.mp g2
    have ev : (v + 1).toInt = v.toInt + 1 := by clear ih; ((try simp only [ilt, ile, ieq, iadd_e, isub_e, imul_e, Int32.reduceToInt] at *) <;> omega)
    obtain ⟨x, ex⟩ := own_rf h' (r := v) a0 k0 ak
    rw [ex, Option.bind_some]
    refine Tot.ite (fun _ => ih PR PG (v + 1) h h' (by omega) (by omega) (by omega)) (fun _ => ?_)
    unfold f_placeStay_78
    exact Tot.bind (own_mr h' a0 k0 ak) (fun G hG => Tot.wr i0 (by omega) (fun A q1 q2 => Tot.mk ⟨by show A.length = 32; omega, hG⟩))
def own_F (F : List Int32) : Prop := F.length = 3 ∧ ∀ i : Int32, 0 ≤ i.toInt → i.toInt < 3 → 0 ≤ (gI F i).toInt ∧ (gI F i).toInt ≤ 24
theorem own_place {F AC ST SA SN EX AL PR PG : List Int32} (h : own_PS AC ST SA SN EX AL) (hF : own_F F) (tot : Int32) {id : Int32} (lR : PR.length = 32) (lG : PG.length = 768) : Tot (f_placeStay F AC ST SA SN tot PR PG id) (fun r => r.2.1.length = 32 ∧ r.2.2.length = 768) := by
  have lT := h.lT
  have lA := h.lA
  have lN := h.lN
  unfold f_placeStay
  rcases own_act01 h id with ⟨e, -⟩ | ⟨e, i0, i1, ia, t0, t2, a0, k1, ak⟩
  · rw [e, Option.bind_some, if_pos rfl]
    exact Tot.mk ⟨lR, lG⟩
  · rw [e, Option.bind_some, if_neg (by decide)]
    refine Tot.rdI i0 (by omega) ?_
    rcases own_vt3 (gI ST id) with ev | ⟨ev, -, -⟩
    · rw [ev, Option.bind_some, if_pos rfl]
      exact Tot.mk ⟨lR, lG⟩
    · rw [ev, Option.bind_some, if_neg (by decide)]
      have hf := hF.2 (gI ST id) t0 (by omega)
      refine Tot.rdI i0 (by omega) (Tot.rdI i0 (by omega) (Tot.rdI t0 (by rw [hF.1]; omega) ?_))
      exact own_ps50 i0 i1 a0 (by omega) ak 100000 PR PG _ lR lG hf.1 hf.2 (by omega)
theorem own_as16 {F AC ST SA SN EX AL PO : List Int32} (h : own_PS AC ST SA SN EX AL) (hF : own_F F) (tot n pc pu : Int32) (hJ : own_J PO n) : ∀ (f : Nat) (PR PG : List Int32) (u v : Int32), PR.length = 32 → PG.length = 768 → 0 ≤ v.toInt → v.toInt ≤ 32 → 32 - v.toInt < f → Tot (f_assign_16 (f_assign_58 F AC ST SA SN tot) F AC ST SA SN tot f PR PG PO n pc pu u v) (fun r => r.2.1.length = 32 ∧ r.2.2.1.length = 768 ∧ r.2.2.2.1.length = 32 ∧ r.2.2.2.2.2.1 = 1) := by
  intro f
  induction f with
  | zero => intro PR PG u v h h' h0 h1 h2; exfalso; omega
  | succ f ih =>
    intro PR PG u v l1 l2 h0 h1 h2
    unfold f_assign_16
    refine Tot.ite (fun g => Tot.ite (fun g2 => ?_) (fun _ => ?_)) (fun _ => ?_)
    · have g' : v.toInt < 32 := ilt.mp g2
      have ev : (v + 1).toInt = v.toInt + 1 := by clear ih h hF hJ; ((try simp only [ilt, ile, ieq, iadd_e, isub_e, imul_e, Int32.reduceToInt] at *) <;> omega)
      refine Tot.rdI h0 (by rw [hJ.1]; omega) (Tot.bind (own_place h hF tot l1 l2) ?_)
      rintro ⟨r, A, B⟩ ⟨q1, q2⟩
      exact ih A B _ (v + 1) q1 q2 (by omega) (by omega) (by omega)
    · unfold f_assign_58
      exact Tot.mk ⟨l1, l2, hJ.1, rfl⟩
    · unfold f_assign_58
      exact Tot.mk ⟨l1, l2, hJ.1, rfl⟩
theorem own_assign {F AC ST SA SN EX AL PR PG PO : List Int32} (h : own_PS AC ST SA SN EX AL) (hF : own_F F) (tot n pc pu : Int32) (lR : PR.length = 32) (lG : PG.length = 768) (lO : PO.length = 32) : Tot (f_assign F AC ST SA SN tot PR PG PO n pc pu) (fun r => r.2.1.length = 32 ∧ r.2.2.1.length = 768 ∧ r.2.2.2.1.length = 32 ∧ r.2.2.2.2.2.1 = 1) := by
  unfold f_assign f_discardPlan f_clearPlan f_buildOrder
  rw [Option.bind_some]
  refine Tot.bind (own_c2 PG lG n 100000 PR PO 0 lR lO (by decide) (by decide) (by decide)) ?_
  rintro ⟨A, B, C, d⟩ ⟨q1, q2, q3, q4⟩
  have e0 : (0 : Int32).toInt = 0 := rfl
  refine Tot.bind (own_bo7 h.lC h.lA 100000 C 0 0 ⟨q3, by decide, by decide, fun i p q => by exfalso; omega⟩ (by decide) (by decide) (by decide)) ?_
  rintro ⟨O, m⟩ hJ
  exact own_as16 h hF tot m 0 pu hJ 100000 A B 0 0 q1 q2 (by decide) (by decide) (by decide)
theorem own_assign_pc (F AC ST SA SN : List Int32) (tot : Int32) (PR PG PO : List Int32) (n pc pu : Int32) : f_assign F AC ST SA SN tot PR PG PO n pc pu = f_assign F AC ST SA SN tot PR PG PO n 0 pu := by
  unfold f_assign f_discardPlan
  rw [Option.bind_some]
/-! When a stay fits -/
theorem own_nfs {R AC ST SA SN AL : List Int32} (lL : AL.length = 96) (hR : R.length = 3) {id t n : Int32} (n0 : 0 ≤ n.toInt) (n1 : n.toInt < 32) (t2 : t.toInt ≤ 2) (x : Int32 → Int32) (hx : ∀ w : Int32, 0 ≤ w.toInt → w.toInt ≤ 2 → f_exclusion AC ST SA SN id w n = some (x w)) : ∀ (f : Nat) (u : Int32), 0 ≤ u.toInt → u.toInt ≤ 3 → 3 - u.toInt < f →
    (f_nightFits_3 R AC ST SA SN AL f id t n u = some 1 ∧ ∀ w : Int32, u.toInt ≤ w.toInt → w.toInt ≤ t.toInt → ¬ gI R w < gI AL (w * 32 + n) - x w + 1) ∨ (f_nightFits_3 R AC ST SA SN AL f id t n u = some 0 ∧ ∃ w : Int32, u.toInt ≤ w.toInt ∧ w.toInt ≤ t.toInt ∧ gI R w < gI AL (w * 32 + n) - x w + 1) := by
  intro f
  induction f with
  | zero => intro u h0 h1 h2; exfalso; omega
  | succ f ih =>
    intro u h0 h1 h2
    unfold f_nightFits_3
    by_cases g : t < u
    · have g' := ilt.mp g
      left
      rw [if_pos g]
      exact ⟨rfl, fun w a b => by exfalso; omega⟩
    · have g' : ¬ t.toInt < u.toInt := fun z => g (ilt.mpr z)
      have g3 : u < 3 := ilt.mpr (show u.toInt < 3 by omega)
      have eu : (u + 1).toInt = u.toInt + 1 := by clear ih hx; ((try simp only [ilt, ile, ieq, iadd_e, isub_e, imul_e, Int32.reduceToInt] at *) <;> omega)
      rw [if_neg g, if_pos g3, own_ala lL ⟨h0, by omega, n0, n1⟩, Option.bind_some, hx u h0 (by omega), Option.bind_some, rdg h0 (by omega), Option.bind_some]
      by_cases k : gI R u < gI AL (u * 32 + n) - x u + 1
      · right
        rw [if_pos k]
        exact ⟨rfl, u, by omega, by omega, k⟩
      · rw [if_neg k]
        rcases ih (u + 1) (by omega) (by omega) (by omega) with ⟨e, q⟩ | ⟨e, w, p1, p2, p3⟩
        · left
          refine ⟨e, fun w a b => ?_⟩
          by_cases ew : w = u
          · rw [ew]; exact k
          · rw [ieq] at ew
            exact q w (by omega) b
        · right
          exact ⟨e, w, by omega, p2, p3⟩
def own_fit (R AL : List Int32) (x : Int32 → Int32 → Int32) (t a e : Int32) : Prop := ∀ n w : Int32, a.toInt ≤ n.toInt → n.toInt < e.toInt → 0 ≤ w.toInt → w.toInt ≤ t.toInt → ¬ gI R w < gI AL (w * 32 + n) - x w n + 1
theorem own_fts {R AC ST SA SN AL : List Int32} (lL : AL.length = 96) (hR : R.length = 3) {id t a k : Int32} (t2 : t.toInt ≤ 2) (a0 : 0 ≤ a.toInt) (k0 : 0 ≤ k.toInt) (ak : a.toInt + k.toInt ≤ 32) (x : Int32 → Int32 → Int32) (hx : ∀ w n : Int32, 0 ≤ w.toInt → w.toInt ≤ 2 → 0 ≤ n.toInt → n.toInt < 32 → f_exclusion AC ST SA SN id w n = some (x w n)) :
    (f_fitsWith R AC ST SA SN AL id t a k = some 1 ∧ own_fit R AL x t a (a + k)) ∨ (f_fitsWith R AC ST SA SN AL id t a k = some 0 ∧ ¬ own_fit R AL x t a (a + k)) := by
  have es : (a + k).toInt = a.toInt + k.toInt := by clear hx; ((try simp only [ilt, ile, ieq, iadd_e, isub_e, imul_e, Int32.reduceToInt] at *) <;> omega)
  have e32 : (32 : Int32).toInt = 32 := rfl
  have e0 : (0 : Int32).toInt = 0 := rfl
  have key : ∀ (f : Nat) (j : Int32), a.toInt ≤ j.toInt → j.toInt ≤ 32 → 32 - j.toInt < f → (f_fitsWith_12 R AC ST SA SN AL f id t (a + k) j = some 1 ∧ own_fit R AL x t j (a + k)) ∨ (f_fitsWith_12 R AC ST SA SN AL f id t (a + k) j = some 0 ∧ ¬ own_fit R AL x t a (a + k)) := by
    intro f
    induction f with
    | zero => intro j h0 h1 h2; exfalso; omega
    | succ f ih =>
      intro j h0 h1 h2
      unfold f_fitsWith_12
      rw [if_neg (by rw [ilt]; omega)]
      by_cases g : j < a + k
      · have g' := ilt.mp g
        have ej : (j + 1).toInt = j.toInt + 1 := by clear ih hx; ((try simp only [ilt, ile, ieq, iadd_e, isub_e, imul_e, Int32.reduceToInt] at *) <;> omega)
        unfold f_nightFits
        rw [if_pos g]
        rcases own_nfs lL hR (AC := AC) (ST := ST) (SA := SA) (SN := SN) (id := id) (n := j) (by omega) (by omega) t2 (fun w => x w j) (fun w p q => hx w j p q (by omega) (by omega)) 100000 0 (by decide) (by decide) (by decide) with ⟨e, q⟩ | ⟨e, w, p1, p2, p3⟩
        · rw [e, Option.bind_some, if_neg (by decide)]
          rcases ih (j + 1) (by omega) (by omega) (by omega) with ⟨e', q'⟩ | ⟨e', q'⟩
          · left
            refine ⟨e', fun n w a1 a2 a3 a4 => ?_⟩
            by_cases en : n = j
            · rw [en]; exact q w (by omega) a4
            · rw [ieq] at en
              exact q' n w (by omega) a2 a3 a4
          · exact Or.inr ⟨e', q'⟩
        · right
          rw [e, Option.bind_some, if_pos rfl]
          exact ⟨rfl, fun hh => hh j w h0 (by omega) (by omega) p2 p3⟩
      · have g' : ¬ j.toInt < (a + k).toInt := fun z => g (ilt.mpr z)
        left
        rw [if_neg g]
        exact ⟨rfl, fun n w a1 a2 _ _ => by exfalso; omega⟩
  unfold f_fitsWith f_endOf
  rw [if_neg (by rw [ilt]; omega), Option.bind_some]
  exact key 100000 a (by omega) (by omega) (by omega)
theorem own_x0 {AC ST SA SN : List Int32} (w n : Int32) : f_exclusion AC ST SA SN (-1) w n = some 0 := by
  unfold f_exclusion f_isActiveStay
  rw [if_pos (by decide), Option.bind_some, if_pos rfl]
/-- what an active stay itself takes -/
def own_xs (t a k w n : Int32) : Int32 := if w.toInt ≤ t.toInt ∧ a.toInt ≤ n.toInt ∧ n.toInt < a.toInt + k.toInt then 1 else 0
theorem own_x1 {AC ST SA SN EX AL : List Int32} (h : own_PS AC ST SA SN EX AL) {id : Int32} (i0 : 0 ≤ id.toInt) (i1 : id.toInt < 32) (ia : gI AC id = 1) {w n : Int32} (w0 : 0 ≤ w.toInt) (w2 : w.toInt ≤ 2) (n0 : 0 ≤ n.toInt) (n1 : n.toInt < 32) : f_exclusion AC ST SA SN id w n = some (own_xs (gI ST id) (gI SA id) (gI SN id) w n) := by
  have lT := h.lT
  have lA := h.lA
  have lN := h.lN
  rcases own_act01 h id with ⟨e, z⟩ | ⟨e, -, -, -, t0, t2, a0, k1, ak⟩
  · have := z i0 i1
    rw [ia] at this
    exact absurd this (by decide)
  · unfold f_exclusion f_coversNight own_xs
    rw [e, Option.bind_some, if_neg (by decide), rdg i0 (by omega), Option.bind_some]
    by_cases g : gI ST id < w
    · have g' := ilt.mp g
      rw [if_pos g, if_neg (by omega)]
    · have g' : ¬ (gI ST id).toInt < w.toInt := fun z => g (ilt.mpr z)
      rw [if_neg g, Option.bind_some, if_neg (by decide), rdg i0 (by omega), Option.bind_some]
      by_cases g2 : n < gI SA id
      · have g2' := ilt.mp g2
        rw [if_pos g2, Option.bind_some, if_pos rfl, if_neg (by omega)]
      · have g2' : ¬ n.toInt < (gI SA id).toInt := fun z => g2 (ilt.mpr z)
        have ed : (n - gI SA id).toInt = n.toInt - (gI SA id).toInt := isub_i (by omega) (by omega)
        rw [if_neg g2, rdg i0 (by omega), Option.bind_some]
        by_cases g3 : n - gI SA id < gI SN id
        · have g3' := ilt.mp g3
          rw [if_pos g3, Option.bind_some, if_neg (by decide), if_pos ⟨by omega, by omega, by omega⟩]
        · have g3' : ¬ (n - gI SA id).toInt < (gI SN id).toInt := fun z => g3 (ilt.mpr z)
          rw [if_neg g3, Option.bind_some, if_pos rfl, if_neg (by omega)]
/-- the counts stay within the rooms -/
def own_Q (R AL : List Int32) (b : Int) : Prop := ∀ w m : Int32, own_wn w m → -b ≤ (gI AL (w * 32 + m)).toInt ∧ (gI AL (w * 32 + m)).toInt ≤ (gI R w).toInt
def own_R (R : List Int32) : Prop := R.length = 3 ∧ ∀ w : Int32, 0 ≤ w.toInt → w.toInt ≤ 2 → 0 ≤ (gI R w).toInt ∧ (gI R w).toInt ≤ 100
theorem own_bookF {R AC ST SA SN EX AL : List Int32} (h : own_PS AC ST SA SN EX AL) (hR : R.length = 3) {n t a k : Int32} (t0 : 0 ≤ t.toInt) (t2 : t.toInt ≤ 2) (a0 : 0 ≤ a.toInt) (k1 : 1 ≤ k.toInt) (ak : a.toInt + k.toInt ≤ 32) {pc id : Int32} {X : List Int32 × List Int32 × List Int32 × List Int32 × List Int32 × List Int32 × Int32 × Int32} (i0 : 0 ≤ id.toInt) (hb : f_book R AC ST SA SN EX AL n pc t a k = some (id, X)) : own_fit R AL (fun _ _ => 0) t a (a + k) := by
  rcases own_rq t a k with ⟨e, er, en⟩ | ⟨er, -⟩
  · exfalso
    unfold f_book at hb
    rw [er, Option.bind_some, if_neg (by rw [ieq]; have e0 : (0 : Int32).toInt = 0 := rfl; omega)] at hb
    have := congrArg Prod.fst (Option.some.inj hb)
    have q : e = id := this
    rw [q] at en
    omega
  · rcases own_fts h.lL hR (AC := AC) (ST := ST) (SA := SA) (SN := SN) (id := -1) t2 a0 (by omega) ak (fun _ _ => 0) (fun w m _ _ _ _ => own_x0 w m) with ⟨e, q⟩ | ⟨e, q⟩
    · exact q
    · exfalso
      unfold f_book at hb
      by_cases g : n < 32
      · rw [er, Option.bind_some, if_pos rfl, if_pos g, e, Option.bind_some, if_pos rfl] at hb
        have q : (-4 : Int32) = id := congrArg Prod.fst (Option.some.inj hb)
        rw [← q] at i0
        exact absurd i0 (by decide)
      · rw [er, Option.bind_some, if_pos rfl, if_neg g] at hb
        have q : (-3 : Int32) = id := congrArg Prod.fst (Option.some.inj hb)
        rw [← q] at i0
        exact absurd i0 (by decide)
theorem own_Q_add {R EX AL EX' AL' : List Int32} {b : Int} (hR : own_R R) (hb0 : 0 ≤ b) (hb : b ≤ 100000) (hQ : own_Q R AL b) {t a e : Int32} (a0 : 0 ≤ a.toInt) (hf : own_fit R AL (fun _ _ => 0) t a e) (hc : own_cov EX AL 1 t a e EX' AL') : own_Q R AL' b := by
  intro w m hw
  have q := hQ w m hw
  have c := (hc.2.2 w m hw).2
  have hr := hR.2 w hw.1 (by have := hw.2.1; omega)
  rw [c]
  by_cases g : w.toInt ≤ t.toInt ∧ a.toInt ≤ m.toInt ∧ m.toInt < e.toInt
  · have e1 : (1 : Int32).toInt = 1 := rfl
    have es : (gI AL (w * 32 + m) + 1).toInt = (gI AL (w * 32 + m)).toInt + 1 := by rw [iadd_i (by omega) (by omega), e1]
    have f := hf m w g.2.1 g.2.2 hw.1 g.1
    rw [Int32.sub_zero, ilt, es] at f
    rw [if_pos g, es]
    omega
  · rw [if_neg g, Int32.add_zero]
    exact q
theorem own_Q_sub {R EX AL EX' AL' : List Int32} {b : Int} (hR : own_R R) (hb0 : 0 ≤ b) (hb : b ≤ 100000) (hQ : own_Q R AL b) {t a e : Int32} (hc : own_cov EX AL (-1) t a e EX' AL') : own_Q R AL' (b + 1) := by
  intro w m hw
  have q := hQ w m hw
  have c := (hc.2.2 w m hw).2
  have hr := hR.2 w hw.1 (by have := hw.2.1; omega)
  rw [c]
  by_cases g : w.toInt ≤ t.toInt ∧ a.toInt ≤ m.toInt ∧ m.toInt < e.toInt
  · have e1 : (-1 : Int32).toInt = -1 := rfl
    have es : (gI AL (w * 32 + m) + -1).toInt = (gI AL (w * 32 + m)).toInt - 1 := by rw [iadd_i (by omega) (by omega), e1]; omega
    rw [if_pos g, es]
    omega
  · rw [if_neg g, Int32.add_zero]
    omega
/-! Counting the stays -/
def own_cnt (p : Nat → Bool) : Nat → Nat
  | 0 => 0
  | n + 1 => own_cnt p n + (if p n then 1 else 0)
theorem own_cnt_le (p : Nat → Bool) : ∀ n, own_cnt p n ≤ n := by
  intro n
  induction n with
  | zero => exact Nat.le_refl 0
  | succ n ih => rw [own_cnt]; split <;> omega
theorem own_cnt_same {p q : Nat → Bool} : ∀ n, (∀ j, j < n → p j = q j) → own_cnt p n = own_cnt q n := by
  intro n
  induction n with
  | zero => intro _; rw [own_cnt, own_cnt]
  | succ n ih => intro h; rw [own_cnt, own_cnt, ih (fun j hj => h j (by omega)), h n (by omega)]
theorem own_cnt_upd {p q : Nat → Bool} {i : Nat} : ∀ n, i < n → (∀ j, j < n → j ≠ i → p j = q j) → own_cnt q n + (if p i then 1 else 0) = own_cnt p n + (if q i then 1 else 0) := by
  intro n
  induction n with
  | zero => intro h _; omega
  | succ n ih =>
    intro h hj
    rw [own_cnt, own_cnt]
    by_cases e : i = n
    · subst e
      have s := own_cnt_same i (fun j k => hj j (by omega) (by omega))
      omega
    · have s := ih (by omega) (fun j a b => hj j (by omega) b)
      have t := hj n (by omega) (fun z => e z.symm)
      rw [t]
      omega
def own_on (AC ST SA SN : List Int32) (w m : Int32) (i : Nat) : Bool := decide (gI AC (Int32.ofNat i) = 1 ∧ (gI ST (Int32.ofNat i)).toInt = w.toInt ∧ (gI SA (Int32.ofNat i)).toInt ≤ m.toInt ∧ m.toInt < (gI SA (Int32.ofNat i)).toInt + (gI SN (Int32.ofNat i)).toInt)
def own_ac (AC : List Int32) (i : Nat) : Bool := decide (gI AC (Int32.ofNat i) = 1)
theorem own_gj {L : List Int32} (hl : L.length = 32) {id x : Int32} (h0 : 0 ≤ id.toInt) (h1 : id.toInt < 32) {j : Nat} (hj : j < 32) (ne : j ≠ id.toInt.toNat) : gI (L.set id.toInt.toNat x) (Int32.ofNat j) = gI L (Int32.ofNat j) := by
  have e : (Int32.ofNat j).toInt = j := Int32.toInt_ofNat_of_lt (by omega)
  rw [own_gs hl h0 h1 (by omega), if_neg (by rw [ieq, e]; omega)]
theorem own_gi {L : List Int32} (hl : L.length = 32) {id x : Int32} (h0 : 0 ≤ id.toInt) (h1 : id.toInt < 32) : gI (L.set id.toInt.toNat x) (Int32.ofNat id.toInt.toNat) = x := by
  rw [own_of h0, own_gs hl h0 h1 h0, if_pos rfl]
/-- the counts agree with the slots -/
def own_C (AC ST SA SN EX AL : List Int32) (n : Int32) : Prop :=
  (∀ w m : Int32, own_wn w m → (gI EX (w * 32 + m)).toInt = own_cnt (own_on AC ST SA SN w m) 32) ∧
  (∀ m : Int32, 0 ≤ m.toInt → m.toInt < 32 → (gI AL (0 * 32 + m)).toInt = (gI EX (0 * 32 + m)).toInt + ((gI EX (1 * 32 + m)).toInt + (gI EX (2 * 32 + m)).toInt) ∧ (gI AL (1 * 32 + m)).toInt = (gI EX (1 * 32 + m)).toInt + (gI EX (2 * 32 + m)).toInt ∧ (gI AL (2 * 32 + m)).toInt = (gI EX (2 * 32 + m)).toInt) ∧
  n.toInt = own_cnt (own_ac AC) 32
theorem own_addif {x d : Int32} {c : Prop} [Decidable c] (hx0 : -100 ≤ x.toInt) (hx1 : x.toInt ≤ 1000) (hd0 : -1 ≤ d.toInt) (hd1 : d.toInt ≤ 1) : (x + (if c then d else 0)).toInt = x.toInt + (if c then d.toInt else 0) := by
  split
  · exact iadd_i (by omega) (by omega)
  · rw [Int32.add_zero, Int.add_zero]
/-- sums stay sums -/
theorem own_sums {EX AL EX' AL' : List Int32} {d ty a e : Int32} (hd0 : -1 ≤ d.toInt) (hd1 : d.toInt ≤ 1) (t0 : 0 ≤ ty.toInt) (t2 : ty.toInt ≤ 2) (hc : own_cov EX AL d ty a e EX' AL') {m : Int32} (m0 : 0 ≤ m.toInt) (m1 : m.toInt < 32)
    (hb : ∀ w : Int32, 0 ≤ w.toInt → w.toInt ≤ 2 → -10 ≤ (gI EX (w * 32 + m)).toInt ∧ (gI EX (w * 32 + m)).toInt ≤ 100)
    (h : (gI AL (0 * 32 + m)).toInt = (gI EX (0 * 32 + m)).toInt + ((gI EX (1 * 32 + m)).toInt + (gI EX (2 * 32 + m)).toInt) ∧ (gI AL (1 * 32 + m)).toInt = (gI EX (1 * 32 + m)).toInt + (gI EX (2 * 32 + m)).toInt ∧ (gI AL (2 * 32 + m)).toInt = (gI EX (2 * 32 + m)).toInt) :
    (gI AL' (0 * 32 + m)).toInt = (gI EX' (0 * 32 + m)).toInt + ((gI EX' (1 * 32 + m)).toInt + (gI EX' (2 * 32 + m)).toInt) ∧ (gI AL' (1 * 32 + m)).toInt = (gI EX' (1 * 32 + m)).toInt + (gI EX' (2 * 32 + m)).toInt ∧ (gI AL' (2 * 32 + m)).toInt = (gI EX' (2 * 32 + m)).toInt := by
  have e0 : (0 : Int32).toInt = 0 := rfl
  have e1 : (1 : Int32).toInt = 1 := rfl
  have e2 : (2 : Int32).toInt = 2 := rfl
  have b0 := hb 0 (by decide) (by decide)
  have b1 := hb 1 (by decide) (by decide)
  have b2 := hb 2 (by decide) (by decide)
  have c0 := hc.2.2 0 m ⟨by decide, by decide, m0, m1⟩
  have c1 := hc.2.2 1 m ⟨by decide, by decide, m0, m1⟩
  have c2 := hc.2.2 2 m ⟨by decide, by decide, m0, m1⟩
  rw [c0.1, c0.2, c1.1, c1.2, c2.1, c2.2, own_addif (by omega) (by omega) hd0 hd1, own_addif (by omega) (by omega) hd0 hd1, own_addif (by omega) (by omega) hd0 hd1, own_addif (by omega) (by omega) hd0 hd1, own_addif (by omega) (by omega) hd0 hd1, own_addif (by omega) (by omega) hd0 hd1, e0, e1, e2]
  clear c0 c1 c2 hc hb
  generalize (gI EX (0 * 32 + m)).toInt = x0 at *
  generalize (gI EX (1 * 32 + m)).toInt = x1 at *
  generalize (gI EX (2 * 32 + m)).toInt = x2 at *
  generalize (gI AL (0 * 32 + m)).toInt = y0 at *
  generalize (gI AL (1 * 32 + m)).toInt = y1 at *
  generalize (gI AL (2 * 32 + m)).toInt = y2 at *
  by_cases g : a.toInt ≤ m.toInt ∧ m.toInt < e.toInt
  · obtain ⟨g1, g2⟩ := g
    have hty : ty.toInt = 0 ∨ ty.toInt = 1 ∨ ty.toInt = 2 := by omega
    rcases hty with q | q | q <;> simp only [q, g1, g2, and_true] <;> simp <;> omega
  · have n1 : ∀ p : Prop, ¬ (p ∧ a.toInt ≤ m.toInt ∧ m.toInt < e.toInt) := fun p z => g z.2
    rw [if_neg (n1 _), if_neg (n1 _), if_neg (n1 _), if_neg (n1 _), if_neg (n1 _), if_neg (n1 _)]
    omega
/-- a slot changes: how the counts of stays change -/
theorem own_on_upd {AC ST SA SN : List Int32} (lC : AC.length = 32) (lT : ST.length = 32) (lA : SA.length = 32) (lN : SN.length = 32) {id c t a k : Int32} (h0 : 0 ≤ id.toInt) (h1 : id.toInt < 32) (w m : Int32) :
    own_cnt (own_on (AC.set id.toInt.toNat c) (ST.set id.toInt.toNat t) (SA.set id.toInt.toNat a) (SN.set id.toInt.toNat k) w m) 32 + (if gI AC id = 1 ∧ (gI ST id).toInt = w.toInt ∧ (gI SA id).toInt ≤ m.toInt ∧ m.toInt < (gI SA id).toInt + (gI SN id).toInt then 1 else 0) = own_cnt (own_on AC ST SA SN w m) 32 + (if c = 1 ∧ t.toInt = w.toInt ∧ a.toInt ≤ m.toInt ∧ m.toInt < a.toInt + k.toInt then 1 else 0) := by
  have u := own_cnt_upd (p := own_on AC ST SA SN w m) (q := own_on (AC.set id.toInt.toNat c) (ST.set id.toInt.toNat t) (SA.set id.toInt.toNat a) (SN.set id.toInt.toNat k) w m) (i := id.toInt.toNat) 32 (by omega) (fun j hj ne => by
    unfold own_on
    rw [own_gj lC h0 h1 hj ne, own_gj lT h0 h1 hj ne, own_gj lA h0 h1 hj ne, own_gj lN h0 h1 hj ne])
  have q : own_on (AC.set id.toInt.toNat c) (ST.set id.toInt.toNat t) (SA.set id.toInt.toNat a) (SN.set id.toInt.toNat k) w m id.toInt.toNat = decide (c = 1 ∧ t.toInt = w.toInt ∧ a.toInt ≤ m.toInt ∧ m.toInt < a.toInt + k.toInt) := by
    unfold own_on
    rw [own_gi lC h0 h1, own_gi lT h0 h1, own_gi lA h0 h1, own_gi lN h0 h1]
  have p : own_on AC ST SA SN w m id.toInt.toNat = decide (gI AC id = 1 ∧ (gI ST id).toInt = w.toInt ∧ (gI SA id).toInt ≤ m.toInt ∧ m.toInt < (gI SA id).toInt + (gI SN id).toInt) := by
    unfold own_on
    rw [own_of h0]
  rw [q, p] at u
  simpa only [decide_eq_true_eq] using u
theorem own_ac_upd {AC : List Int32} (lC : AC.length = 32) {id c : Int32} (h0 : 0 ≤ id.toInt) (h1 : id.toInt < 32) :
    own_cnt (own_ac (AC.set id.toInt.toNat c)) 32 + (if gI AC id = 1 then 1 else 0) = own_cnt (own_ac AC) 32 + (if c = 1 then 1 else 0) := by
  have u := own_cnt_upd (p := own_ac AC) (q := own_ac (AC.set id.toInt.toNat c)) (i := id.toInt.toNat) 32 (by omega) (fun j hj ne => by
    unfold own_ac
    rw [own_gj lC h0 h1 hj ne])
  have q : own_ac (AC.set id.toInt.toNat c) id.toInt.toNat = decide (c = 1) := by
    unfold own_ac
    rw [own_gi lC h0 h1]
  have p : own_ac AC id.toInt.toNat = decide (gI AC id = 1) := by
    unfold own_ac
    rw [own_of h0]
  rw [q, p] at u
  simpa only [decide_eq_true_eq] using u
theorem own_C_rng {AC ST SA SN EX AL : List Int32} {n : Int32} (h : own_C AC ST SA SN EX AL n) {m : Int32} (m0 : 0 ≤ m.toInt) (m1 : m.toInt < 32) (w : Int32) (w0 : 0 ≤ w.toInt) (w2 : w.toInt ≤ 2) : 0 ≤ (gI EX (w * 32 + m)).toInt ∧ (gI EX (w * 32 + m)).toInt ≤ 32 := by
  have e := h.1 w m ⟨w0, by omega, m0, m1⟩
  have l := own_cnt_le (own_on AC ST SA SN w m) 32
  omega
theorem own_C_book {AC ST SA SN EX AL EX' AL' : List Int32} {n id t a k : Int32} (hP : own_PS AC ST SA SN EX AL) (h : own_C AC ST SA SN EX AL n) (i0 : 0 ≤ id.toInt) (i1 : id.toInt < 32) (iz : gI AC id = 0) (t0 : 0 ≤ t.toInt) (t2 : t.toInt ≤ 2) (a0 : 0 ≤ a.toInt) (k1 : 1 ≤ k.toInt) (ak : a.toInt + k.toInt ≤ 32) (hc : own_cov EX AL 1 t a (a + k) EX' AL') :
    own_C (AC.set id.toInt.toNat 1) (ST.set id.toInt.toNat t) (SA.set id.toInt.toNat a) (SN.set id.toInt.toNat k) EX' AL' (n + 1) := by
  have es : (a + k).toInt = a.toInt + k.toInt := by clear hP h hc; ((try simp only [ilt, ile, ieq, iadd_e, isub_e, imul_e, Int32.reduceToInt] at *) <;> omega)
  have e1 : (1 : Int32).toInt = 1 := rfl
  refine ⟨fun w m hw => ?_, fun m m0 m1 => ?_, ?_⟩
  · have r := own_C_rng h hw.2.2.1 hw.2.2.2 w hw.1 (by have := hw.2.1; omega)
    have u := own_on_upd hP.lC hP.lT hP.lA hP.lN (c := 1) (t := t) (a := a) (k := k) i0 i1 w m
    have c := (hc.2.2 w m hw).1
    have o := h.1 w m hw
    rw [if_neg (fun z => by rw [iz] at z; exact absurd z.1 (by decide))] at u
    rw [c, own_addif (by omega) (by omega) (by decide) (by decide), es, e1]
    by_cases g : w.toInt = t.toInt ∧ a.toInt ≤ m.toInt ∧ m.toInt < a.toInt + k.toInt
    · rw [if_pos g]
      rw [if_pos ⟨rfl, g.1.symm, g.2.1, g.2.2⟩] at u
      omega
    · rw [if_neg g]
      rw [if_neg (fun z => g ⟨z.2.1.symm, z.2.2.1, z.2.2.2⟩)] at u
      omega
  · exact own_sums (by decide) (by decide) t0 t2 hc m0 m1 (fun w w0 w2 => by have := own_C_rng h m0 m1 w w0 w2; omega) (h.2.1 m m0 m1)
  · have u := own_ac_upd hP.lC (c := 1) i0 i1
    have l := own_cnt_le (own_ac AC) 32
    have o := h.2.2
    rw [if_neg (by rw [iz]; decide), if_pos rfl] at u
    rw [iadd_i (by omega) (by omega), e1]
    omega
theorem own_C_cancel {AC ST SA SN EX AL EX' AL' : List Int32} {n id : Int32} (hP : own_PS AC ST SA SN EX AL) (h : own_C AC ST SA SN EX AL n) (i0 : 0 ≤ id.toInt) (i1 : id.toInt < 32) (ia : gI AC id = 1) (hc : own_cov EX AL (-1) (gI ST id) (gI SA id) (gI SA id + gI SN id) EX' AL') :
    own_C (AC.set id.toInt.toNat 0) (ST.set id.toInt.toNat 0) (SA.set id.toInt.toNat 0) (SN.set id.toInt.toNat 0) EX' AL' (n - 1) := by
  rcases hP.ok id i0 i1 with ⟨z, -⟩ | ⟨-, t0, t2, a0, k1, ak⟩
  · rw [ia] at z; exact absurd z (by decide)
  have es : (gI SA id + gI SN id).toInt = (gI SA id).toInt + (gI SN id).toInt := iadd_i (by omega) (by omega)
  have e1 : (-1 : Int32).toInt = -1 := rfl
  have e1' : (1 : Int32).toInt = 1 := rfl
  refine ⟨fun w m hw => ?_, fun m m0 m1 => ?_, ?_⟩
  · have r := own_C_rng h hw.2.2.1 hw.2.2.2 w hw.1 (by have := hw.2.1; omega)
    have u := own_on_upd hP.lC hP.lT hP.lA hP.lN (c := 0) (t := 0) (a := 0) (k := 0) i0 i1 w m
    have c := (hc.2.2 w m hw).1
    have o := h.1 w m hw
    rw [if_neg (show ¬ ((0 : Int32) = 1 ∧ _) from fun z => absurd z.1 (by decide))] at u
    rw [c, own_addif (by omega) (by omega) (by decide) (by decide), es, e1]
    by_cases g : w.toInt = (gI ST id).toInt ∧ (gI SA id).toInt ≤ m.toInt ∧ m.toInt < (gI SA id).toInt + (gI SN id).toInt
    · rw [if_pos g]
      rw [if_pos ⟨ia, g.1.symm, g.2.1, g.2.2⟩] at u
      omega
    · rw [if_neg g]
      rw [if_neg (fun z => g ⟨z.2.1.symm, z.2.2.1, z.2.2.2⟩)] at u
      omega
  · exact own_sums (by decide) (by decide) t0 t2 hc m0 m1 (fun w w0 w2 => by have := own_C_rng h m0 m1 w w0 w2; omega) (h.2.1 m m0 m1)
  · have u := own_ac_upd hP.lC (c := 0) i0 i1
    have l := own_cnt_le (own_ac AC) 32
    have o := h.2.2
    rw [if_pos ia, if_neg (by decide)] at u
    rw [isub_i (by omega) (by omega), e1']
    omega
theorem own_C_amend {AC ST SA SN EX AL EX1 AL1 EX2 AL2 : List Int32} {n id t a k : Int32} (hP : own_PS AC ST SA SN EX AL) (h : own_C AC ST SA SN EX AL n) (i0 : 0 ≤ id.toInt) (i1 : id.toInt < 32) (ia : gI AC id = 1) (t0 : 0 ≤ t.toInt) (t2 : t.toInt ≤ 2) (a0 : 0 ≤ a.toInt) (k1 : 1 ≤ k.toInt) (ak : a.toInt + k.toInt ≤ 32) (c1 : own_cov EX AL (-1) (gI ST id) (gI SA id) (gI SA id + gI SN id) EX1 AL1) (c2 : own_cov EX1 AL1 1 t a (a + k) EX2 AL2) :
    own_C (AC.set id.toInt.toNat 1) (ST.set id.toInt.toNat t) (SA.set id.toInt.toNat a) (SN.set id.toInt.toNat k) EX2 AL2 n := by
  rcases hP.ok id i0 i1 with ⟨z, -⟩ | ⟨-, t0', t2', a0', k1', ak'⟩
  · rw [ia] at z; exact absurd z (by decide)
  have es' : (gI SA id + gI SN id).toInt = (gI SA id).toInt + (gI SN id).toInt := iadd_i (by omega) (by omega)
  have es : (a + k).toInt = a.toInt + k.toInt := by clear hP h c1 c2 es'; ((try simp only [ilt, ile, ieq, iadd_e, isub_e, imul_e, Int32.reduceToInt] at *) <;> omega)
  have em : (-1 : Int32).toInt = -1 := rfl
  have e1 : (1 : Int32).toInt = 1 := rfl
  have first : ∀ w m : Int32, own_wn w m → (gI EX1 (w * 32 + m)).toInt = (gI EX (w * 32 + m)).toInt + (if w.toInt = (gI ST id).toInt ∧ (gI SA id).toInt ≤ m.toInt ∧ m.toInt < (gI SA id).toInt + (gI SN id).toInt then -1 else 0) := by
    intro w m hw
    have r := own_C_rng h hw.2.2.1 hw.2.2.2 w hw.1 (by have := hw.2.1; omega)
    rw [(c1.2.2 w m hw).1, own_addif (by omega) (by omega) (by decide) (by decide), es', em]
  have bd : ∀ w m : Int32, own_wn w m → -1 ≤ (gI EX1 (w * 32 + m)).toInt ∧ (gI EX1 (w * 32 + m)).toInt ≤ 32 := by
    intro w m hw
    have r := own_C_rng h hw.2.2.1 hw.2.2.2 w hw.1 (by have := hw.2.1; omega)
    rw [first w m hw]
    split <;> omega
  refine ⟨fun w m hw => ?_, fun m m0 m1 => ?_, ?_⟩
  · have b := bd w m hw
    have u := own_on_upd hP.lC hP.lT hP.lA hP.lN (c := 1) (t := t) (a := a) (k := k) i0 i1 w m
    have o := h.1 w m hw
    rw [(c2.2.2 w m hw).1, own_addif (by omega) (by omega) (by decide) (by decide), es, e1, first w m hw]
    by_cases g : w.toInt = (gI ST id).toInt ∧ (gI SA id).toInt ≤ m.toInt ∧ m.toInt < (gI SA id).toInt + (gI SN id).toInt
    · rw [if_pos g]
      rw [if_pos (show gI AC id = 1 ∧ (gI ST id).toInt = w.toInt ∧ (gI SA id).toInt ≤ m.toInt ∧ m.toInt < (gI SA id).toInt + (gI SN id).toInt from ⟨ia, g.1.symm, g.2.1, g.2.2⟩)] at u
      by_cases g2 : w.toInt = t.toInt ∧ a.toInt ≤ m.toInt ∧ m.toInt < a.toInt + k.toInt
      · rw [if_pos g2]
        rw [if_pos (show (1 : Int32) = 1 ∧ t.toInt = w.toInt ∧ a.toInt ≤ m.toInt ∧ m.toInt < a.toInt + k.toInt from ⟨rfl, g2.1.symm, g2.2.1, g2.2.2⟩)] at u
        omega
      · rw [if_neg g2]
        rw [if_neg (show ¬ ((1 : Int32) = 1 ∧ t.toInt = w.toInt ∧ a.toInt ≤ m.toInt ∧ m.toInt < a.toInt + k.toInt) from fun z => g2 ⟨z.2.1.symm, z.2.2.1, z.2.2.2⟩)] at u
        omega
    · rw [if_neg g]
      rw [if_neg (show ¬ (gI AC id = 1 ∧ (gI ST id).toInt = w.toInt ∧ (gI SA id).toInt ≤ m.toInt ∧ m.toInt < (gI SA id).toInt + (gI SN id).toInt) from fun z => g ⟨z.2.1.symm, z.2.2.1, z.2.2.2⟩)] at u
      by_cases g2 : w.toInt = t.toInt ∧ a.toInt ≤ m.toInt ∧ m.toInt < a.toInt + k.toInt
      · rw [if_pos g2]
        rw [if_pos (show (1 : Int32) = 1 ∧ t.toInt = w.toInt ∧ a.toInt ≤ m.toInt ∧ m.toInt < a.toInt + k.toInt from ⟨rfl, g2.1.symm, g2.2.1, g2.2.2⟩)] at u
        omega
      · rw [if_neg g2]
        rw [if_neg (show ¬ ((1 : Int32) = 1 ∧ t.toInt = w.toInt ∧ a.toInt ≤ m.toInt ∧ m.toInt < a.toInt + k.toInt) from fun z => g2 ⟨z.2.1.symm, z.2.2.1, z.2.2.2⟩)] at u
        omega
  · have s1 := own_sums (by decide) (by decide) t0' t2' c1 m0 m1 (fun w w0 w2 => by have := own_C_rng h m0 m1 w w0 w2; omega) (h.2.1 m m0 m1)
    exact own_sums (by decide) (by decide) t0 t2 c2 m0 m1 (fun w w0 w2 => by have := bd w m ⟨w0, by omega, m0, m1⟩; omega) s1
  · have u := own_ac_upd hP.lC (c := 1) i0 i1
    have o := h.2.2
    rw [if_pos ia, if_pos rfl] at u
    omega
theorem own_rq0 {t a k : Int32} (t0 : 0 ≤ t.toInt) (t2 : t.toInt ≤ 2) (a0 : 0 ≤ a.toInt) (k1 : 1 ≤ k.toInt) (ak : a.toInt + k.toInt ≤ 32) : f_requestError t a k = some 0 := by
  have e0 : (0 : Int32).toInt = 0 := rfl
  have e1 : (1 : Int32).toInt = 1 := rfl
  have e3 : (3 : Int32).toInt = 3 := rfl
  have e32 : (32 : Int32).toInt = 32 := rfl
  have es : (32 - a).toInt = 32 - a.toInt := by rw [isub_i (by omega) (by omega), e32]
  unfold f_requestError f_isValidType f_isValidNight f_isValidLength
  rw [if_neg (by rw [ilt]; omega), if_pos (by rw [ilt]; omega), Option.bind_some, if_neg (by decide), if_neg (by rw [ilt]; omega), if_pos (by rw [ilt]; omega), Option.bind_some, if_neg (by decide), if_neg (by rw [ilt]; omega), if_neg (by rw [ilt]; omega), Option.bind_some, if_neg (by decide)]
/-- an amended stay: what changes -/
theorem own_amdS {R AC ST SA SN EX AL : List Int32} (h : own_PS AC ST SA SN EX AL) (hR : R.length = 3) {id : Int32} (i0 : 0 ≤ id.toInt) (i1 : id.toInt < 32) (ia : gI AC id = 1) {t a k : Int32} (t0 : 0 ≤ t.toInt) (t2 : t.toInt ≤ 2) (a0 : 0 ≤ a.toInt) (k1 : 1 ≤ k.toInt) (ak : a.toInt + k.toInt ≤ 32) (hf : own_fit R AL (own_xs (gI ST id) (gI SA id) (gI SN id)) t a (a + k)) :
    ∃ EX1 AL1 EX2 AL2 : List Int32, own_cov EX AL (-1) (gI ST id) (gI SA id) (gI SA id + gI SN id) EX1 AL1 ∧ own_cov EX1 AL1 1 t a (a + k) EX2 AL2 ∧ ∀ pc, f_amend R AC ST SA SN EX AL pc id t a k = some (0, ST.set id.toInt.toNat t, SA.set id.toInt.toNat a, SN.set id.toInt.toNat k, EX2, AL2, 0) := by
  have lC := h.lC
  have lT := h.lT
  have lA := h.lA
  have lN := h.lN
  rcases own_act01 h id with ⟨e, z⟩ | ⟨e, -, -, -, t0', t2', a0', k1', ak'⟩
  · have := z i0 i1
    rw [ia] at this
    exact absurd this (by decide)
  have z : ∀ L : List Int32, L.length = 32 → ∀ x, gI (L.set id.toInt.toNat x) id = x := fun L hl x => by rw [own_gs hl i0 i1 i0, if_pos rfl]
  obtain ⟨EX1, AL1, e1, c1⟩ := own_adj (AC := AC) lT lA lN h.lE h.lL (δ := -1) i0 i1 rfl rfl rfl t0' t2' a0' (by omega) ak'
  obtain ⟨EX2, AL2, e2, c2⟩ := own_adj (AC := AC) (own_len lT _ t) (own_len lA _ a) (own_len lN _ k) c1.1 c1.2.1 (δ := 1) i0 i1 (z ST lT t) (z SA lA a) (z SN lN k) t0 t2 a0 (by omega) ak
  refine ⟨EX1, AL1, EX2, AL2, c1, c2, fun pc => ?_⟩
  have ef : f_fitsWith R AC ST SA SN AL id t a k = some 1 := by
    rcases own_fts h.lL hR (AC := AC) (ST := ST) (SA := SA) (SN := SN) (id := id) t2 a0 (by omega) ak (own_xs (gI ST id) (gI SA id) (gI SN id)) (fun w m p q r s => own_x1 h i0 i1 ia p q r s) with ⟨e, -⟩ | ⟨-, q⟩
    · exact e
    · exact absurd hf q
  unfold f_amend f_storeStay f_discardPlan
  rw [e, Option.bind_some, if_neg (by decide), own_rq0 t0 t2 a0 k1 ak, Option.bind_some, if_pos rfl, ef, Option.bind_some, if_neg (by decide), e1, Option.bind_some, wrA_in i0 (by omega), Option.bind_some, wrA_in i0 (by omega), Option.bind_some, wrA_in i0 (by omega), Option.bind_some]
  show Option.bind (some (ST.set id.toInt.toNat t, SA.set id.toInt.toNat a, SN.set id.toInt.toNat k)) _ = _
  rw [Option.bind_some]
  show Option.bind (f_adjustCoverage (ST.set id.toInt.toNat t) (SA.set id.toInt.toNat a) (SN.set id.toInt.toNat k) EX1 AL1 id 1) _ = _
  rw [e2, Option.bind_some]
  rfl
theorem own_amd {R AC ST SA SN EX AL : List Int32} (h : own_PS AC ST SA SN EX AL) (hR : R.length = 3) (id t a k : Int32) :
    (∃ e : Int32, ¬ e = 0 ∧ ∀ pc, f_amend R AC ST SA SN EX AL pc id t a k = some (e, ST, SA, SN, EX, AL, pc)) ∨
    (0 ≤ id.toInt ∧ id.toInt < 32 ∧ gI AC id = 1 ∧ 0 ≤ t.toInt ∧ t.toInt ≤ 2 ∧ 0 ≤ a.toInt ∧ 1 ≤ k.toInt ∧ a.toInt + k.toInt ≤ 32 ∧ own_fit R AL (own_xs (gI ST id) (gI SA id) (gI SN id)) t a (a + k)) := by
  rcases own_act01 h id with ⟨e, -⟩ | ⟨e, i0, i1, ia, t0', t2', a0', k1', ak'⟩
  · left
    refine ⟨-5, by decide, fun pc => ?_⟩
    unfold f_amend
    rw [e, Option.bind_some, if_pos rfl]
  · rcases own_rq t a k with ⟨x, er, en⟩ | ⟨er, t0, t2, a0, a1, k1, ak⟩
    · have nx : ¬ x = 0 := by rw [ieq]; have e0 : (0 : Int32).toInt = 0 := rfl; omega
      left
      refine ⟨x, nx, fun pc => ?_⟩
      unfold f_amend
      rw [e, Option.bind_some, if_neg (by decide), er, Option.bind_some, if_neg nx]
    · rcases own_fts h.lL hR (AC := AC) (ST := ST) (SA := SA) (SN := SN) (id := id) t2 a0 (by omega) ak (own_xs (gI ST id) (gI SA id) (gI SN id)) (fun w m p q r s => own_x1 h i0 i1 ia p q r s) with ⟨-, q⟩ | ⟨ef, -⟩
      · exact Or.inr ⟨i0, i1, ia, t0, t2, a0, k1, ak, q⟩
      · left
        refine ⟨-4, by decide, fun pc => ?_⟩
        unfold f_amend
        rw [e, Option.bind_some, if_neg (by decide), er, Option.bind_some, if_pos rfl, ef, Option.bind_some, if_pos rfl]
theorem own_fit_sub {R EX AL EX1 AL1 : List Int32} {t' a' k' t a e : Int32} (a0' : 0 ≤ a'.toInt) (k0' : 0 ≤ k'.toInt) (ak' : a'.toInt + k'.toInt ≤ 32) (t2 : t.toInt ≤ 2) (a0 : 0 ≤ a.toInt) (he : e.toInt ≤ 32) (hc : own_cov EX AL (-1) t' a' (a' + k') EX1 AL1) (hf : own_fit R AL (own_xs t' a' k') t a e) : own_fit R AL1 (fun _ _ => 0) t a e := by
  have es : (a' + k').toInt = a'.toInt + k'.toInt := by clear hc hf; ((try simp only [ilt, ile, ieq, iadd_e, isub_e, imul_e, Int32.reduceToInt] at *) <;> omega)
  intro n w h1 h2 h3 h4
  have f := hf n w h1 h2 h3 h4
  have c := (hc.2.2 w n ⟨h3, by omega, by omega, by omega⟩).2
  rw [es] at c
  rw [c]
  unfold own_xs at f
  by_cases g : w.toInt ≤ t'.toInt ∧ a'.toInt ≤ n.toInt ∧ n.toInt < a'.toInt + k'.toInt
  · rw [if_pos g] at f ⊢
    have ee : gI AL (w * 32 + n) + -1 - 0 + 1 = gI AL (w * 32 + n) - 1 + 1 := by grind
    rw [ee]
    exact f
  · rw [if_neg g] at f ⊢
    rw [Int32.add_zero]
    exact f
theorem own_fit_back {R EX AL EX1 AL1 EX2 AL2 : List Int32} {b : Int} {t' a' k' t a k : Int32} (t2' : t'.toInt ≤ 2) (a0' : 0 ≤ a'.toInt) (k0' : 0 ≤ k'.toInt) (ak' : a'.toInt + k'.toInt ≤ 32) (a0 : 0 ≤ a.toInt) (k0 : 0 ≤ k.toInt) (ak : a.toInt + k.toInt ≤ 32) (hQ : own_Q R AL b) (c1 : own_cov EX AL (-1) t' a' (a' + k') EX1 AL1) (c2 : own_cov EX1 AL1 1 t a (a + k) EX2 AL2) : own_fit R AL2 (own_xs t a k) t' a' (a' + k') := by
  have es' : (a' + k').toInt = a'.toInt + k'.toInt := by clear c1 c2 hQ; ((try simp only [ilt, ile, ieq, iadd_e, isub_e, imul_e, Int32.reduceToInt] at *) <;> omega)
  have es : (a + k).toInt = a.toInt + k.toInt := by clear c1 c2 hQ es'; ((try simp only [ilt, ile, ieq, iadd_e, isub_e, imul_e, Int32.reduceToInt] at *) <;> omega)
  intro n w h1 h2 h3 h4
  have hw : own_wn w n := ⟨h3, by omega, by omega, by omega⟩
  have q := (hQ w n hw).2
  have x1 := (c1.2.2 w n hw).2
  have x2 := (c2.2.2 w n hw).2
  rw [if_pos ⟨h4, h1, h2⟩] at x1
  rw [es] at x2
  rw [x2, x1]
  unfold own_xs
  by_cases g : w.toInt ≤ t.toInt ∧ a.toInt ≤ n.toInt ∧ n.toInt < a.toInt + k.toInt
  · rw [if_pos g]
    have ee : gI AL (w * 32 + n) + -1 + 1 - 1 + 1 = gI AL (w * 32 + n) := by grind
    rw [ee, ilt]
    omega
  · rw [if_neg g]
    have ee : gI AL (w * 32 + n) + -1 + 0 - 0 + 1 = gI AL (w * 32 + n) := by grind
    rw [ee, ilt]
    omega
theorem own_pm4 (x : Int32) (c d : Prop) [Decidable c] [Decidable d] : x + (if c then (-1 : Int32) else 0) + (if d then (1 : Int32) else 0) + (if d then (-1 : Int32) else 0) + (if c then (1 : Int32) else 0) = x := by
  by_cases h : c <;> by_cases g : d <;> simp only [h, g, if_true, if_false] <;> grind
theorem own_back4 {EX AL E1 A1 E2 A2 E3 A3 E4 A4 : List Int32} {t' a' e' t a e : Int32} (lE : EX.length = 96) (lL : AL.length = 96) (c1 : own_cov EX AL (-1) t' a' e' E1 A1) (c2 : own_cov E1 A1 1 t a e E2 A2) (c3 : own_cov E2 A2 (-1) t a e E3 A3) (c4 : own_cov E3 A3 1 t' a' e' E4 A4) : E4 = EX ∧ A4 = AL := by
  have l1 := c4.1
  have l2 := c4.2.1
  constructor
  · refine gext (by omega) (by omega) (fun i p q => ?_)
    obtain ⟨w, m, hw, rfl⟩ := own_ixs p (by omega)
    rw [(c4.2.2 w m hw).1, (c3.2.2 w m hw).1, (c2.2.2 w m hw).1, (c1.2.2 w m hw).1, own_pm4]
  · refine gext (by omega) (by omega) (fun i p q => ?_)
    obtain ⟨w, m, hw, rfl⟩ := own_ixs p (by omega)
    rw [(c4.2.2 w m hw).2, (c3.2.2 w m hw).2, (c2.2.2 w m hw).2, (c1.2.2 w m hw).2, own_pm4]
theorem own_stA {AC ST SA SN EX AL : List Int32} (h : own_PS AC ST SA SN EX AL) {id : Int32} (i0 : 0 ≤ id.toInt) (i1 : id.toInt < 32) (ia : gI AC id = 1) : f_stayType AC ST id = some (gI ST id) ∧ f_stayArrive AC SA id = some (gI SA id) ∧ f_stayNights AC SN id = some (gI SN id) := by
  have lT := h.lT
  have lA := h.lA
  have lN := h.lN
  unfold f_stayType f_stayArrive f_stayNights
  rcases own_act01 h id with ⟨e, z⟩ | ⟨e, -⟩
  · have := z i0 i1
    rw [ia] at this
    exact absurd this (by decide)
  · rw [e, Option.bind_some, if_neg (by decide), Option.bind_some, if_neg (by decide), Option.bind_some, if_neg (by decide), rdg i0 (by omega), rdg i0 (by omega), rdg i0 (by omega), Option.bind_some, Option.bind_some, Option.bind_some]
    exact ⟨rfl, rfl, rfl⟩
theorem own_stT {AC ST SA SN EX AL : List Int32} (h : own_PS AC ST SA SN EX AL) {id : Int32} (i0 : 0 ≤ id.toInt) (i1 : id.toInt < 32) (ia : gI AC id = 1) : f_stayType AC ST id = some (gI ST id) := by
  have lT := h.lT
  unfold f_stayType
  rcases own_act01 h id with ⟨e, z⟩ | ⟨e, -⟩
  · have := z i0 i1
    rw [ia] at this
    exact absurd this (by decide)
  · rw [e, Option.bind_some, if_neg (by decide), rdg i0 (by omega), Option.bind_some]
theorem own_slk {R AL : List Int32} (hR : R.length = 3) (lL : AL.length = 96) {t n : Int32} (hw : own_wn t n) : f_slackOf R AL t n = some (gI R t - gI AL (t * 32 + n)) := by
  have e0 : (0 : Int32).toInt = 0 := rfl
  have e3 : (3 : Int32).toInt = 3 := rfl
  have q := own_ala lL hw
  obtain ⟨p1, p2, p3, p4⟩ := hw
  unfold f_slackOf f_roomsFrom f_isValidType
  rw [if_neg (by rw [ilt]; omega), if_pos (by rw [ilt]; omega), Option.bind_some, if_neg (by decide), rdg p1 (by omega), Option.bind_some, Option.bind_some, q, Option.bind_some]
theorem own_oc {EX : List Int32} (lE : EX.length = 96) {t n : Int32} (hw : own_wn t n) : f_occupancy EX t n = some (gI EX (t * 32 + n)) := by
  have e0 : (0 : Int32).toInt = 0 := rfl
  have e3 : (3 : Int32).toInt = 3 := rfl
  have e32 : (32 : Int32).toInt = 32 := rfl
  have ei := own_wx hw
  obtain ⟨p1, p2, p3, p4⟩ := hw
  have v1 : f_isValidType t = some 1 := by
    unfold f_isValidType
    rw [if_neg (by rw [ilt]; omega), if_pos (by rw [ilt]; omega)]
  have v2 : f_isValidNight n = some 1 := by
    unfold f_isValidNight
    rw [if_neg (by rw [ilt]; omega), if_pos (by rw [ilt]; omega)]
  unfold f_occupancy f_exactAt f_countIndex
  rw [v1, Option.bind_some, if_neg (by decide), v2, Option.bind_some, if_neg (by decide), Option.bind_some, if_neg (by decide), Option.bind_some, if_neg (by decide), Option.bind_some, rdg (by omega) (by omega), Option.bind_some, Option.bind_some]
theorem own_ms (k : Int32 → Option Int32) (R AL : List Int32) (f : Nat) (t m x u : Int32) : f_minSlack_10 k R AL (f + 1) t m x u = (if t < u then k x else if u < 3 then (f_slackOf R AL u m).bind fun r => f_minSlack_10 k R AL f t m (if r < x then r else x) (u + 1) else k x) := by
  rw [f_minSlack_10]
theorem own_46 {R AL : List Int32} {x : Int32} (h : ¬ x < 0) : f_minSlack_46 R AL x = some x := by
  unfold f_minSlack_46
  rw [if_neg h]
theorem own_av0 {R AL : List Int32} (hR : R.length = 3) (lL : AL.length = 96) {m : Int32} (m0 : 0 ≤ m.toInt) (m1 : m.toInt < 32) (p0 : ¬ gI R 0 - gI AL (0 * 32 + m) < 0) : f_available R AL 0 m = some (gI R 0 - gI AL (0 * 32 + m)) := by
  have e0 : (0 : Int32).toInt = 0 := rfl
  have e32 : (32 : Int32).toInt = 32 := rfl
  have v2 : f_isValidNight m = some 1 := by
    unfold f_isValidNight
    rw [if_neg (by rw [ilt]; omega), if_pos (by rw [ilt]; omega)]
  have t0 : f_isValidType 0 = some 1 := rfl
  have f5 : (100000 : Nat) = 99999 + 1 := rfl
  have s0 := own_slk hR lL (t := 0) (n := m) ⟨by decide, by decide, m0, m1⟩
  unfold f_available f_minSlack
  rw [t0, Option.bind_some, if_neg (by decide), v2, Option.bind_some, if_neg (by decide), s0, Option.bind_some, f5, own_ms, if_pos (by decide), own_46 p0, Option.bind_some]
/-! The mask of active slots -/
def own_mb (w : Int32) (n : Nat) : Bool := w.toBitVec.getLsbD n
theorem own_shn_all : ∀ n : Fin 32, (((Int32.ofNat n.val &&& 31).toUInt32.toBitVec) % 32#32).toNat = n.val := by decide +kernel
theorem own_mb0 (w : Int32) {n : Nat} (hn : n < 32) : (XT.ushr w (Int32.ofNat n) &&& 1 = 0) ↔ own_mb w n = false := by
  have k := own_shn_all ⟨n, hn⟩
  simp only at k
  have e : (XT.ushr w (Int32.ofNat n)).toBitVec = w.toBitVec >>> n := by
    show w.toBitVec >>> (((Int32.ofNat n &&& 31).toUInt32.toBitVec) % 32#32) = _
    rw [BitVec.ushiftRight_eq', k]
  unfold own_mb
  rw [← Int32.toBitVec_inj, Int32.toBitVec_and, e]
  constructor
  · intro h
    have h2 := congrArg (fun x => BitVec.getLsbD x 0) h
    simpa using h2
  · intro h
    apply BitVec.eq_of_getLsbD_eq
    intro j hj
    show ((w.toBitVec >>> n) &&& 1#32).getLsbD j = (0#32).getLsbD j
    rw [BitVec.getLsbD_and, BitVec.getLsbD_ushiftRight]
    by_cases hj0 : j = 0
    · subst hj0
      simp [h]
    · simp [hj0]
theorem own_shl_all : ∀ n : Fin 32, ((1 : Int32) <<< (Int32.ofNat n.val &&& 31)).toBitVec = 1#32 <<< n.val := by decide +kernel
theorem own_one {n k : Nat} (hn : n < 32) : (1#32 <<< k).getLsbD n = decide (n = k) := by
  rw [BitVec.getLsbD_shiftLeft]
  by_cases g : n = k
  · subst g
    simp [hn]
  · by_cases l : n < k
    · simp [g, l]
    · have e1 : (1#32).getLsbD (n - k) = false := by
        have q : ¬ n - k = 0 := by omega
        rw [BitVec.getLsbD_one]
        simp [q]
      simp [e1, g]
theorem own_mbs (w : Int32) {n k : Nat} (hk : k < 32) (hn : n < 32) : own_mb (w ||| ((1 : Int32) <<< (Int32.ofNat k &&& 31))) n = (own_mb w n || decide (n = k)) := by
  have e := own_shl_all ⟨k, hk⟩
  simp only at e
  unfold own_mb
  rw [Int32.toBitVec_or, e, BitVec.getLsbD_or, own_one hn]
theorem own_mbc (w : Int32) {n k : Nat} (hk : k < 32) (hn : n < 32) : own_mb (w &&& (((1 : Int32) <<< (Int32.ofNat k &&& 31)) ^^^ (-1 : Int32))) n = (own_mb w n && !decide (n = k)) := by
  have e := own_shl_all ⟨k, hk⟩
  simp only at e
  have m : (-1 : Int32).toBitVec = BitVec.allOnes 32 := by decide
  unfold own_mb
  rw [Int32.toBitVec_and, Int32.toBitVec_xor, e, m, BitVec.getLsbD_and, BitVec.getLsbD_xor, own_one hn, BitVec.getLsbD_allOnes]
  simp [hn]
def own_mk (w : Int32) (AC : List Int32) : Prop := ∀ j : Nat, j < 32 → own_mb w j = own_ac AC j
theorem own_mk0 {w : Int32} {AC : List Int32} (h : own_mk w AC) {v : Int32} (v0 : 0 ≤ v.toInt) (v1 : v.toInt < 32) : (XT.ushr w v &&& 1 = 0) ↔ ¬ gI AC v = 1 := by
  have q := own_mb0 w (n := v.toInt.toNat) (by omega)
  have g := h v.toInt.toNat (by omega)
  unfold own_ac at g
  rw [own_of v0] at q g
  rw [q, g, decide_eq_false_iff_not]
theorem own_mk_set {w : Int32} {AC : List Int32} (lC : AC.length = 32) (h : own_mk w AC) {v : Int32} (v0 : 0 ≤ v.toInt) (v1 : v.toInt < 32) : own_mk (w ||| ((1 : Int32) <<< (v &&& 31))) (AC.set v.toInt.toNat 1) := by
  intro j hj
  have q := own_mbs w (n := j) (k := v.toInt.toNat) (by omega) hj
  rw [own_of v0] at q
  rw [q, h j hj]
  unfold own_ac
  by_cases e : j = v.toInt.toNat
  · subst e
    rw [own_gi lC v0 v1]
    simp
  · rw [own_gj lC v0 v1 hj e, decide_eq_false e, Bool.or_false]
theorem own_mk_clr {w : Int32} {AC : List Int32} (lC : AC.length = 32) (h : own_mk w AC) {v : Int32} (v0 : 0 ≤ v.toInt) (v1 : v.toInt < 32) : own_mk (w &&& (((1 : Int32) <<< (v &&& 31)) ^^^ (-1 : Int32))) (AC.set v.toInt.toNat 0) := by
  intro j hj
  have q := own_mbc w (n := j) (k := v.toInt.toNat) (by omega) hj
  rw [own_of v0] at q
  rw [q, h j hj]
  unfold own_ac
  by_cases e : j = v.toInt.toNat
  · subst e
    rw [own_gi lC v0 v1]
    simp
  · rw [own_gj lC v0 v1 hj e, decide_eq_false e, Bool.not_false, Bool.and_true]
theorem own_lf {AC ST SA SN EX AL : List Int32} (hP : own_PS AC ST SA SN EX AL) {w : Int32} (h : own_mk w AC) : f_L_lowestFree w = f_lowestInactiveSlot AC := by
  have lC := hP.lC
  have key : ∀ (n : Nat) (v : Int32), 0 ≤ v.toInt → v.toInt ≤ 32 → f_L_lowestFree_2 n w v = f_lowestInactiveSlot_2 AC n v := by
    intro n
    induction n with
    | zero => intro v a b; rfl
    | succ n ih =>
      intro v a b
      unfold f_L_lowestFree_2 f_lowestInactiveSlot_2
      by_cases c : v < 32
      · rw [if_pos c, if_pos c]
        have c' : v.toInt < 32 := ilt.mp c
        have p : (v + 1).toInt = v.toInt + 1 := by clear ih hP h; ((try simp only [ilt, ile, ieq, iadd_e, isub_e, imul_e, Int32.reduceToInt] at *) <;> omega)
        rw [rdg a (by omega), Option.bind_some, ih (v + 1) (by omega) (by omega)]
        have q := own_mk0 h a c'
        rcases hP.ok v a c' with ⟨z, -⟩ | ⟨z, -⟩
        · rw [if_pos (q.mpr (by rw [z]; decide)), if_pos z]
        · rw [if_neg (fun g => (q.mp g) z), if_neg (by rw [z]; decide)]
      · rw [if_neg c, if_neg c]
  exact key 100000 0 (by decide) (by decide)
theorem own_lowx {AC : List Int32} (lC : AC.length = 32) : ∀ (f : Nat) (j : Int32), 0 ≤ j.toInt → j.toInt ≤ 32 → 32 - j.toInt < f → f_lowestInactiveSlot_2 AC f j = some (-1) → ∀ i : Int32, j.toInt ≤ i.toInt → i.toInt < 32 → ¬ gI AC i = 0 := by
  intro f
  induction f with
  | zero => intro j a b c; omega
  | succ f ih =>
    intro j a b c e i h0 h1
    have g : j < 32 := ilt.mpr (by have e32 : (32 : Int32).toInt = 32 := rfl; omega)
    have g' : j.toInt < 32 := ilt.mp g
    have p : (j + 1).toInt = j.toInt + 1 := by clear ih e; ((try simp only [ilt, ile, ieq, iadd_e, isub_e, imul_e, Int32.reduceToInt] at *) <;> omega)
    unfold f_lowestInactiveSlot_2 at e
    rw [if_pos g, rdg a (by omega), Option.bind_some] at e
    by_cases z : gI AC j = 0
    · rw [if_pos z] at e
      have := Option.some.inj e
      rw [ieq] at this
      have em : (-1 : Int32).toInt = -1 := rfl
      omega
    · rw [if_neg z] at e
      by_cases ej : i = j
      · rw [ej]; exact z
      · rw [ieq] at ej
        exact ih (j + 1) (by omega) (by omega) (by omega) e i (by omega) h1
theorem own_cnt_all (p : Nat → Bool) : ∀ n, (∀ j, j < n → p j = true) → own_cnt p n = n := by
  intro n
  induction n with
  | zero => intro _; rfl
  | succ n ih => intro h; rw [own_cnt, ih (fun j hj => h j (by omega)), h n (by omega)]; simp
theorem own_rqT (a k : Int32) : f_requestError 3 a k = some (-1) := by
  unfold f_requestError
  have e : f_isValidType 3 = some 0 := rfl
  rw [e, Option.bind_some, if_pos rfl]
theorem own_rqR {t a k : Int32} (t0 : 0 ≤ t.toInt) (t2 : t.toInt ≤ 2) (a0 : 0 ≤ a.toInt) (a1 : a.toInt ≤ 31) (k1 : 1 ≤ k.toInt) (g : 32 - a < k) : f_requestError t a k = some (-2) := by
  have e0 : (0 : Int32).toInt = 0 := rfl
  have e1 : (1 : Int32).toInt = 1 := rfl
  have e3 : (3 : Int32).toInt = 3 := rfl
  have e32 : (32 : Int32).toInt = 32 := rfl
  have v1 : f_isValidType t = some 1 := by
    unfold f_isValidType
    rw [if_neg (by rw [ilt]; omega), if_pos (by rw [ilt]; omega)]
  have v2 : f_isValidNight a = some 1 := by
    unfold f_isValidNight
    rw [if_neg (by rw [ilt]; omega), if_pos (by rw [ilt]; omega)]
  unfold f_requestError f_isValidLength
  rw [v1, Option.bind_some, if_neg (by decide), v2, Option.bind_some, if_neg (by decide), if_neg (by rw [ilt]; omega), if_pos g, Option.bind_some, if_pos rfl]
/-- what book and canBook answer, case by case -/
theorem own_bookX {R AC ST SA SN EX AL : List Int32} {n : Int32} (h : own_PS AC ST SA SN EX AL) (hC : own_C AC ST SA SN EX AL n) (hR : R.length = 3) {t a k : Int32} (t0 : 0 ≤ t.toInt) (t2 : t.toInt ≤ 2) (a0 : 0 ≤ a.toInt) (k1 : 1 ≤ k.toInt) (ak : a.toInt + k.toInt ≤ 32) :
    (¬ n < 32 ∧ f_canBook R AC ST SA SN AL n t a k = some 0 ∧ ∀ pc, f_book R AC ST SA SN EX AL n pc t a k = some (-3, AC, ST, SA, SN, EX, AL, n, pc)) ∨
    (n < 32 ∧ f_canBook R AC ST SA SN AL n t a k = some 0 ∧ ∀ pc, f_book R AC ST SA SN EX AL n pc t a k = some (-4, AC, ST, SA, SN, EX, AL, n, pc)) ∨
    (n < 32 ∧ f_canBook R AC ST SA SN AL n t a k = some 1 ∧ ∃ (id : Int32) (EX' AL' : List Int32), f_lowestInactiveSlot AC = some id ∧ 0 ≤ id.toInt ∧ id.toInt < 32 ∧ gI AC id = 0 ∧ own_cov EX AL 1 t a (a + k) EX' AL' ∧ own_fit R AL (fun _ _ => 0) t a (a + k) ∧ ∀ pc, f_book R AC ST SA SN EX AL n pc t a k = some (id, AC.set id.toInt.toNat 1, ST.set id.toInt.toNat t, SA.set id.toInt.toNat a, SN.set id.toInt.toNat k, EX', AL', n + 1, 0)) := by
  have er := own_rq0 t0 t2 a0 k1 ak
  have lC := h.lC
  by_cases g : n < 32
  · rcases own_fts h.lL hR (AC := AC) (ST := ST) (SA := SA) (SN := SN) (id := -1) t2 a0 (by omega) ak (fun _ _ => 0) (fun w m _ _ _ _ => own_x0 w m) with ⟨e, q⟩ | ⟨e, q⟩
    · right; right
      have cb : f_canBook R AC ST SA SN AL n t a k = some 1 := by
        unfold f_canBook
        rw [er, Option.bind_some, if_pos rfl, if_pos g, e, Option.bind_some]
        rfl
      refine ⟨g, cb, ?_⟩
      have lo : f_lowestInactiveSlot AC = f_lowestInactiveSlot_2 AC 100000 0 := rfl
      rcases own_low lC 100000 0 (by decide) (by decide) (by decide) with el | ⟨id, el, i0, i1, iz⟩
      · exfalso
        have al := own_lowx lC 100000 0 (by decide) (by decide) (by decide) el
        have e0 : (0 : Int32).toInt = 0 := rfl
        have hn := hC.2.2
        rw [own_cnt_all] at hn
        · rw [ilt] at g
          have e32 : (32 : Int32).toInt = 32 := rfl
          omega
        · intro j hj
          have ej : (Int32.ofNat j).toInt = j := Int32.toInt_ofNat_of_lt (by omega)
          have nz := al (Int32.ofNat j) (by omega) (by omega)
          unfold own_ac
          rcases h.ok (Int32.ofNat j) (by omega) (by omega) with ⟨z, -⟩ | ⟨z, -⟩
          · exact absurd z nz
          · rw [z]; decide
      · rcases own_book h hR n t a k with ⟨x, xn, hb⟩ | ⟨id', EX', AL', j0, j1, jz, hc, -, hb⟩
        · exfalso
          have hb' := hb 0
          have lT := h.lT
          have lA := h.lA
          have lN := h.lN
          have z : ∀ L : List Int32, L.length = 32 → ∀ x, gI (L.set id.toInt.toNat x) id = x := fun L hl x => by rw [own_gs hl i0 i1 i0, if_pos rfl]
          obtain ⟨EX', AL', ea, hc⟩ := own_adj (AC := AC) (own_len lT _ t) (own_len lA _ a) (own_len lN _ k) h.lE h.lL (δ := 1) i0 i1 (z ST lT t) (z SA lA a) (z SN lN k) t0 t2 a0 (by omega) ak
          have ei : f_activateStay AC ST SA SN EX AL n id t a k = some (AC.set id.toInt.toNat 1, ST.set id.toInt.toNat t, SA.set id.toInt.toNat a, SN.set id.toInt.toNat k, EX', AL', n + 1) := by
            unfold f_activateStay f_storeStay
            rw [wrA_in i0 (by omega), Option.bind_some, wrA_in i0 (by omega), Option.bind_some, wrA_in i0 (by omega), Option.bind_some, Option.bind_some]
            show Option.bind (wrA AC id 1) _ = _
            rw [wrA_in i0 (by omega), Option.bind_some, ea, Option.bind_some]
          have e0 : (0 : Int32).toInt = 0 := rfl
          unfold f_book f_discardPlan at hb'
          rw [er, Option.bind_some, if_pos rfl, if_pos g, e, Option.bind_some, if_neg (by decide), lo, el, Option.bind_some, if_neg (by rw [ilt]; omega), ei, Option.bind_some] at hb'
          have q : id = x := congrArg Prod.fst (Option.some.inj hb')
          rw [← q] at xn
          omega
        · have same : id' = id := by
            have hb' := hb 0
            have lT := h.lT
            have lA := h.lA
            have lN := h.lN
            have z : ∀ L : List Int32, L.length = 32 → ∀ x, gI (L.set id.toInt.toNat x) id = x := fun L hl x => by rw [own_gs hl i0 i1 i0, if_pos rfl]
            obtain ⟨EX', AL', ea, hc⟩ := own_adj (AC := AC) (own_len lT _ t) (own_len lA _ a) (own_len lN _ k) h.lE h.lL (δ := 1) i0 i1 (z ST lT t) (z SA lA a) (z SN lN k) t0 t2 a0 (by omega) ak
            have ei : f_activateStay AC ST SA SN EX AL n id t a k = some (AC.set id.toInt.toNat 1, ST.set id.toInt.toNat t, SA.set id.toInt.toNat a, SN.set id.toInt.toNat k, EX', AL', n + 1) := by
              unfold f_activateStay f_storeStay
              rw [wrA_in i0 (by omega), Option.bind_some, wrA_in i0 (by omega), Option.bind_some, wrA_in i0 (by omega), Option.bind_some, Option.bind_some]
              show Option.bind (wrA AC id 1) _ = _
              rw [wrA_in i0 (by omega), Option.bind_some, ea, Option.bind_some]
            have e0 : (0 : Int32).toInt = 0 := rfl
            unfold f_book f_discardPlan at hb'
            rw [er, Option.bind_some, if_pos rfl, if_pos g, e, Option.bind_some, if_neg (by decide), lo, el, Option.bind_some, if_neg (by rw [ilt]; omega), ei, Option.bind_some] at hb'
            exact (congrArg Prod.fst (Option.some.inj hb')).symm
          rw [same] at j0 j1 jz hb
          exact ⟨id, EX', AL', by rw [lo, el], j0, j1, jz, hc, q, hb⟩
    · right; left
      refine ⟨g, ?_, fun pc => ?_⟩
      · unfold f_canBook
        rw [er, Option.bind_some, if_pos rfl, if_pos g, e, Option.bind_some]
        rfl
      · unfold f_book
        rw [er, Option.bind_some, if_pos rfl, if_pos g, e, Option.bind_some, if_pos rfl]
  · left
    refine ⟨g, ?_, fun pc => ?_⟩
    · unfold f_canBook
      rw [er, Option.bind_some, if_pos rfl, if_neg g]
    · unfold f_book
      rw [er, Option.bind_some, if_pos rfl, if_neg g]
theorem own_bookE {R AC ST SA SN EX AL : List Int32} {n t a k e : Int32} (er : f_requestError t a k = some e) (hz : ¬ e = 0) :
    f_canBook R AC ST SA SN AL n t a k = some 0 ∧ ∀ pc, f_book R AC ST SA SN EX AL n pc t a k = some (e, AC, ST, SA, SN, EX, AL, n, pc) := by
  refine ⟨?_, fun pc => ?_⟩
  · unfold f_canBook
    rw [er, Option.bind_some, if_neg hz]
  · unfold f_book
    rw [er, Option.bind_some, if_neg hz]
theorem own_amdE {R AC ST SA SN EX AL : List Int32} {id t a k e : Int32} (ea : f_isActiveStay AC id = some 1) (er : f_requestError t a k = some e) (hz : ¬ e = 0) (pc : Int32) : f_amend R AC ST SA SN EX AL pc id t a k = some (e, ST, SA, SN, EX, AL, pc) := by
  unfold f_amend
  rw [ea, Option.bind_some, if_neg (by decide), er, Option.bind_some, if_neg hz]
/-! How many stays a plan takes -/
def own_lt (AC SA : List Int32) (v : Int) (i : Nat) : Bool := decide (gI AC (Int32.ofNat i) = 1 ∧ (gI SA (Int32.ofNat i)).toInt < v)
def own_eq (AC SA : List Int32) (v : Int) (i : Nat) : Bool := decide (gI AC (Int32.ofNat i) = 1 ∧ (gI SA (Int32.ofNat i)).toInt = v)
theorem own_cnt_add {p q r : Nat → Bool} : ∀ n, (∀ j, j < n → (if p j then 1 else 0) + (if q j then 1 else 0) = (if r j then 1 else (0 : Nat))) → own_cnt p n + own_cnt q n = own_cnt r n := by
  intro n
  induction n with
  | zero => intro _; rfl
  | succ n ih =>
    intro h
    have a := ih (fun j hj => h j (by omega))
    have b := h n (by omega)
    rw [own_cnt, own_cnt, own_cnt]
    omega
theorem own_cnt_mono {p q : Nat → Bool} : ∀ n, (∀ j, j < n → p j = true → q j = true) → own_cnt p n ≤ own_cnt q n := by
  intro n
  induction n with
  | zero => intro _; exact Nat.le_refl _
  | succ n ih =>
    intro h
    have a := ih (fun j hj => h j (by omega))
    have b := h n (by omega)
    rw [own_cnt, own_cnt]
    by_cases hp : p n = true
    · rw [if_pos hp, if_pos (b hp)]; omega
    · rw [if_neg hp]; split <;> omega
theorem own_app1 {PO PO' : List Int32} {n n' v : Int32} (h0 : 0 ≤ n.toInt) (h1 : n.toInt ≤ 32) (lP : PO.length = 32) (e : f_appendToOrder PO n v = some (PO', n')) : n'.toInt ≤ n.toInt + 1 := by
  have en : (n + 1).toInt = n.toInt + 1 := by clear e; ((try simp only [ilt, ile, ieq, iadd_e, isub_e, imul_e, Int32.reduceToInt] at *) <;> omega)
  unfold f_appendToOrder at e
  by_cases c1 : n < 0
  · rw [if_pos c1] at e
    have := congrArg Prod.snd (Option.some.inj e)
    have q : n = n' := this
    rw [← q]; omega
  · rw [if_neg c1] at e
    by_cases c2 : n < 32
    · rw [if_pos c2, wrA_in h0 (by have := ilt.mp c2; have e32 : (32 : Int32).toInt = 32 := rfl; omega), Option.bind_some] at e
      have q : n + 1 = n' := congrArg Prod.snd (Option.some.inj e)
      rw [← q]; omega
    · rw [if_neg c2] at e
      have q : n = n' := congrArg Prod.snd (Option.some.inj e)
      rw [← q]; omega
theorem own_bo15c {Q : List Int32 × Int32 → Prop} {AC SA : List Int32} (lC : AC.length = 32) (hA : ∀ i : Int32, 0 ≤ i.toInt → i.toInt < 32 → gI AC i = 0 ∨ gI AC i = 1) (lA : SA.length = 32) (k7 : List Int32 → Int32 → Int32 → Option (List Int32 × Int32)) (v : Int32) (c : Nat)
    (hk : ∀ (PO : List Int32) (n : Int32), own_J PO n → n.toInt ≤ c + own_cnt (own_eq AC SA v.toInt) 32 → Tot (k7 PO n (v + 1)) Q) : ∀ (f : Nat) (PO : List Int32) (n j : Int32), own_J PO n → 0 ≤ j.toInt → j.toInt ≤ 32 → 32 - j.toInt < f → n.toInt ≤ c + own_cnt (own_eq AC SA v.toInt) j.toInt.toNat → Tot (f_buildOrder_15 k7 AC SA f PO n v j) Q := by
  intro f
  have e32 : (32 : Int32).toInt = 32 := rfl
  induction f with
  | zero => intro PO n j h h0 h1 h2; exfalso; omega
  | succ f ih =>
    intro PO n j h h0 h1 h2 h3
    unfold f_buildOrder_15
    by_cases g : j < 32
    rotate_left
    · rw [if_neg g]
      refine hk PO n h ?_
      rw [ilt] at g
      have : j.toInt.toNat = 32 := by omega
      rw [this] at h3
      exact h3
    rw [if_pos g]
    have g' : j.toInt < 32 := ilt.mp g
    have ej : (j + 1).toInt = j.toInt + 1 := by clear ih hk h h3; ((try simp only [ilt, ile, ieq, iadd_e, isub_e, imul_e, Int32.reduceToInt] at *) <;> omega)
    have en : (j + 1).toInt.toNat = j.toInt.toNat + 1 := by omega
    have cs : own_cnt (own_eq AC SA v.toInt) (j.toInt.toNat + 1) = own_cnt (own_eq AC SA v.toInt) j.toInt.toNat + (if own_eq AC SA v.toInt j.toInt.toNat then 1 else 0) := by rw [own_cnt]
    have next : ∀ (PO : List Int32) (n : Int32), own_J PO n → n.toInt ≤ c + own_cnt (own_eq AC SA v.toInt) (j.toInt.toNat + 1) → Tot (f_buildOrder_15 k7 AC SA f PO n v (j + 1)) Q := by
      intro PO n q1 q2
      exact ih PO n (j + 1) q1 (by omega) (by omega) (by omega) (by rw [en]; exact q2)
    rw [rdg h0 (by omega), Option.bind_some]
    refine Tot.ite (fun g2 => next PO n h (by rw [cs]; split <;> omega)) (fun g2 => ?_)
    rw [rdg h0 (by omega), Option.bind_some]
    refine Tot.ite (fun g3 => ?_) (fun g3 => next PO n h (by rw [cs]; split <;> omega))
    obtain ⟨PO', n', e, h'⟩ := own_app h h0 g'
    have le := own_app1 h.2.1 h.2.2.1 h.1 e
    rw [e, Option.bind_some]
    refine next PO' n' h' ?_
    have yes : own_eq AC SA v.toInt j.toInt.toNat = true := by
      unfold own_eq
      rw [own_of h0, g3]
      rcases hA j h0 g' with z | z
      · exact absurd z g2
      · rw [z]; simp
    rw [cs, yes, if_pos rfl]
    omega
theorem own_bo7c {AC SA : List Int32} (lC : AC.length = 32) (hA : ∀ i : Int32, 0 ≤ i.toInt → i.toInt < 32 → gI AC i = 0 ∨ gI AC i = 1) (lA : SA.length = 32) : ∀ (f : Nat) (PO : List Int32) (n v : Int32), own_J PO n → 0 ≤ v.toInt → v.toInt ≤ 32 → 32 - v.toInt < f → n.toInt ≤ own_cnt (own_lt AC SA v.toInt) 32 → Tot (f_buildOrder_7 AC SA f PO n v) (fun r => own_J r.1 r.2 ∧ r.2.toInt ≤ own_cnt (own_ac AC) 32) := by
  intro f
  induction f with
  | zero => intro PO n v h h0 h1 h2; exfalso; omega
  | succ f ih =>
    intro PO n v h h0 h1 h2 h3
    unfold f_buildOrder_7
    refine Tot.ite (fun g => ?_) (fun g => Tot.mk ⟨h, ?_⟩)
    · have g' : v.toInt < 32 := ilt.mp g
      have ev : (v + 1).toInt = v.toInt + 1 := by clear ih h h3; ((try simp only [ilt, ile, ieq, iadd_e, isub_e, imul_e, Int32.reduceToInt] at *) <;> omega)
      refine own_bo15c lC hA lA _ v (own_cnt (own_lt AC SA v.toInt) 32) (fun PO' n' h' h3' => ih PO' n' (v + 1) h' (by omega) (by omega) (by omega) ?_) 100000 PO n 0 h (by decide) (by decide) (by decide) ?_
      · have ad := own_cnt_add (p := own_lt AC SA v.toInt) (q := own_eq AC SA v.toInt) (r := own_lt AC SA (v + 1).toInt) 32 (by
          intro j _
          unfold own_lt own_eq
          rw [ev]
          by_cases a1 : gI AC (Int32.ofNat j) = 1
          · by_cases a2 : (gI SA (Int32.ofNat j)).toInt < v.toInt
            · have a3 : ¬ (gI SA (Int32.ofNat j)).toInt = v.toInt := by omega
              have a4 : (gI SA (Int32.ofNat j)).toInt < v.toInt + 1 := by omega
              simp [a1, a2, a3, a4]
            · by_cases a3 : (gI SA (Int32.ofNat j)).toInt = v.toInt
              · have a4 : (gI SA (Int32.ofNat j)).toInt < v.toInt + 1 := by omega
                simp [a1, a2, a3, a4]
                omega
              · have a4 : ¬ (gI SA (Int32.ofNat j)).toInt < v.toInt + 1 := by omega
                simp [a1, a2, a3, a4]
          · simp [a1])
        omega
      · omega
    · have := own_cnt_mono (p := own_lt AC SA v.toInt) (q := own_ac AC) 32 (by
        intro j _ hj
        unfold own_lt at hj
        unfold own_ac
        have := of_decide_eq_true hj
        rw [this.1]; decide)
      show n.toInt ≤ _
      omega
theorem own_as16c {F AC ST SA SN EX AL PO : List Int32} (h : own_PS AC ST SA SN EX AL) (hF : own_F F) (tot n pc pu : Int32) (hJ : own_J PO n) : ∀ (f : Nat) (PR PG : List Int32) (u v : Int32), PR.length = 32 → PG.length = 768 → 0 ≤ v.toInt → v.toInt ≤ n.toInt → 32 - v.toInt < f → 0 ≤ u.toInt → u.toInt ≤ v.toInt → Tot (f_assign_16 (f_assign_58 F AC ST SA SN tot) F AC ST SA SN tot f PR PG PO n pc pu u v) (fun r => r.2.1.length = 32 ∧ r.2.2.1.length = 768 ∧ r.2.2.2.1.length = 32 ∧ r.2.2.2.2.2.1 = 1 ∧ 0 ≤ r.1.toInt ∧ r.1.toInt ≤ n.toInt) := by
  intro f
  have hn := hJ.2.2.1
  induction f with
  | zero => intro PR PG u v h h' h0 h1 h2; exfalso; omega
  | succ f ih =>
    intro PR PG u v l1 l2 h0 h1 h2 u0 u1
    unfold f_assign_16
    refine Tot.ite (fun g => Tot.ite (fun g2 => ?_) (fun _ => ?_)) (fun _ => ?_)
    · have g' : v.toInt < 32 := ilt.mp g2
      have g1 : v.toInt < n.toInt := ilt.mp g
      have ev : (v + 1).toInt = v.toInt + 1 := by clear ih h hF hJ; ((try simp only [ilt, ile, ieq, iadd_e, isub_e, imul_e, Int32.reduceToInt] at *) <;> omega)
      have eu : (u + 1).toInt = u.toInt + 1 := by clear ih h hF hJ; ((try simp only [ilt, ile, ieq, iadd_e, isub_e, imul_e, Int32.reduceToInt] at *) <;> omega)
      refine Tot.rdI h0 (by rw [hJ.1]; omega) (Tot.bind (own_place h hF tot l1 l2) ?_)
      rintro ⟨r, A, B⟩ ⟨q1, q2⟩
      refine ih A B _ (v + 1) q1 q2 (by omega) (by omega) (by omega) ?_ ?_
      · split <;> omega
      · split <;> omega
    · unfold f_assign_58
      exact Tot.mk ⟨l1, l2, hJ.1, rfl, u0, by dsimp only; omega⟩
    · unfold f_assign_58
      exact Tot.mk ⟨l1, l2, hJ.1, rfl, u0, by dsimp only; omega⟩
theorem own_assignC {F AC ST SA SN EX AL PR PG PO : List Int32} {c : Int32} (h : own_PS AC ST SA SN EX AL) (hC : own_C AC ST SA SN EX AL c) (hF : own_F F) (tot n pc pu : Int32) (lR : PR.length = 32) (lG : PG.length = 768) (lO : PO.length = 32) : Tot (f_assign F AC ST SA SN tot PR PG PO n pc pu) (fun r => r.2.1.length = 32 ∧ r.2.2.1.length = 768 ∧ r.2.2.2.1.length = 32 ∧ r.2.2.2.2.2.1 = 1 ∧ 0 ≤ r.1.toInt ∧ r.1.toInt ≤ c.toInt) := by
  have hA : ∀ i : Int32, 0 ≤ i.toInt → i.toInt < 32 → gI AC i = 0 ∨ gI AC i = 1 := fun i i0 i1 => (h.ok i i0 i1).imp (fun z => z.1) (fun z => z.1)
  unfold f_assign f_discardPlan f_clearPlan f_buildOrder
  rw [Option.bind_some]
  refine Tot.bind (own_c2 PG lG n 100000 PR PO 0 lR lO (by decide) (by decide) (by decide)) ?_
  rintro ⟨A, B, C, d⟩ ⟨q1, q2, q3, q4⟩
  have e0 : (0 : Int32).toInt = 0 := rfl
  refine Tot.bind (own_bo7c h.lC hA h.lA 100000 C 0 0 ⟨q3, by decide, by decide, fun i p q => by exfalso; omega⟩ (by decide) (by decide) (by decide) (by omega)) ?_
  rintro ⟨O, m⟩ ⟨hJ, hm⟩
  have hn := hC.2.2
  have hm' : m.toInt ≤ own_cnt (own_ac AC) 32 := hm
  refine Tot.mono (own_as16c h hF tot m 0 pu hJ 100000 A B 0 0 q1 q2 (by decide) (by have := hJ.2.1; exact this) (by decide) (by decide) (by decide)) ?_
  rintro r ⟨g1, g2, g3, g4, g5, g6⟩
  exact ⟨g1, g2, g3, g4, g5, by omega⟩
/-! All nights together -/
def own_sum (EX : List Int32) : Nat → Int
  | 0 => 0
  | m + 1 => own_sum EX m + ((gI EX (0 * 32 + Int32.ofNat m)).toInt + (gI EX (1 * 32 + Int32.ofNat m)).toInt + (gI EX (2 * 32 + Int32.ofNat m)).toInt)
theorem own_sum_cov {EX AL EX' AL' : List Int32} {d t a e : Int32} (hd : d.toInt = 1 ∨ d.toInt = -1) (t0 : 0 ≤ t.toInt) (t2 : t.toInt ≤ 2) (a0 : 0 ≤ a.toInt) (ae : a.toInt ≤ e.toInt) (hc : own_cov EX AL d t a e EX' AL') (hr : ∀ w m : Int32, own_wn w m → -100 ≤ (gI EX (w * 32 + m)).toInt ∧ (gI EX (w * 32 + m)).toInt ≤ 1000) :
    ∀ n : Nat, n ≤ 32 → own_sum EX' n = own_sum EX n + d.toInt * (if (n : Int) ≤ a.toInt then 0 else if (n : Int) ≤ e.toInt then n - a.toInt else e.toInt - a.toInt) := by
  intro n
  induction n with
  | zero =>
    intro _
    rw [own_sum, own_sum, if_pos (by omega)]
    omega
  | succ n ih =>
    intro hn
    have i := ih (by omega)
    have ej : (Int32.ofNat n).toInt = n := Int32.toInt_ofNat_of_lt (by omega)
    have one : ∀ w : Int32, 0 ≤ w.toInt → w.toInt < 3 → (gI EX' (w * 32 + Int32.ofNat n)).toInt = (gI EX (w * 32 + Int32.ofNat n)).toInt + (if w.toInt = t.toInt ∧ a.toInt ≤ n ∧ (n : Int) < e.toInt then d.toInt else 0) := by
      intro w w0 w1
      have hw : own_wn w (Int32.ofNat n) := ⟨w0, w1, by omega, by omega⟩
      have r := hr _ _ hw
      rw [(hc.2.2 _ _ hw).1, own_addif (by omega) (by omega) (by omega) (by omega), ej]
    have s0 := one 0 (by decide) (by decide)
    have s1 := one 1 (by decide) (by decide)
    have s2 := one 2 (by decide) (by decide)
    have e0 : (0 : Int32).toInt = 0 := rfl
    have e1 : (1 : Int32).toInt = 1 := rfl
    have e2 : (2 : Int32).toInt = 2 := rfl
    rw [e0] at s0
    rw [e1] at s1
    rw [e2] at s2
    rw [own_sum, own_sum, i, s0, s1, s2]
    by_cases c1 : a.toInt ≤ n ∧ (n : Int) < e.toInt
    · have k : (if (0 : Int) = t.toInt ∧ a.toInt ≤ n ∧ (n : Int) < e.toInt then d.toInt else 0) + (if (1 : Int) = t.toInt ∧ a.toInt ≤ n ∧ (n : Int) < e.toInt then d.toInt else 0) + (if (2 : Int) = t.toInt ∧ a.toInt ≤ n ∧ (n : Int) < e.toInt then d.toInt else 0) = d.toInt := by
        have ht : t.toInt = 0 ∨ t.toInt = 1 ∨ t.toInt = 2 := by omega
        rcases ht with h | h | h <;> rw [h] <;> simp [c1]
      have l : d.toInt * (if ((n + 1 : Nat) : Int) ≤ a.toInt then 0 else if ((n + 1 : Nat) : Int) ≤ e.toInt then ((n + 1 : Nat) : Int) - a.toInt else e.toInt - a.toInt) = d.toInt * (if (n : Int) ≤ a.toInt then 0 else if (n : Int) ≤ e.toInt then n - a.toInt else e.toInt - a.toInt) + d.toInt := by
        rw [if_neg (show ¬ ((n + 1 : Nat) : Int) ≤ a.toInt by omega), if_pos (show ((n + 1 : Nat) : Int) ≤ e.toInt by omega)]
        by_cases z : (n : Int) ≤ a.toInt
        · rw [if_pos z]
          have : ((n + 1 : Nat) : Int) - a.toInt = 1 := by omega
          rw [this]; omega
        · rw [if_neg z, if_pos (by omega)]
          rcases hd with h | h <;> rw [h] <;> omega
      omega
    · have k : ∀ q : Int, (if q = t.toInt ∧ a.toInt ≤ n ∧ (n : Int) < e.toInt then d.toInt else 0) = 0 := fun q => if_neg (fun h => c1 h.2)
      rw [k, k, k]
      have l : (if ((n + 1 : Nat) : Int) ≤ a.toInt then (0 : Int) else if ((n + 1 : Nat) : Int) ≤ e.toInt then ((n + 1 : Nat) : Int) - a.toInt else e.toInt - a.toInt) = (if (n : Int) ≤ a.toInt then 0 else if (n : Int) ≤ e.toInt then n - a.toInt else e.toInt - a.toInt) := by
        by_cases z : (n : Int) < a.toInt
        · rw [if_pos (by omega), if_pos (by omega)]
        · rw [if_neg (by omega), if_neg (by omega)]
          by_cases y : (n : Int) ≤ a.toInt
          · rw [if_pos y]; omega
          · rw [if_neg y]
            by_cases x : (n : Int) ≤ e.toInt
            · rw [if_pos x]; omega
            · rw [if_neg x]
      rw [l]
      omega
theorem own_sum32 {EX AL EX' AL' : List Int32} {d t a k : Int32} (hd : d.toInt = 1 ∨ d.toInt = -1) (t0 : 0 ≤ t.toInt) (t2 : t.toInt ≤ 2) (a0 : 0 ≤ a.toInt) (k0 : 1 ≤ k.toInt) (ak : a.toInt + k.toInt ≤ 32) (hc : own_cov EX AL d t a (a + k) EX' AL') (hr : ∀ w m : Int32, own_wn w m → -100 ≤ (gI EX (w * 32 + m)).toInt ∧ (gI EX (w * 32 + m)).toInt ≤ 1000) :
    own_sum EX' 32 = own_sum EX 32 + d.toInt * k.toInt := by
  have es : (a + k).toInt = a.toInt + k.toInt := iadd_i (by omega) (by omega)
  have q := own_sum_cov hd t0 t2 a0 (by omega) hc hr 32 (by omega)
  rw [if_neg (by omega)] at q
  rw [q]
  by_cases z : ((32 : Nat) : Int) ≤ (a + k).toInt
  · rw [if_pos z, show ((32 : Nat) : Int) - a.toInt = k.toInt by omega]
  · rw [if_neg z, show (a + k).toInt - a.toInt = k.toInt by omega]
theorem own_sum_rng {EX : List Int32} (hr : ∀ w m : Int32, own_wn w m → 0 ≤ (gI EX (w * 32 + m)).toInt ∧ (gI EX (w * 32 + m)).toInt ≤ 32) : ∀ n : Nat, n ≤ 32 → 0 ≤ own_sum EX n ∧ own_sum EX n ≤ 96 * n := by
  intro n
  induction n with
  | zero => intro _; rw [own_sum]; omega
  | succ n ih =>
    intro hn
    have i := ih (by omega)
    have ej : (Int32.ofNat n).toInt = n := Int32.toInt_ofNat_of_lt (by omega)
    have r0 := hr 0 (Int32.ofNat n) ⟨by decide, by decide, by omega, by omega⟩
    have r1 := hr 1 (Int32.ofNat n) ⟨by decide, by decide, by omega, by omega⟩
    have r2 := hr 2 (Int32.ofNat n) ⟨by decide, by decide, by omega, by omega⟩
    rw [own_sum]
    omega
/-- all that the law keeps -/
abbrev own_I (AC ST SA SN EX AL PR PG PO : List Int32) (n pc v2 v3 : Int32) (v4 : Int64) (v6 v7 v8 v9 v10 : Int32) (b : Int) : Prop := (own_PS AC ST SA SN EX AL) ∧ (own_C AC ST SA SN EX AL n) ∧ (own_Q [5, 3, 1] AL b) ∧ (0 ≤ b) ∧ (PR.length = 32) ∧ (PG.length = 768) ∧ (PO.length = 32) ∧ (own_mk v2 AC) ∧ (n = v3) ∧ (v4.toInt = own_sum EX 32) ∧ (pc = v6) ∧ (v6 = 0 ∨ v6 = 1) ∧ (v7.toInt < 0 ∨ (0 ≤ v7.toInt ∧ v7.toInt < 32 ∧ gI AC v7 = 1 ∧ gI ST v7 = v8 ∧ gI SA v7 = v9 ∧ gI SN v7 = v10))
theorem own_I.h {AC ST SA SN EX AL PR PG PO : List Int32} {n pc v2 v3 : Int32} {v4 : Int64} {v6 v7 v8 v9 v10 : Int32} {b : Int} (self : own_I AC ST SA SN EX AL PR PG PO n pc v2 v3 v4 v6 v7 v8 v9 v10 b) : own_PS AC ST SA SN EX AL := self.1
theorem own_I.hC {AC ST SA SN EX AL PR PG PO : List Int32} {n pc v2 v3 : Int32} {v4 : Int64} {v6 v7 v8 v9 v10 : Int32} {b : Int} (self : own_I AC ST SA SN EX AL PR PG PO n pc v2 v3 v4 v6 v7 v8 v9 v10 b) : own_C AC ST SA SN EX AL n := self.2.1
theorem own_I.hQ {AC ST SA SN EX AL PR PG PO : List Int32} {n pc v2 v3 : Int32} {v4 : Int64} {v6 v7 v8 v9 v10 : Int32} {b : Int} (self : own_I AC ST SA SN EX AL PR PG PO n pc v2 v3 v4 v6 v7 v8 v9 v10 b) : own_Q [5, 3, 1] AL b := self.2.2.1
theorem own_I.b0 {AC ST SA SN EX AL PR PG PO : List Int32} {n pc v2 v3 : Int32} {v4 : Int64} {v6 v7 v8 v9 v10 : Int32} {b : Int} (self : own_I AC ST SA SN EX AL PR PG PO n pc v2 v3 v4 v6 v7 v8 v9 v10 b) : 0 ≤ b := self.2.2.2.1
theorem own_I.l1 {AC ST SA SN EX AL PR PG PO : List Int32} {n pc v2 v3 : Int32} {v4 : Int64} {v6 v7 v8 v9 v10 : Int32} {b : Int} (self : own_I AC ST SA SN EX AL PR PG PO n pc v2 v3 v4 v6 v7 v8 v9 v10 b) : PR.length = 32 := self.2.2.2.2.1
theorem own_I.l2 {AC ST SA SN EX AL PR PG PO : List Int32} {n pc v2 v3 : Int32} {v4 : Int64} {v6 v7 v8 v9 v10 : Int32} {b : Int} (self : own_I AC ST SA SN EX AL PR PG PO n pc v2 v3 v4 v6 v7 v8 v9 v10 b) : PG.length = 768 := self.2.2.2.2.2.1
theorem own_I.l3 {AC ST SA SN EX AL PR PG PO : List Int32} {n pc v2 v3 : Int32} {v4 : Int64} {v6 v7 v8 v9 v10 : Int32} {b : Int} (self : own_I AC ST SA SN EX AL PR PG PO n pc v2 v3 v4 v6 v7 v8 v9 v10 b) : PO.length = 32 := self.2.2.2.2.2.2.1
theorem own_I.mk {AC ST SA SN EX AL PR PG PO : List Int32} {n pc v2 v3 : Int32} {v4 : Int64} {v6 v7 v8 v9 v10 : Int32} {b : Int} (self : own_I AC ST SA SN EX AL PR PG PO n pc v2 v3 v4 v6 v7 v8 v9 v10 b) : own_mk v2 AC := self.2.2.2.2.2.2.2.1
theorem own_I.c {AC ST SA SN EX AL PR PG PO : List Int32} {n pc v2 v3 : Int32} {v4 : Int64} {v6 v7 v8 v9 v10 : Int32} {b : Int} (self : own_I AC ST SA SN EX AL PR PG PO n pc v2 v3 v4 v6 v7 v8 v9 v10 b) : n = v3 := self.2.2.2.2.2.2.2.2.1
theorem own_I.s {AC ST SA SN EX AL PR PG PO : List Int32} {n pc v2 v3 : Int32} {v4 : Int64} {v6 v7 v8 v9 v10 : Int32} {b : Int} (self : own_I AC ST SA SN EX AL PR PG PO n pc v2 v3 v4 v6 v7 v8 v9 v10 b) : v4.toInt = own_sum EX 32 := self.2.2.2.2.2.2.2.2.2.1
theorem own_I.p {AC ST SA SN EX AL PR PG PO : List Int32} {n pc v2 v3 : Int32} {v4 : Int64} {v6 v7 v8 v9 v10 : Int32} {b : Int} (self : own_I AC ST SA SN EX AL PR PG PO n pc v2 v3 v4 v6 v7 v8 v9 v10 b) : pc = v6 := self.2.2.2.2.2.2.2.2.2.2.1
theorem own_I.p01 {AC ST SA SN EX AL PR PG PO : List Int32} {n pc v2 v3 : Int32} {v4 : Int64} {v6 v7 v8 v9 v10 : Int32} {b : Int} (self : own_I AC ST SA SN EX AL PR PG PO n pc v2 v3 v4 v6 v7 v8 v9 v10 b) : v6 = 0 ∨ v6 = 1 := self.2.2.2.2.2.2.2.2.2.2.2.1
theorem own_I.l {AC ST SA SN EX AL PR PG PO : List Int32} {n pc v2 v3 : Int32} {v4 : Int64} {v6 v7 v8 v9 v10 : Int32} {b : Int} (self : own_I AC ST SA SN EX AL PR PG PO n pc v2 v3 v4 v6 v7 v8 v9 v10 b) : v7.toInt < 0 ∨ (0 ≤ v7.toInt ∧ v7.toInt < 32 ∧ gI AC v7 = 1 ∧ gI ST v7 = v8 ∧ gI SA v7 = v9 ∧ gI SN v7 = v10) := self.2.2.2.2.2.2.2.2.2.2.2.2
theorem own_rngE {AC ST SA SN EX AL : List Int32} {n : Int32} (hC : own_C AC ST SA SN EX AL n) : ∀ w m : Int32, own_wn w m → 0 ≤ (gI EX (w * 32 + m)).toInt ∧ (gI EX (w * 32 + m)).toInt ≤ 32 :=
  fun w m hw => own_C_rng hC hw.2.2.1 hw.2.2.2 w hw.1 (by have := hw.2.1; omega)
theorem own_g0 : gI [5, 3, 1] 0 = 5 := by decide
theorem own_514 {scr F AC ST SA SN EX AL PR PG PO : List Int32} {tot n pl pc pu v2 v3 v6 v7 v8 v9 v10 v11 : Int32} {v4 : Int64} {b : Int} {kb : List Int32 → List Int32 → List Int32 → List Int32 → List Int32 → List Int32 → List Int32 → List Int32 → List Int32 → List Int32 → List Int32 → Int32 → Int32 → Int32 → Int32 → Int32 → Int32 → Int32 → Int64 → Int32 → Int32 → Int32 → Int32 → Int32 → Int32 → Option (Int32)}
    (hI : own_I AC ST SA SN EX AL PR PG PO n pc v2 v3 v4 v6 v7 v8 v9 v10 b) (hk : kb [5, 3, 1] F AC ST SA SN EX AL PR PG PO tot n pl pc pu v2 v3 v4 v6 v7 v8 v9 v10 (v11 + 5) = some 1) :
    f_L_law_514 (f_L_law_630 kb scr) scr 100000 [5, 3, 1] F AC ST SA SN EX AL PR PG PO tot n pl pc pu v2 v3 v4 v6 v7 v8 v9 v10 v11 0 0 = some 1 := by
  obtain ⟨h, hC, hQ, b0, l1, l2, l3, mk, c, s, p, p01, l⟩ := hI
  have e0 : (0 : Int32).toInt = 0 := rfl
  have e5 : (5 : Int32).toInt = 5 := rfl
  have e32 : (32 : Int32).toInt = 32 := rfl
  have k630 : ∀ v18 : Int64, v18 = v4 → f_L_law_630 kb scr [5, 3, 1] F AC ST SA SN EX AL PR PG PO tot n pl pc pu v2 v3 v4 v6 v7 v8 v9 v10 v11 v18 = some 1 := by
    intro v18 e
    have ep : pc &&& 1 = v6 := by
      rw [p]
      rcases p01 with h | h <;> rw [h] <;> decide
    unfold f_L_law_630 f_activeCount f_isAssigned
    rw [if_pos e, Option.bind_some, if_pos c, Option.bind_some, if_pos ep]
    rcases l with hl | ⟨q0, q1, qa, qt, qs, qn⟩
    · rw [if_pos (by rw [ilt]; omega)]
      exact hk
    · obtain ⟨r1, r2, r3⟩ := own_stA h q0 q1 qa
      rw [if_neg (by rw [ilt]; omega), r1, Option.bind_some, if_pos qt, r2, Option.bind_some, if_pos qs, r3, Option.bind_some, if_pos qn]
      exact hk
  have key : ∀ (f i : Nat) (v18 : Int64) (j : Int32), j.toInt = i → i ≤ 32 → 32 - i < f → v18.toInt = own_sum EX i → f_L_law_514 (f_L_law_630 kb scr) scr f [5, 3, 1] F AC ST SA SN EX AL PR PG PO tot n pl pc pu v2 v3 v4 v6 v7 v8 v9 v10 v11 v18 j = some 1 := by
    intro f
    induction f with
    | zero => intro i v18 j h0 h1 h2; exfalso; omega
    | succ f ih =>
      intro i v18 j h0 h1 h2 h3
      unfold f_L_law_514
      by_cases g : j < 32
      · have g' : j.toInt < 32 := ilt.mp g
        have e1 : (1 : Int32).toInt = 1 := rfl
        have ej : (j + 1).toInt = j.toInt + 1 := by rw [iadd_i (by omega) (by omega), e1]
        have oj : Int32.ofNat i = j := by
          have := own_of (q := j) (by omega)
          rw [show j.toInt.toNat = i by omega] at this
          exact this
        have w0 : own_wn 0 j := ⟨by decide, by decide, by omega, g'⟩
        have w1 : own_wn 1 j := ⟨by decide, by decide, by omega, g'⟩
        have w2 : own_wn 2 j := ⟨by decide, by decide, by omega, g'⟩
        have r0 := own_rngE hC 0 j w0
        have r1 := own_rngE hC 1 j w1
        have r2 := own_rngE hC 2 j w2
        have a0 := (hC.2.1 j (by omega) g').1
        have q0 := (hQ 0 j w0).2
        rw [own_g0, e5] at q0
        have d0 : (gI [5, 3, 1] 0 - gI AL (0 * 32 + j)).toInt = 5 - (gI AL (0 * 32 + j)).toInt := by rw [own_g0, isub_i (by omega) (by omega), e5]
        have av := own_av0 (R := [5, 3, 1]) rfl h.lL (m := j) (by omega) g' (by rw [ilt]; omega)
        have sr := own_sum_rng (own_rngE hC) i h1
        have su : own_sum EX (i + 1) = own_sum EX i + ((gI EX (0 * 32 + j)).toInt + (gI EX (1 * 32 + j)).toInt + (gI EX (2 * 32 + j)).toInt) := by rw [own_sum, oj]
        have c0 : (v18 + (gI EX (0 * 32 + j)).toInt64).toInt = v18.toInt + (gI EX (0 * 32 + j)).toInt := by
          rw [ladd_i (by rw [Int32.toInt_toInt64]; omega) (by rw [Int32.toInt_toInt64]; omega), Int32.toInt_toInt64]
        have c1 : (v18 + (gI EX (0 * 32 + j)).toInt64 + (gI EX (1 * 32 + j)).toInt64).toInt = v18.toInt + (gI EX (0 * 32 + j)).toInt + (gI EX (1 * 32 + j)).toInt := by
          rw [ladd_i (by rw [Int32.toInt_toInt64]; omega) (by rw [Int32.toInt_toInt64]; omega), Int32.toInt_toInt64, c0]
        have c2 : (v18 + (gI EX (0 * 32 + j)).toInt64 + (gI EX (1 * 32 + j)).toInt64 + (gI EX (2 * 32 + j)).toInt64).toInt = v18.toInt + (gI EX (0 * 32 + j)).toInt + (gI EX (1 * 32 + j)).toInt + (gI EX (2 * 32 + j)).toInt := by
          rw [ladd_i (by rw [Int32.toInt_toInt64]; omega) (by rw [Int32.toInt_toInt64]; omega), Int32.toInt_toInt64, c1]
        have next := ih (i + 1) _ (j + 1) (by omega) (by omega) (by omega) (c2.trans (by omega))
        have m0 := own_mk0 mk (v := j) (by omega) g'
        have fin1 : f_L_law_558 (f_L_law_514 (f_L_law_630 kb scr) scr f) (f_L_law_630 kb scr) scr [5, 3, 1] F AC ST SA SN EX AL PR PG PO tot n pl pc pu v2 v3 v4 v6 v7 v8 v9 v10 v11 v18 j 0 0 = some 1 ∧ f_L_law_558 (f_L_law_514 (f_L_law_630 kb scr) scr f) (f_L_law_630 kb scr) scr [5, 3, 1] F AC ST SA SN EX AL PR PG PO tot n pl pc pu v2 v3 v4 v6 v7 v8 v9 v10 v11 v18 j 1 1 = some 1 := by
          unfold f_L_law_558
          rw [if_pos rfl, if_pos rfl, own_oc h.lE w0, Option.bind_some, own_oc h.lE w1, Option.bind_some, own_oc h.lE w2, Option.bind_some, av, Option.bind_some, if_neg (by rw [ilt]; omega), if_neg (by rw [ilt]; omega)]
          exact ⟨next, next⟩
        rw [if_pos g]
        unfold f_L_law_535
        rcases own_act01 h j with ⟨e, z⟩ | ⟨e, i0, i1, ia, t0, t2, -⟩
        · have za := z (by omega) g'
          have st : f_stayType AC ST j = some (-1) := by
            unfold f_stayType
            rw [e, Option.bind_some, if_pos rfl]
          rw [st, Option.bind_some, if_pos rfl, if_pos (m0.mpr (by rw [za]; decide))]
          exact fin1.1
        · have nm : ¬ gI ST j = -1 := by rw [ieq]; have em : (-1 : Int32).toInt = -1 := rfl; omega
          rw [(own_stA h i0 i1 ia).1, Option.bind_some, if_neg nm, if_neg (fun q => m0.mp q ia)]
          exact fin1.2
      · rw [if_neg g]
        rw [ilt] at g
        have hi : i = 32 := by omega
        subst hi
        exact k630 v18 (by rw [leqI, h3, s])
  exact key 100000 0 0 0 rfl (by omega) (by omega) rfl
theorem own_wide {EX AL EX1 AL1 : List Int32} {d t a e : Int32} (hd : d.toInt = 1 ∨ d.toInt = -1) (hr : ∀ w m : Int32, own_wn w m → 0 ≤ (gI EX (w * 32 + m)).toInt ∧ (gI EX (w * 32 + m)).toInt ≤ 32) (hc : own_cov EX AL d t a e EX1 AL1) : ∀ w m : Int32, own_wn w m → -100 ≤ (gI EX1 (w * 32 + m)).toInt ∧ (gI EX1 (w * 32 + m)).toInt ≤ 1000 := by
  intro w m hw
  have r := hr w m hw
  rw [(hc.2.2 w m hw).1, own_addif (by omega) (by omega) (by omega) (by omega)]
  split <;> omega
theorem own_loop (scr : List Int32) (hs : scr.length ≤ 260) {F : List Int32} (hR : own_R [5, 3, 1]) (hF : own_F F) (tot : Int32) : ∀ (f : Nat) (AC ST SA SN EX AL PR PG PO : List Int32) (n pl pc pu v2 v3 : Int32) (v4 : Int64) (v6 v7 v8 v9 v10 v11 : Int32) (b : Int), own_I AC ST SA SN EX AL PR PG PO n pc v2 v3 v4 v6 v7 v8 v9 v10 b → b ≤ v11.toInt → 0 ≤ v11.toInt → v11.toInt ≤ 300 → 310 - v11.toInt ≤ f →
    f_L_law_36 scr f [5, 3, 1] F AC ST SA SN EX AL PR PG PO tot n pl pc pu v2 v3 v4 v6 v7 v8 v9 v10 v11 = some 1 := by
  intro f
  have hl := iscr hs
  have e0 : (0 : Int32).toInt = 0 := rfl
  have e1 : (1 : Int32).toInt = 1 := rfl
  have e3 : (3 : Int32).toInt = 3 := rfl
  have e7 : (7 : Int32).toInt = 7 := rfl
  have e31 : (31 : Int32).toInt = 31 := rfl
  have e32 : (32 : Int32).toInt = 32 := rfl
  have em1 : (-1 : Int32).toInt = -1 := rfl
  induction f with
  | zero => intro AC ST SA SN EX AL PR PG PO n pl pc pu v2 v3 v4 v6 v7 v8 v9 v10 v11 b hI hb h0 h1 h2; exfalso; omega
  | succ f ih =>
    intro AC ST SA SN EX AL PR PG PO n pl pc pu v2 v3 v4 v6 v7 v8 v9 v10 v11 b hI hb h0 h1 h2
    have p1 : (v11 + 1).toInt = v11.toInt + 1 := by clear ih hI; ((try simp only [ilt, ile, ieq, iadd_e, isub_e, imul_e, Int32.reduceToInt] at *) <;> omega)
    have p2 : (v11 + 2).toInt = v11.toInt + 2 := by clear ih hI; ((try simp only [ilt, ile, ieq, iadd_e, isub_e, imul_e, Int32.reduceToInt] at *) <;> omega)
    have p3 : (v11 + 3).toInt = v11.toInt + 3 := by clear ih hI; ((try simp only [ilt, ile, ieq, iadd_e, isub_e, imul_e, Int32.reduceToInt] at *) <;> omega)
    have p4 : (v11 + 4).toInt = v11.toInt + 4 := by clear ih hI; ((try simp only [ilt, ile, ieq, iadd_e, isub_e, imul_e, Int32.reduceToInt] at *) <;> omega)
    have p5 : (v11 + 5).toInt = v11.toInt + 5 := by clear ih hI; ((try simp only [ilt, ile, ieq, iadd_e, isub_e, imul_e, Int32.reduceToInt] at *) <;> omega)
    unfold f_L_law_36
    by_cases g : v11 + 4 < scr.length.toInt32
    rotate_left
    · rw [if_neg g]
    have g' := ilt.mp g
    rw [hl] at g'
    rw [if_pos g, rdg (by omega) (by omega), Option.bind_some, rdg (by omega) (by omega), Option.bind_some, rdg (by omega) (by omega), Option.bind_some, rdg (by omega) (by omega), Option.bind_some, rdg (by omega) (by omega), Option.bind_some]
    have next : ∀ (AC ST SA SN EX AL PR PG PO : List Int32) (n pl pc pu v2 v3 : Int32) (v4 : Int64) (v6 v7 v8 v9 v10 : Int32) (b' : Int), own_I AC ST SA SN EX AL PR PG PO n pc v2 v3 v4 v6 v7 v8 v9 v10 b' → b' ≤ b + 1 → f_L_law_514 (f_L_law_630 (f_L_law_36 scr f) scr) scr 100000 [5, 3, 1] F AC ST SA SN EX AL PR PG PO tot n pl pc pu v2 v3 v4 v6 v7 v8 v9 v10 v11 0 0 = some 1 := by
      intro AC ST SA SN EX AL PR PG PO n pl pc pu v2 v3 v4 v6 v7 v8 v9 v10 b' q1 q2
      exact own_514 q1 (ih AC ST SA SN EX AL PR PG PO n pl pc pu v2 v3 v4 v6 v7 v8 v9 v10 (v11 + 5) b' q1 (by omega) (by omega) (by omega) (by omega))
    generalize gI scr v11 &&& 3 = op
    have rt := iand_rng (gI scr (v11 + 1)) 3 (by decide)
    have ra := iand_rng (gI scr (v11 + 2)) 31 (by decide)
    have rk := iand_rng (gI scr (v11 + 3)) 7 (by decide)
    have rs := iand_rng (gI scr (v11 + 4)) 7 (by decide)
    generalize gI scr (v11 + 1) &&& 3 = t at rt
    generalize gI scr (v11 + 2) &&& 31 = a at ra
    generalize gI scr (v11 + 3) &&& 7 = k' at rk
    generalize gI scr (v11 + 4) &&& 7 = sl at rs
    have ek : (k' + 1).toInt = k'.toInt + 1 := by rw [iadd_i (by omega) (by omega), e1]
    generalize k' + 1 = k at ek
    rw [e3] at rt
    rw [e31] at ra
    rw [e7] at rk rs
    have ea : (32 - a).toInt = 32 - a.toInt := by rw [isub_i (by omega) (by omega), e32]
    have hI' := hI
    obtain ⟨h, hC, hQ, b0, l1, l2, l3, mk, c, s, p, p01, l⟩ := hI
    have hR3 := hR.1
    have cr := own_cnt_le (own_ac AC) 32
    have cn := hC.2.2
    have rE := own_rngE hC
    have rE' : ∀ w m : Int32, own_wn w m → -100 ≤ (gI EX (w * 32 + m)).toInt ∧ (gI EX (w * 32 + m)).toInt ≤ 1000 := fun w m hw => by have := rE w m hw; omega
    have sr := own_sum_rng rE 32 (by omega)
    have t3 : ¬ t.toInt ≤ 2 → t = 3 := by intro z; rw [ieq, e3]; omega
    have nt3 : t.toInt ≤ 2 → ¬ t = 3 := by intro z; rw [ieq, e3]; omega
    unfold f_L_law_112
    by_cases o0 : op = 0
    · rw [if_pos o0]
      by_cases ht : t.toInt ≤ 2
      rotate_left
      · have ht3 := t3 ht
        subst ht3
        obtain ⟨q1, q2⟩ := own_bookE (R := [5, 3, 1]) (AC := AC) (ST := ST) (SA := SA) (SN := SN) (EX := EX) (AL := AL) (n := n) (own_rqT a k) (by decide)
        rw [q1, Option.bind_some, q2, Option.bind_some]
        show f_L_law_155 _ _ _ _ _ _ _ _ _ _ _ _ _ _ _ _ _ _ _ _ _ _ _ _ _ _ _ _ _ _ _ _ _ = _
        unfold f_L_law_155
        rw [if_pos (by decide), if_pos rfl, if_pos rfl]
        exact next _ _ _ _ _ _ _ _ _ _ _ _ _ _ _ _ _ _ _ _ _ b hI' (by omega)
      by_cases hr : 32 - a < k
      · obtain ⟨q1, q2⟩ := own_bookE (R := [5, 3, 1]) (AC := AC) (ST := ST) (SA := SA) (SN := SN) (EX := EX) (AL := AL) (n := n) (own_rqR rt.1 ht ra.1 (by omega) (by omega) hr) (by decide)
        rw [q1, Option.bind_some, q2, Option.bind_some]
        show f_L_law_155 _ _ _ _ _ _ _ _ _ _ _ _ _ _ _ _ _ _ _ _ _ _ _ _ _ _ _ _ _ _ _ _ _ = _
        unfold f_L_law_155
        rw [if_pos (by decide), if_neg (nt3 ht), if_pos hr, if_pos rfl]
        exact next _ _ _ _ _ _ _ _ _ _ _ _ _ _ _ _ _ _ _ _ _ b hI' (by omega)
      have hr' : a.toInt + k.toInt ≤ 32 := by rw [ilt] at hr; omega
      rcases own_bookX h hC hR3 rt.1 ht ra.1 (by omega : 1 ≤ k.toInt) hr' with ⟨gn, q1, q2⟩ | ⟨gn, q1, q2⟩ | ⟨gn, q1, id, EX', AL', lo, i0, i1, iz, hc, hf, q2⟩
      · have hv3 : v3 = 32 := by
          rw [← c, ieq, e32]
          rw [ilt] at gn
          omega
        rw [q1, Option.bind_some, q2, Option.bind_some]
        show f_L_law_155 _ _ _ _ _ _ _ _ _ _ _ _ _ _ _ _ _ _ _ _ _ _ _ _ _ _ _ _ _ _ _ _ _ = _
        unfold f_L_law_155
        rw [if_pos (by decide), if_neg (nt3 ht), if_neg hr, if_pos hv3, if_pos rfl]
        exact next _ _ _ _ _ _ _ _ _ _ _ _ _ _ _ _ _ _ _ _ _ b hI' (by omega)
      · have hv3 : ¬ v3 = 32 := by
          rw [← c, ieq, e32]
          rw [ilt] at gn
          omega
        rw [q1, Option.bind_some, q2, Option.bind_some]
        show f_L_law_155 _ _ _ _ _ _ _ _ _ _ _ _ _ _ _ _ _ _ _ _ _ _ _ _ _ _ _ _ _ _ _ _ _ = _
        unfold f_L_law_155
        rw [if_pos (by decide), if_neg (nt3 ht), if_neg hr, if_neg hv3, if_pos (by decide), if_pos rfl]
        exact next _ _ _ _ _ _ _ _ _ _ _ _ _ _ _ _ _ _ _ _ _ b hI' (by omega)
      · have hv3 : ¬ v3 = 32 := by
          rw [← c, ieq, e32]
          rw [ilt] at gn
          omega
        have ni : ¬ id < 0 := by rw [ilt]; omega
        rw [q1, Option.bind_some, q2, Option.bind_some]
        show f_L_law_155 _ _ _ _ _ _ _ _ _ _ _ _ _ _ _ _ _ _ _ _ _ _ _ _ _ _ _ _ _ _ _ _ _ = _
        unfold f_L_law_155
        rw [if_neg ni, if_pos rfl, if_neg (nt3 ht), if_neg hr, if_neg hv3, if_neg ni, own_lf h mk, lo, Option.bind_some, if_pos rfl]
        have s32 := own_sum32 (Or.inl e1) rt.1 ht ra.1 (by omega : 1 ≤ k.toInt) hr' hc rE'
        have z : ∀ L : List Int32, L.length = 32 → ∀ x, gI (L.set id.toInt.toNat x) id = x := fun L hl x => by rw [own_gs hl i0 i1 i0, if_pos rfl]
        refine next _ _ _ _ _ _ _ _ _ _ _ _ _ _ _ _ _ _ _ _ _ b ⟨own_put h i0 i1 rt.1 ht ra.1 (by omega) hr' hc.1 hc.2.1, own_C_book h hC i0 i1 iz rt.1 ht ra.1 (by omega) hr' hc, own_Q_add hR b0 (by omega) hQ ra.1 hf hc, b0, l1, l2, l3, own_mk_set h.lC mk i0 i1, by rw [c], ?_, rfl, Or.inl rfl, Or.inr ⟨i0, i1, z AC h.lC 1, z ST h.lT t, z SA h.lA a, z SN h.lN k⟩⟩ (by omega)
        rw [ladd_i (by rw [Int32.toInt_toInt64]; omega) (by rw [Int32.toInt_toInt64]; omega), Int32.toInt_toInt64, s, s32, e1]
        omega
    rw [if_neg o0]
    have m0 := own_mk0 mk (v := sl) rs.1 (by omega)
    by_cases o1 : op = 1
    · rw [if_pos o1]
      rcases own_act01 h sl with ⟨e, zz⟩ | ⟨e, i0, i1, ia, t0', t2', a0', k1', ak'⟩
      · have za := zz rs.1 (by omega)
        have sn : f_stayNights AC SN sl = some (-1) := by
          unfold f_stayNights
          rw [e, Option.bind_some, if_pos rfl]
        have am : f_amend [5, 3, 1] AC ST SA SN EX AL pc sl t a k = some (-5, ST, SA, SN, EX, AL, pc) := by
          unfold f_amend
          rw [e, Option.bind_some, if_pos rfl]
        rw [sn, Option.bind_some, am, Option.bind_some, if_pos (m0.mpr (by rw [za]; decide))]
        show (if (0 : Int32) = 0 then _ else _) = _
        rw [if_pos rfl, if_pos rfl]
        exact next _ _ _ _ _ _ _ _ _ _ _ _ _ _ _ _ _ _ _ _ _ b hI' (by omega)
      · have sn := (own_stA h i0 i1 ia).2.2
        have ns : ¬ (XT.ushr v2 sl &&& 1 = 0) := fun q => m0.mp q ia
        rw [sn, Option.bind_some, if_neg ns]
        by_cases ht : t.toInt ≤ 2
        rotate_left
        · have ht3 := t3 ht
          subst ht3
          rw [own_amdE (R := [5, 3, 1]) (ST := ST) (SA := SA) (SN := SN) (EX := EX) (AL := AL) e (own_rqT a k) (by decide) pc, Option.bind_some]
          show (if (1 : Int32) = 0 then _ else _) = _
          rw [if_neg (by decide), if_pos rfl, if_pos rfl]
          exact next _ _ _ _ _ _ _ _ _ _ _ _ _ _ _ _ _ _ _ _ _ b hI' (by omega)
        by_cases hr : 32 - a < k
        · rw [own_amdE (R := [5, 3, 1]) (ST := ST) (SA := SA) (SN := SN) (EX := EX) (AL := AL) e (own_rqR rt.1 ht ra.1 (by omega) (by omega) hr) (by decide) pc, Option.bind_some]
          show (if (1 : Int32) = 0 then _ else _) = _
          rw [if_neg (by decide), if_neg (nt3 ht), if_pos hr, if_pos rfl]
          exact next _ _ _ _ _ _ _ _ _ _ _ _ _ _ _ _ _ _ _ _ _ b hI' (by omega)
        have hr' : a.toInt + k.toInt ≤ 32 := by rw [ilt] at hr; omega
        have er := own_rq0 rt.1 ht ra.1 (by omega : 1 ≤ k.toInt) hr'
        rcases own_fts h.lL hR3 (AC := AC) (ST := ST) (SA := SA) (SN := SN) (id := sl) ht ra.1 (by omega : 0 ≤ k.toInt) hr' (own_xs (gI ST sl) (gI SA sl) (gI SN sl)) (fun w m p q r s => own_x1 h i0 i1 ia p q r s) with ⟨-, hf⟩ | ⟨ef, -⟩
        · obtain ⟨EX1, AL1, EX2, AL2, c1, c2, q⟩ := own_amdS h hR3 i0 i1 ia rt.1 ht ra.1 (by omega : 1 ≤ k.toInt) hr' hf
          rw [q, Option.bind_some]
          show (if (1 : Int32) = 0 then _ else _) = _
          rw [if_neg (by decide), if_neg (nt3 ht), if_neg hr, if_pos rfl]
          have ea2 : (a + k).toInt = a.toInt + k.toInt := iadd_i (by omega) (by omega)
          have hf1 := own_fit_sub a0' (by omega) ak' ht ra.1 (by omega) c1 hf
          have hP := own_put h (EX' := EX2) (AL' := AL2) i0 i1 rt.1 ht ra.1 (by omega : 1 ≤ k.toInt) hr' c2.1 c2.2.1
          have hC2 := own_C_amend h hC i0 i1 ia rt.1 ht ra.1 (by omega : 1 ≤ k.toInt) hr' c1 c2
          have eC : AC.set sl.toInt.toNat 1 = AC := by
            have lC := h.lC
            refine gext (by simp; omega) (by simp) (fun i p q => ?_)
            rw [own_gs lC i0 i1 p]
            by_cases ee : sl = i
            · rw [if_pos ee, ← ee, ia]
            · rw [if_neg ee]
          rw [eC] at hP hC2
          have s1 := own_sum32 (Or.inr em1) t0' t2' a0' k1' ak' c1 rE'
          have s2 := own_sum32 (Or.inl e1) rt.1 ht ra.1 (by omega : 1 ≤ k.toInt) hr' c2 (own_wide (Or.inr em1) rE c1)
          have dk : (k - gI SN sl).toInt = k.toInt - (gI SN sl).toInt := isub_i (by omega) (by omega)
          have z : ∀ L : List Int32, L.length = 32 → ∀ x i, 0 ≤ i.toInt → gI (L.set sl.toInt.toNat x) i = if sl = i then x else gI L i := fun L hl x i hi => own_gs hl i0 i1 hi
          refine next AC _ _ _ _ _ PR PG PO n pl _ pu _ _ _ _ _ _ _ _ (b + 1) ⟨hP, hC2, own_Q_add hR (by omega) (by omega) (own_Q_sub hR b0 (by omega) hQ c1) ra.1 hf1 c2, by omega, l1, l2, l3, mk, c, ?_, rfl, Or.inl rfl, ?_⟩ (by omega)
          · rw [ladd_i (by rw [Int32.toInt_toInt64]; omega) (by rw [Int32.toInt_toInt64]; omega), Int32.toInt_toInt64, s, dk, s2, s1, e1, em1]
            omega
          · rcases l with hl | ⟨q0, q1, qa, qt, qs, qn⟩
            · exact Or.inl hl
            · refine Or.inr ⟨q0, q1, qa, ?_, ?_, ?_⟩
              · rw [z ST h.lT t v7 q0]
                by_cases ee : sl = v7
                · rw [if_pos ee, if_pos ee]
                · rw [if_neg ee, if_neg ee]; exact qt
              · rw [z SA h.lA a v7 q0]
                by_cases ee : sl = v7
                · rw [if_pos ee, if_pos ee]
                · rw [if_neg ee, if_neg ee]; exact qs
              · rw [z SN h.lN k v7 q0]
                by_cases ee : sl = v7
                · rw [if_pos ee, if_pos ee]
                · rw [if_neg ee, if_neg ee]; exact qn
        · have am : f_amend [5, 3, 1] AC ST SA SN EX AL pc sl t a k = some (-4, ST, SA, SN, EX, AL, pc) := by
            unfold f_amend
            rw [e, Option.bind_some, if_neg (by decide), er, Option.bind_some, if_pos rfl, ef, Option.bind_some, if_pos rfl]
          rw [am, Option.bind_some]
          show (if (1 : Int32) = 0 then _ else _) = _
          rw [if_neg (by decide), if_neg (nt3 ht), if_neg hr, if_neg (by decide), if_pos rfl]
          exact next _ _ _ _ _ _ _ _ _ _ _ _ _ _ _ _ _ _ _ _ _ b hI' (by omega)
    rw [if_neg o1]
    by_cases o2 : op = 2
    · rw [if_pos o2]
      rcases own_act01 h sl with ⟨e, zz⟩ | ⟨e, i0, i1, ia, t0', t2', a0', k1', ak'⟩
      · have za := zz rs.1 (by omega)
        have sn : f_stayNights AC SN sl = some (-1) := by
          unfold f_stayNights
          rw [e, Option.bind_some, if_pos rfl]
        have cc : f_cancel AC ST SA SN EX AL n pc sl = some (-5, AC, ST, SA, SN, EX, AL, n, pc) := by
          unfold f_cancel
          rw [e, Option.bind_some, if_pos rfl]
        rw [sn, Option.bind_some, cc, Option.bind_some, if_pos (m0.mpr (by rw [za]; decide))]
        show (if (0 : Int32) = 0 then _ else _) = _
        rw [if_pos rfl, if_pos rfl]
        exact next _ _ _ _ _ _ _ _ _ _ _ _ _ _ _ _ _ _ _ _ _ b hI' (by omega)
      · have sn := (own_stA h i0 i1 ia).2.2
        have ns : ¬ (XT.ushr v2 sl &&& 1 = 0) := fun q => m0.mp q ia
        rcases own_cancel h n sl with q | ⟨EX', AL', j0, j1, ja, hc, q⟩
        · exfalso
          have q' := q 0
          unfold f_cancel at q'
          rw [e, Option.bind_some, if_neg (by decide)] at q'
          rcases hd : f_deactivateStay AC ST SA SN EX AL n sl with _ | ⟨x1, x2, x3, x4, x5, x6, x7⟩
          · rw [hd] at q'; exact absurd q' (by simp)
          · rw [hd, Option.bind_some] at q'
            unfold f_discardPlan at q'
            have this : (0 : Int32) = -5 := congrArg Prod.fst (Option.some.inj q')
            exact absurd this (by decide)
        · rw [sn, Option.bind_some, q, Option.bind_some, if_neg ns]
          show (if (1 : Int32) = 0 then _ else _) = _
          rw [if_neg (by decide), if_pos rfl]
          have s1 := own_sum32 (Or.inr em1) t0' t2' a0' k1' ak' hc rE'
          have z : ∀ L : List Int32, L.length = 32 → ∀ x i, 0 ≤ i.toInt → gI (L.set sl.toInt.toNat x) i = if sl = i then x else gI L i := fun L hl x i hi => own_gs hl i0 i1 hi
          refine next _ _ _ _ _ _ PR PG PO _ pl _ pu _ _ _ _ _ _ _ _ (b + 1) ⟨own_drop h i0 i1 hc.1 hc.2.1, own_C_cancel h hC i0 i1 ia hc, own_Q_sub hR b0 (by omega) hQ hc, by omega, l1, l2, l3, own_mk_clr h.lC mk i0 i1, ?_, ?_, rfl, Or.inl rfl, ?_⟩ (by omega)
          · rw [c, ieq, iadd_e, isub_e, e1, em1]; omega
          · rw [lsub_i (by rw [Int32.toInt_toInt64]; omega) (by rw [Int32.toInt_toInt64]; omega), Int32.toInt_toInt64, s, s1, em1]
            omega
          · by_cases ee : sl = v7
            · rw [if_pos ee]; exact Or.inl (by decide)
            · rw [if_neg ee]
              rcases l with hl | ⟨q0, q1, qa, qt, qs, qn⟩
              · exact Or.inl hl
              · refine Or.inr ⟨q0, q1, ?_, ?_, ?_, ?_⟩
                · rw [z AC h.lC 0 v7 q0, if_neg ee]; exact qa
                · rw [z ST h.lT 0 v7 q0, if_neg ee]; exact qt
                · rw [z SA h.lA 0 v7 q0, if_neg ee]; exact qs
                · rw [z SN h.lN 0 v7 q0, if_neg ee]; exact qn
    rw [if_neg o2]
    obtain ⟨⟨r, A, B, C, m, cc, u⟩, e, q1, q2, q3, q4, q5, q6⟩ := own_assignC h hC hF tot pl pc pu l1 l2 l3
    have q4' : cc = 1 := q4
    have q5' : 0 ≤ r.toInt := q5
    have q6' : r.toInt ≤ n.toInt := q6
    rw [e, Option.bind_some]
    show (if r < 0 then _ else _) = _
    rw [if_neg (by rw [ilt]; omega), if_neg (by rw [ilt, ← c]; omega)]
    exact next AC ST SA SN EX AL A B C n m cc u v2 v3 v4 1 v7 v8 v9 v10 b ⟨h, hC, hQ, b0, q1, q2, q3, mk, c, s, q4', Or.inr rfl, l⟩ (by omega)
theorem own_true (scr : List Int32) (h : scr.length ≤ 260) : f_L_law scr = some 1 := by
  have e : f_init 2 2 1 = some ([2, 2, 1], [5, 3, 1], [0, 2, 4], List.replicate 32 0, List.replicate 32 0, List.replicate 32 0, List.replicate 32 0, List.replicate 96 0, List.replicate 96 0, List.replicate 32 (-1), List.replicate 768 (-1), List.replicate 32 0, 5, 0, 0, 0, 0) := own_init 2 2 1
  have l32 : (List.replicate 32 (0 : Int32)).length = 32 := by simp
  have m32 : (List.replicate 32 (-1 : Int32)).length = 32 := by simp
  have l96 : (List.replicate 96 (0 : Int32)).length = 96 := by simp
  have l768 : (List.replicate 768 (-1 : Int32)).length = 768 := by simp
  have z : ∀ i : Int32, 0 ≤ i.toInt → i.toInt < 32 → gI (List.replicate 32 (0 : Int32)) i = 0 := fun i a b => gI_rep a b
  have hP : own_PS (List.replicate 32 0) (List.replicate 32 0) (List.replicate 32 0) (List.replicate 32 0) (List.replicate 96 0) (List.replicate 96 0) := ⟨l32, l32, l32, l32, l96, l96, fun i a b => Or.inl ⟨z i a b, z i a b, z i a b, z i a b⟩⟩
  have e0 : (0 : Int32).toInt = 0 := rfl
  have three : ∀ i : Int32, 0 ≤ i.toInt → i.toInt ≤ 2 → i = 0 ∨ i = 1 ∨ i = 2 := by
    intro i a b
    simp only [ieq, Int32.reduceToInt]
    omega
  have hF : own_F [0, 2, 4] := by
    refine ⟨rfl, fun i a b => ?_⟩
    rcases three i a (by omega) with rfl | rfl | rfl <;> decide
  have hR : own_R [5, 3, 1] := by
    refine ⟨rfl, fun i a b => ?_⟩
    rcases three i a b with rfl | rfl | rfl <;> decide
  have z96 : ∀ w m : Int32, own_wn w m → gI (List.replicate 96 (0 : Int32)) (w * 32 + m) = 0 := by
    intro w m hw
    have ei := own_wx hw
    obtain ⟨p1, p2, p3, p4⟩ := hw
    exact gI_rep (by omega) (by omega)
  have hQ : own_Q [5, 3, 1] (List.replicate 96 0) 0 := by
    intro w m hw
    have hr := hR.2 w hw.1 (by have := hw.2.1; omega)
    rw [z96 w m hw, e0]
    omega
  have cz : ∀ (p : Nat → Bool) (n : Nat), (∀ j, j < n → p j = false) → own_cnt p n = 0 := by
    intro p n
    induction n with
    | zero => intro _; rw [own_cnt]
    | succ n ih =>
      intro hj
      rw [own_cnt, ih (fun j k => hj j (by omega)), hj n (by omega)]
      simp
  have zj : ∀ j : Nat, j < 32 → gI (List.replicate 32 (0 : Int32)) (Int32.ofNat j) = 0 := by
    intro j hj
    have ej : (Int32.ofNat j).toInt = j := Int32.toInt_ofNat_of_lt (by omega)
    exact z _ (by omega) (by omega)
  have hC : own_C (List.replicate 32 0) (List.replicate 32 0) (List.replicate 32 0) (List.replicate 32 0) (List.replicate 96 0) (List.replicate 96 0) 0 := by
    refine ⟨fun w m hw => ?_, fun m m0 m1 => ?_, ?_⟩
    · rw [z96 w m hw, e0, cz]
      · rfl
      · intro j hj
        unfold own_on
        rw [zj j hj]
        simp
    · rw [z96 0 m ⟨by decide, by decide, m0, m1⟩, z96 1 m ⟨by decide, by decide, m0, m1⟩, z96 2 m ⟨by decide, by decide, m0, m1⟩, e0]
      omega
    · rw [e0, cz]
      · rfl
      · intro j hj
        unfold own_ac
        rw [zj j hj]
        decide
  unfold f_L_law
  rw [e, Option.bind_some]
  have hm : own_mk 0 (List.replicate 32 0) := by
    intro j hj
    unfold own_ac
    rw [zj j hj]
    have key : ∀ j : Nat, j < 32 → own_mb 0 j = decide ((0 : Int32) = 1) := by decide +kernel
    exact key j hj
  have hsum : ∀ n : Nat, n ≤ 32 → own_sum (List.replicate 96 0) n = 0 := by
    intro n
    induction n with
    | zero => intro _; rfl
    | succ n ih =>
      intro hn
      have ej : (Int32.ofNat n).toInt = n := Int32.toInt_ofNat_of_lt (by omega)
      rw [own_sum, ih (by omega), z96 0 _ ⟨by decide, by decide, by omega, by omega⟩, z96 1 _ ⟨by decide, by decide, by omega, by omega⟩, z96 2 _ ⟨by decide, by decide, by omega, by omega⟩]
      rfl
  exact own_loop scr h hR hF 5 100000 _ _ _ _ _ _ _ _ _ 0 0 0 0 0 0 0 0 (-1) 0 0 0 0 0 ⟨hP, hC, hQ, by decide, m32, l768, l32, hm, rfl, (by rw [hsum 32 (by omega)]; rfl), rfl, Or.inl rfl, Or.inl (by decide)⟩ (by decide) (by decide) (by decide) (by decide)
set_option maxRecDepth 65536 in
theorem comes_1 {Post : Tables → Env → Array Value → State → Outcome → State → Prop} (hpost : ∀ tb e args s v u, (limb_1_1.after args s (.returned v) u = true ∧ limb_1_2.after args s (.returned v) u = true ∧ True) → FrameEnd s (.returned v) u (Jvm.fieldLocs frame_1_writes args s ++ Jvm.arrayLocs frame_1_arrays args s ++ Jvm.staticLocs frame_1_statics s) 40 2432 → Post tb e args s (.returned v) u) :
    ArmFor flags0 classFile x code maxLocals ret World_1 tables_1 room_1 Calls_1 rest_1 Pre_1 Post := by
  intro l hfl _ _ p e ha hc hk s m args below hf hA hF happ hP
  obtain ⟨hcalls, hrest, hpre⟩ := hP
  obtain ⟨-, -, -, hnamed, -, -, -, hat⟩ := (Spec.applies_iff hf).mp happ
  obtain ⟨hg, hn⟩ := and_e (Cond.before_iff.mp (show (Jvm.Cond.and given_1 narrow_1).before args s = true from hpre))
  obtain ⟨h1, h2⟩ := and_e hg
  have hw := fun d (hd : d ∈ tables_1) => atoms_spec (ws := Jvm.Cond.code x code maxLocals ret :: tables_1) hat d (List.mem_cons_of_mem _ hd)
  obtain ⟨w0, rfl⟩ : ∃ w0 : Value, args = #[w0] := by
    have hs : args.size = 1 := by simpa [Cond.value, given_1] using h1
    obtain ⟨L⟩ := args
    match L, hs with
    | [w0], _ => exact ⟨w0, rfl⟩
  have hfit : Fit s := fun {y c} hc i hi => by
    obtain ⟨ha, rfl⟩ := Array.getElem?_eq_some_iff.mp hc
    have q := List.all_eq_true.mp ((Array.all_eq_true_iff_forall_mem.mp hF) _ (Array.getElem_mem ha)) i (List.mem_range.mpr hi)
    simpa [Array.getElem?_eq_getElem hi] using q
  obtain ⟨hn1, hn2⟩ := and_e hn
  obtain ⟨ad, e0⟩ := arr_v hn1
  obtain ⟨cl, A⟩ := Arr.start e0 hn1
  obtain rfl : w0 = .ref ad := Option.some.inj e0
  obtain ⟨scr, hs1, hs2, hs3⟩ := script_of hfit A e0 hn2
  have E : OEndsQ own_P 0 0 (entL [.ref 0] d_0.maxL) [] [.inr (.inl (false, scr))] (LawQ 1 13 1178) := ok_L_law (own_true scr hs2)
  have hS : SR [ad] [.ref 0] [.ref ad] := ⟨_, _, rfl, ⟨ad, rfl, rfl⟩, rfl⟩
  have hH : HR own_P s s.heap.size s.heap [ad] [.inr (.inl (false, scr))] := hr_script rfl A hs1 hs2 hs3
  have M := law_met (l := l) own_chk (fun w hw' => hw w (own_in w hw')) hm_0 E hS (Nat.le_of_ble_eq_true rfl) hH tables_1 room_1 (Nat.le_of_ble_eq_true rfl) (Nat.le_of_ble_eq_true rfl) (Nat.le_of_ble_eq_true rfl) (Nat.le_of_ble_eq_true rfl)
  obtain ⟨n, o, h1, h2, h3, L, rfl, N, hq⟩ := M p e ha hc hk s m _ below hf ((Spec.applies_iff_loose hf).mp happ).1 ⟨rfl, State.Warmed39.refl s, rfl⟩ trivial
  refine ⟨n, _, h1, h2, h3, hpost _ _ _ _ _ _ ⟨Cond.after_iff.mpr rfl, Cond.after_iff.mpr (eq_i res_at (Term.int_eval (1)) rfl), trivial⟩ ⟨hq.1, hq.2.1, (hq.2.2.sift fun y hy => Or.inr (N y hy)).mono (by decide) (by decide)⟩⟩
theorem main_1_1 : Claimed_1_1 := comes_1 fun _ _ _ _ _ _ h hF => ⟨h.1, hF⟩
theorem main_1_2 : Claimed_1_2 := comes_1 fun _ _ _ _ _ _ h hF => ⟨h.2.1, hF⟩
end Jvm.Pilot.@@N@@
namespace Jvm.Pilot.@@N@@
open Jvm Jvm.ClassFile Sem Op Lib Jvm.Free Jvm.Stand Jvm.Pilot.@@N@@.Jvm.D
/-! MADE BY PROGRAM (witnessworld.py) out of the Statement's table words and the real class files: 11 classes; the members and pool entries that the words name. The judged class is class 1, her method 1. -/
namespace start1
open Jvm.ClassFile
def u (s : String) : CpInfo := .utf8 (stringToUtf16 s)
/-- a pool by its gaps: so many unusable entries, then the entry; so many at the end -/
def gap : Nat → List CpInfo → List CpInfo
  | 0, r => r
  | n + 1, r => .unusable :: gap n r
def poolList (es : List (Nat × CpInfo)) (last : Nat) : List CpInfo := es.foldr (fun e r => gap e.1 (e.2 :: r)) (gap last [])
def pool (es : List (Nat × CpInfo)) (last : Nat) : Array CpInfo := ⟨poolList es last⟩
def fileOf (pool : Array CpInfo) (this : Nat) (attrs : Array Attribute := #[]) (ms : Array MethodInfo := #[]) (fl : Nat := 33) (sup : Nat := 0) (ifs : Array Nat := #[]) (fds : Array FieldInfo := #[]) : ClassFile where
  minorVersion := 0
  majorVersion := 65
  constantPool := pool
  accessFlags := fl
  thisClass := this
  superClass := sup
  interfaces := ifs
  fields := fds
  methods := ms
  attributes := attrs
def plain (name : String) (sup : Option ClassId) : Class where
  name := name
  kind := .ordinary
  loader := none
  accessFlags := 33
  super := sup
  interfaces := #[]
  cf := none
  fields := #[]
  methods := #[]
  instanceTypes := #[]
  staticTypes := #[]
  resolved := #[]
  callSites := []
  init := .initialized
  statics := none
  mirror := none

def pool0 : Array CpInfo := pool [(5, u "<init>"), (0, u "()V"), (1, .class_ 10), (1, u "java/lang/Object")] 113

def k0c0 : Code := { maxStack := 0, maxLocals := 1, code := object_method_1_code, exceptionTable := #[], attributes := #[] }
def k0m0 : Method := { name := "<init>", desc := "()V", sig := { parameters := [], returnType := none }, accessFlags := 1, code := some k0c0 }
/-- java/lang/Object -/
def k0 : Class := { plain "java/lang/Object" none with
  accessFlags := 33
  interfaces := #[]
  cf := some (fileOf pool0 8 #[] #[{ accessFlags := 1, nameIndex := 5, descriptorIndex := 6, attributes := #[] }] 33 0 #[] #[])
  fields := #[]
  methods := #[k0m0]
  instanceTypes := #[]
  staticTypes := #[]
  resolved := Array.replicate 124 none
  statics := none }

def pool1 : Array CpInfo := pool [(2, .class_ 4), (1, u "java/lang/Object"), (0, u "<init>"), (0, u "()V"), (0, .class_ 8), (0, u "RoomPlanner"), (0, .methodref 7 10), (0, .nameAndType 5 11), (0, u "(III)V"), (0, .methodref 7 13), (0, .nameAndType 14 15), (0, u "canBook"), (0, u "(III)Z"), (0, .methodref 7 17), (0, .nameAndType 18 19), (0, u "book"), (0, u "(III)I"), (0, .methodref 21 22), (0, .class_ 23), (0, .nameAndType 24 25), (0, u "RoomPlannerL6"), (0, u "lowestFree"), (0, u "(I)I"), (0, .methodref 7 27), (0, .nameAndType 28 25), (0, u "stayNights"), (0, .methodref 7 30), (0, .nameAndType 31 32), (0, u "amend"), (0, u "(IIII)I"), (0, .methodref 7 34), (0, .nameAndType 35 25), (0, u "cancel"), (0, .methodref 7 37), (0, .nameAndType 38 39), (0, u "assign"), (0, u "()I"), (0, .methodref 7 41), (0, .nameAndType 42 25), (0, u "stayType"), (0, .methodref 7 44), (0, .nameAndType 45 46), (0, u "occupancy"), (0, u "(II)I"), (0, .methodref 7 48), (0, .nameAndType 49 46), (0, u "available"), (0, .methodref 7 51), (0, .nameAndType 52 39), (0, u "activeCount"), (0, .methodref 7 54), (0, .nameAndType 55 56), (0, u "isAssigned"), (0, u "()Z"), (0, .methodref 7 58), (0, .nameAndType 59 25), (0, u "stayArrive"), (2, u "law"), (0, u "([I)Z")] 5

def k1m0 : Method := { name := "<init>", desc := "()V", sig := { parameters := [], returnType := none }, accessFlags := 1, code := none }
def k1c1 : Code := { maxStack := 5, maxLocals := 24, code := code, exceptionTable := #[], attributes := #[] }
def k1m1 : Method := { name := "law", desc := "([I)Z", sig := { parameters := [(.array .int)], returnType := some .boolean }, accessFlags := 9, code := some k1c1 }
def k1c2 : Code := { maxStack := 2, maxLocals := 2, code := method_3_code, exceptionTable := #[], attributes := #[] }
def k1m2 : Method := { name := "lowestFree", desc := "(I)I", sig := { parameters := [.int], returnType := some .int }, accessFlags := 10, code := some k1c2 }
/-- RoomPlannerL6 -/
def k1 : Class := { plain "RoomPlannerL6" (some 0) with
  accessFlags := 33
  interfaces := #[]
  cf := some (fileOf pool1 21 #[] #[{ accessFlags := 1, nameIndex := 5, descriptorIndex := 6, attributes := #[] }, { accessFlags := 9, nameIndex := 62, descriptorIndex := 63, attributes := #[] }, { accessFlags := 10, nameIndex := 24, descriptorIndex := 25, attributes := #[] }] 33 2 #[] #[])
  fields := #[]
  methods := #[k1m0, k1m1, k1m2]
  instanceTypes := #[]
  staticTypes := #[]
  resolved := Array.replicate 69 none
  statics := none }

def pool2 : Array CpInfo := pool [(1, .methodref 2 3), (0, .class_ 4), (0, .nameAndType 5 6), (0, u "java/lang/Object"), (0, u "<init>"), (0, u "()V"), (0, .fieldref 8 9), (0, .class_ 10), (0, .nameAndType 11 12), (0, u "RoomPlanner"), (0, u "roomsOfType"), (0, u "[I"), (0, .fieldref 8 14), (0, .nameAndType 15 12), (0, u "roomsAtLeast"), (0, .fieldref 8 17), (0, .nameAndType 18 12), (0, u "firstRoomOfType"), (0, .fieldref 8 20), (0, .nameAndType 21 22), (0, u "slotActive"), (0, u "[Z"), (0, .fieldref 8 24), (0, .nameAndType 25 12), (0, u "slotType"), (0, .fieldref 8 27), (0, .nameAndType 28 12), (0, u "slotArrive"), (0, .fieldref 8 30), (0, .nameAndType 31 12), (0, u "slotNights"), (0, .fieldref 8 33), (0, .nameAndType 34 12), (0, u "exactCount"), (0, .fieldref 8 36), (0, .nameAndType 37 12), (0, u "atLeastCount"), (0, .fieldref 8 39), (0, .nameAndType 40 12), (0, u "planRoom"), (0, .fieldref 8 42), (0, .nameAndType 43 12), (0, u "planGrid"), (0, .fieldref 8 45), (0, .nameAndType 46 12), (0, u "planOrder"), (0, .methodref 8 48), (0, .nameAndType 49 50), (0, u "clampRooms"), (0, u "(I)I"), (0, .methodref 8 52), (0, .nameAndType 53 6), (0, u "computeRoomTables"), (0, .methodref 8 55), (0, .nameAndType 56 6), (0, u "resetStays"), (0, .methodref 8 58), (0, .nameAndType 59 6), (0, u "resetCounts"), (0, .methodref 8 61), (0, .nameAndType 62 6), (0, u "clearPlan"), (0, .fieldref 8 64), (0, .nameAndType 65 66), (0, u "planCurrent"), (0, u "Z"), (0, .fieldref 8 68), (0, .nameAndType 69 70), (0, u "planUnplaced"), (0, u "I"), (0, .methodref 8 72), (0, .nameAndType 73 74), (0, u "requestError"), (0, u "(III)I"), (0, .fieldref 8 76), (0, .nameAndType 77 70), (0, u "activeStays"), (0, .methodref 8 79), (0, .nameAndType 80 81), (0, u "fitsWith"), (0, u "(IIII)Z"), (0, .methodref 8 83), (0, .nameAndType 84 85), (0, u "lowestInactiveSlot"), (0, u "()I"), (0, .methodref 8 87), (0, .nameAndType 88 89), (0, u "activateStay"), (0, u "(IIII)V"), (0, .methodref 8 91), (0, .nameAndType 92 6), (0, u "discardPlan"), (0, .methodref 8 94), (0, .nameAndType 95 96), (0, u "isActiveStay"), (0, u "(I)Z"), (0, .methodref 8 98), (0, .nameAndType 99 100), (0, u "adjustCoverage"), (0, u "(II)V"), (0, .methodref 8 102), (0, .nameAndType 103 89), (0, u "storeStay"), (0, .methodref 8 105), (0, .nameAndType 106 107), (0, u "deactivateStay"), (0, u "(I)V"), (0, .methodref 8 109), (0, .nameAndType 110 96), (0, u "isValidType"), (0, .methodref 8 112), (0, .nameAndType 113 96), (0, u "isValidNight"), (3, u "(II)I"), (0, .methodref 8 119), (0, .nameAndType 120 117), (0, u "minSlack"), (0, .methodref 8 122), (0, .nameAndType 123 117), (0, u "exactAt"), (0, .methodref 8 125), (0, .nameAndType 126 6), (0, u "buildOrder"), (0, .fieldref 8 128), (0, .nameAndType 129 70), (0, u "planOrderLength"), (0, .methodref 8 131), (0, .nameAndType 132 96), (0, u "placeStay"), (3, .methodref 8 137), (0, .nameAndType 138 117), (0, u "gridAt"), (3, .fieldref 8 143), (0, .nameAndType 144 70), (0, u "totalRooms"), (0, .methodref 8 146), (0, .nameAndType 147 148), (0, u "isValidLength"), (0, u "(II)Z"), (0, .methodref 8 150), (0, .nameAndType 151 117), (0, u "countIndex"), (0, .methodref 8 153), (0, .nameAndType 154 117), (0, u "endOf"), (0, .methodref 8 156), (0, .nameAndType 157 50), (0, u "roomsFrom"), (0, .methodref 8 159), (0, .nameAndType 160 117), (0, u "atLeastAt"), (0, .methodref 8 162), (0, .nameAndType 163 117), (0, u "slackOf"), (0, .methodref 8 165), (0, .nameAndType 166 148), (0, u "coversNight"), (0, .methodref 8 168), (0, .nameAndType 169 74), (0, u "exclusion"), (0, .methodref 8 171), (0, .nameAndType 172 173), (0, u "nightFits"), (0, u "(III)Z"), (0, .methodref 8 175), (0, .nameAndType 176 117), (0, u "gridIndex"), (0, .methodref 8 178), (0, .nameAndType 179 107), (0, u "appendToOrder"), (0, .methodref 8 181), (0, .nameAndType 182 173), (0, u "roomIsFree"), (0, .methodref 8 184), (0, .nameAndType 185 89), (0, u "markRoom"), (0, u "NUM_TYPES"), (2, u "HORIZON"), (1, u "MAX_STAYS"), (0, u "MAX_ROOMS_PER_TYPE"), (1, u "OK"), (1, u "NONE"), (1, u "ERR_TYPE"), (0, u "ERR_RANGE"), (1, u "ERR_FULL"), (1, u "ERR_NO_ROOM"), (1, u "ERR_NO_STAY"), (1, u "MAX_ROOMS"), (1, u "(III)V"), (2, u "book"), (1, u "amend"), (0, u "(IIII)I"), (0, u "cancel"), (0, u "canBook"), (1, u "available"), (0, u "occupancy"), (0, u "stayType"), (0, u "stayArrive"), (0, u "stayNights"), (0, u "activeCount"), (0, u "assign"), (0, u "isAssigned"), (0, u "()Z")] 5

def k2c0 : Code := { maxStack := 4, maxLocals := 4, code := prog_1_method_1_code, exceptionTable := #[], attributes := #[] }
def k2m0 : Method := { name := "<init>", desc := "(III)V", sig := { parameters := [.int, .int, .int], returnType := none }, accessFlags := 1, code := some k2c0 }
def k2c1 : Code := { maxStack := 5, maxLocals := 6, code := prog_1_method_2_code, exceptionTable := #[], attributes := #[] }
def k2m1 : Method := { name := "book", desc := "(III)I", sig := { parameters := [.int, .int, .int], returnType := some .int }, accessFlags := 1, code := some k2c1 }
def k2c2 : Code := { maxStack := 5, maxLocals := 6, code := prog_1_method_3_code, exceptionTable := #[], attributes := #[] }
def k2m2 : Method := { name := "amend", desc := "(IIII)I", sig := { parameters := [.int, .int, .int, .int], returnType := some .int }, accessFlags := 1, code := some k2c2 }
def k2c3 : Code := { maxStack := 2, maxLocals := 2, code := prog_1_method_4_code, exceptionTable := #[], attributes := #[] }
def k2m3 : Method := { name := "cancel", desc := "(I)I", sig := { parameters := [.int], returnType := some .int }, accessFlags := 1, code := some k2c3 }
def k2c4 : Code := { maxStack := 5, maxLocals := 4, code := prog_1_method_5_code, exceptionTable := #[], attributes := #[] }
def k2m4 : Method := { name := "canBook", desc := "(III)Z", sig := { parameters := [.int, .int, .int], returnType := some .boolean }, accessFlags := 1, code := some k2c4 }
def k2c5 : Code := { maxStack := 3, maxLocals := 3, code := prog_1_method_7_code, exceptionTable := #[], attributes := #[] }
def k2m5 : Method := { name := "available", desc := "(II)I", sig := { parameters := [.int, .int], returnType := some .int }, accessFlags := 1, code := some k2c5 }
def k2c6 : Code := { maxStack := 3, maxLocals := 3, code := prog_1_method_8_code, exceptionTable := #[], attributes := #[] }
def k2m6 : Method := { name := "occupancy", desc := "(II)I", sig := { parameters := [.int, .int], returnType := some .int }, accessFlags := 1, code := some k2c6 }
def k2c7 : Code := { maxStack := 2, maxLocals := 2, code := prog_1_method_9_code, exceptionTable := #[], attributes := #[] }
def k2m7 : Method := { name := "stayType", desc := "(I)I", sig := { parameters := [.int], returnType := some .int }, accessFlags := 1, code := some k2c7 }
def k2c8 : Code := { maxStack := 2, maxLocals := 2, code := prog_1_method_10_code, exceptionTable := #[], attributes := #[] }
def k2m8 : Method := { name := "stayArrive", desc := "(I)I", sig := { parameters := [.int], returnType := some .int }, accessFlags := 1, code := some k2c8 }
def k2c9 : Code := { maxStack := 2, maxLocals := 2, code := prog_1_method_11_code, exceptionTable := #[], attributes := #[] }
def k2m9 : Method := { name := "stayNights", desc := "(I)I", sig := { parameters := [.int], returnType := some .int }, accessFlags := 1, code := some k2c9 }
def k2c10 : Code := { maxStack := 1, maxLocals := 1, code := prog_1_method_12_code, exceptionTable := #[], attributes := #[] }
def k2m10 : Method := { name := "activeCount", desc := "()I", sig := { parameters := [], returnType := some .int }, accessFlags := 1, code := some k2c10 }
def k2c11 : Code := { maxStack := 2, maxLocals := 5, code := prog_1_method_13_code, exceptionTable := #[], attributes := #[] }
def k2m11 : Method := { name := "assign", desc := "()I", sig := { parameters := [], returnType := some .int }, accessFlags := 1, code := some k2c11 }
def k2c12 : Code := { maxStack := 1, maxLocals := 1, code := prog_1_method_14_code, exceptionTable := #[], attributes := #[] }
def k2m12 : Method := { name := "isAssigned", desc := "()Z", sig := { parameters := [], returnType := some .boolean }, accessFlags := 1, code := some k2c12 }
def k2c13 : Code := { maxStack := 2, maxLocals := 2, code := prog_1_method_18_code, exceptionTable := #[], attributes := #[] }
def k2m13 : Method := { name := "clampRooms", desc := "(I)I", sig := { parameters := [.int], returnType := some .int }, accessFlags := 2, code := some k2c13 }
def k2c14 : Code := { maxStack := 4, maxLocals := 4, code := prog_1_method_19_code, exceptionTable := #[], attributes := #[] }
def k2m14 : Method := { name := "computeRoomTables", desc := "()V", sig := { parameters := [], returnType := none }, accessFlags := 2, code := some k2c14 }
def k2c15 : Code := { maxStack := 2, maxLocals := 2, code := prog_1_method_22_code, exceptionTable := #[], attributes := #[] }
def k2m15 : Method := { name := "roomsFrom", desc := "(I)I", sig := { parameters := [.int], returnType := some .int }, accessFlags := 2, code := some k2c15 }
def k2c16 : Code := { maxStack := 2, maxLocals := 2, code := prog_1_method_23_code, exceptionTable := #[], attributes := #[] }
def k2m16 : Method := { name := "isValidType", desc := "(I)Z", sig := { parameters := [.int], returnType := some .boolean }, accessFlags := 2, code := some k2c16 }
def k2c17 : Code := { maxStack := 2, maxLocals := 2, code := prog_1_method_24_code, exceptionTable := #[], attributes := #[] }
def k2m17 : Method := { name := "isValidNight", desc := "(I)Z", sig := { parameters := [.int], returnType := some .boolean }, accessFlags := 2, code := some k2c17 }
def k2c18 : Code := { maxStack := 3, maxLocals := 3, code := prog_1_method_25_code, exceptionTable := #[], attributes := #[] }
def k2m18 : Method := { name := "isValidLength", desc := "(II)Z", sig := { parameters := [.int, .int], returnType := some .boolean }, accessFlags := 2, code := some k2c18 }
def k2c19 : Code := { maxStack := 2, maxLocals := 2, code := prog_1_method_26_code, exceptionTable := #[], attributes := #[] }
def k2m19 : Method := { name := "isActiveStay", desc := "(I)Z", sig := { parameters := [.int], returnType := some .boolean }, accessFlags := 2, code := some k2c19 }
def k2c20 : Code := { maxStack := 3, maxLocals := 4, code := prog_1_method_27_code, exceptionTable := #[], attributes := #[] }
def k2m20 : Method := { name := "requestError", desc := "(III)I", sig := { parameters := [.int, .int, .int], returnType := some .int }, accessFlags := 2, code := some k2c20 }
def k2c21 : Code := { maxStack := 3, maxLocals := 2, code := prog_1_method_28_code, exceptionTable := #[], attributes := #[] }
def k2m21 : Method := { name := "resetStays", desc := "()V", sig := { parameters := [], returnType := none }, accessFlags := 2, code := some k2c21 }
def k2c22 : Code := { maxStack := 2, maxLocals := 2, code := prog_1_method_29_code, exceptionTable := #[], attributes := #[] }
def k2m22 : Method := { name := "lowestInactiveSlot", desc := "()I", sig := { parameters := [], returnType := some .int }, accessFlags := 2, code := some k2c22 }
def k2c23 : Code := { maxStack := 3, maxLocals := 5, code := prog_1_method_30_code, exceptionTable := #[], attributes := #[] }
def k2m23 : Method := { name := "storeStay", desc := "(IIII)V", sig := { parameters := [.int, .int, .int, .int], returnType := none }, accessFlags := 2, code := some k2c23 }
def k2c24 : Code := { maxStack := 5, maxLocals := 5, code := prog_1_method_31_code, exceptionTable := #[], attributes := #[] }
def k2m24 : Method := { name := "activateStay", desc := "(IIII)V", sig := { parameters := [.int, .int, .int, .int], returnType := none }, accessFlags := 2, code := some k2c24 }
def k2c25 : Code := { maxStack := 5, maxLocals := 2, code := prog_1_method_32_code, exceptionTable := #[], attributes := #[] }
def k2m25 : Method := { name := "deactivateStay", desc := "(I)V", sig := { parameters := [.int], returnType := none }, accessFlags := 2, code := some k2c25 }
def k2c26 : Code := { maxStack := 3, maxLocals := 4, code := prog_1_method_33_code, exceptionTable := #[], attributes := #[] }
def k2m26 : Method := { name := "coversNight", desc := "(II)Z", sig := { parameters := [.int, .int], returnType := some .boolean }, accessFlags := 2, code := some k2c26 }
def k2c27 : Code := { maxStack := 2, maxLocals := 4, code := prog_1_method_34_code, exceptionTable := #[], attributes := #[] }
def k2m27 : Method := { name := "endOf", desc := "(II)I", sig := { parameters := [.int, .int], returnType := some .int }, accessFlags := 2, code := some k2c27 }
def k2c28 : Code := { maxStack := 3, maxLocals := 2, code := prog_1_method_35_code, exceptionTable := #[], attributes := #[] }
def k2m28 : Method := { name := "resetCounts", desc := "()V", sig := { parameters := [], returnType := none }, accessFlags := 2, code := some k2c28 }
def k2c29 : Code := { maxStack := 2, maxLocals := 3, code := prog_1_method_36_code, exceptionTable := #[], attributes := #[] }
def k2m29 : Method := { name := "countIndex", desc := "(II)I", sig := { parameters := [.int, .int], returnType := some .int }, accessFlags := 2, code := some k2c29 }
def k2c30 : Code := { maxStack := 4, maxLocals := 3, code := prog_1_method_37_code, exceptionTable := #[], attributes := #[] }
def k2m30 : Method := { name := "exactAt", desc := "(II)I", sig := { parameters := [.int, .int], returnType := some .int }, accessFlags := 2, code := some k2c30 }
def k2c31 : Code := { maxStack := 4, maxLocals := 3, code := prog_1_method_38_code, exceptionTable := #[], attributes := #[] }
def k2m31 : Method := { name := "atLeastAt", desc := "(II)I", sig := { parameters := [.int, .int], returnType := some .int }, accessFlags := 2, code := some k2c31 }
def k2c32 : Code := { maxStack := 4, maxLocals := 8, code := prog_1_method_39_code, exceptionTable := #[], attributes := #[] }
def k2m32 : Method := { name := "adjustCoverage", desc := "(II)V", sig := { parameters := [.int, .int], returnType := none }, accessFlags := 2, code := some k2c32 }
def k2c33 : Code := { maxStack := 3, maxLocals := 5, code := prog_1_method_40_code, exceptionTable := #[], attributes := #[] }
def k2m33 : Method := { name := "slackOf", desc := "(II)I", sig := { parameters := [.int, .int], returnType := some .int }, accessFlags := 2, code := some k2c33 }
def k2c34 : Code := { maxStack := 3, maxLocals := 6, code := prog_1_method_41_code, exceptionTable := #[], attributes := #[] }
def k2m34 : Method := { name := "minSlack", desc := "(II)I", sig := { parameters := [.int, .int], returnType := some .int }, accessFlags := 2, code := some k2c34 }
def k2c35 : Code := { maxStack := 3, maxLocals := 4, code := prog_1_method_42_code, exceptionTable := #[], attributes := #[] }
def k2m35 : Method := { name := "exclusion", desc := "(III)I", sig := { parameters := [.int, .int, .int], returnType := some .int }, accessFlags := 2, code := some k2c35 }
def k2c36 : Code := { maxStack := 4, maxLocals := 8, code := prog_1_method_43_code, exceptionTable := #[], attributes := #[] }
def k2m36 : Method := { name := "nightFits", desc := "(III)Z", sig := { parameters := [.int, .int, .int], returnType := some .boolean }, accessFlags := 2, code := some k2c36 }
def k2c37 : Code := { maxStack := 4, maxLocals := 7, code := prog_1_method_44_code, exceptionTable := #[], attributes := #[] }
def k2m37 : Method := { name := "fitsWith", desc := "(IIII)Z", sig := { parameters := [.int, .int, .int, .int], returnType := some .boolean }, accessFlags := 2, code := some k2c37 }
def k2c38 : Code := { maxStack := 2, maxLocals := 1, code := prog_1_method_46_code, exceptionTable := #[], attributes := #[] }
def k2m38 : Method := { name := "discardPlan", desc := "()V", sig := { parameters := [], returnType := none }, accessFlags := 2, code := some k2c38 }
def k2c39 : Code := { maxStack := 3, maxLocals := 2, code := prog_1_method_47_code, exceptionTable := #[], attributes := #[] }
def k2m39 : Method := { name := "clearPlan", desc := "()V", sig := { parameters := [], returnType := none }, accessFlags := 2, code := some k2c39 }
def k2c40 : Code := { maxStack := 2, maxLocals := 3, code := prog_1_method_48_code, exceptionTable := #[], attributes := #[] }
def k2m40 : Method := { name := "gridIndex", desc := "(II)I", sig := { parameters := [.int, .int], returnType := some .int }, accessFlags := 2, code := some k2c40 }
def k2c41 : Code := { maxStack := 4, maxLocals := 3, code := prog_1_method_49_code, exceptionTable := #[], attributes := #[] }
def k2m41 : Method := { name := "gridAt", desc := "(II)I", sig := { parameters := [.int, .int], returnType := some .int }, accessFlags := 2, code := some k2c41 }
def k2c42 : Code := { maxStack := 2, maxLocals := 3, code := prog_1_method_50_code, exceptionTable := #[], attributes := #[] }
def k2m42 : Method := { name := "buildOrder", desc := "()V", sig := { parameters := [], returnType := none }, accessFlags := 2, code := some k2c42 }
def k2c43 : Code := { maxStack := 3, maxLocals := 2, code := prog_1_method_51_code, exceptionTable := #[], attributes := #[] }
def k2m43 : Method := { name := "appendToOrder", desc := "(I)V", sig := { parameters := [.int], returnType := none }, accessFlags := 2, code := some k2c43 }
def k2c44 : Code := { maxStack := 5, maxLocals := 6, code := prog_1_method_52_code, exceptionTable := #[], attributes := #[] }
def k2m44 : Method := { name := "placeStay", desc := "(I)Z", sig := { parameters := [.int], returnType := some .boolean }, accessFlags := 2, code := some k2c44 }
def k2c45 : Code := { maxStack := 3, maxLocals := 6, code := prog_1_method_53_code, exceptionTable := #[], attributes := #[] }
def k2m45 : Method := { name := "roomIsFree", desc := "(III)Z", sig := { parameters := [.int, .int, .int], returnType := some .boolean }, accessFlags := 2, code := some k2c45 }
def k2c46 : Code := { maxStack := 4, maxLocals := 7, code := prog_1_method_54_code, exceptionTable := #[], attributes := #[] }
def k2m46 : Method := { name := "markRoom", desc := "(IIII)V", sig := { parameters := [.int, .int, .int, .int], returnType := none }, accessFlags := 2, code := some k2c46 }
/-- RoomPlanner -/
def k2 : Class := { plain "RoomPlanner" (some 0) with
  accessFlags := 49
  interfaces := #[]
  cf := some (fileOf pool2 8 #[] #[{ accessFlags := 1, nameIndex := 5, descriptorIndex := 209, attributes := #[] }, { accessFlags := 1, nameIndex := 212, descriptorIndex := 74, attributes := #[] }, { accessFlags := 1, nameIndex := 214, descriptorIndex := 215, attributes := #[] }, { accessFlags := 1, nameIndex := 216, descriptorIndex := 50, attributes := #[] }, { accessFlags := 1, nameIndex := 217, descriptorIndex := 173, attributes := #[] }, { accessFlags := 1, nameIndex := 219, descriptorIndex := 117, attributes := #[] }, { accessFlags := 1, nameIndex := 220, descriptorIndex := 117, attributes := #[] }, { accessFlags := 1, nameIndex := 221, descriptorIndex := 50, attributes := #[] }, { accessFlags := 1, nameIndex := 222, descriptorIndex := 50, attributes := #[] }, { accessFlags := 1, nameIndex := 223, descriptorIndex := 50, attributes := #[] }, { accessFlags := 1, nameIndex := 224, descriptorIndex := 85, attributes := #[] }, { accessFlags := 1, nameIndex := 225, descriptorIndex := 85, attributes := #[] }, { accessFlags := 1, nameIndex := 226, descriptorIndex := 227, attributes := #[] }, { accessFlags := 2, nameIndex := 49, descriptorIndex := 50, attributes := #[] }, { accessFlags := 2, nameIndex := 53, descriptorIndex := 6, attributes := #[] }, { accessFlags := 2, nameIndex := 157, descriptorIndex := 50, attributes := #[] }, { accessFlags := 2, nameIndex := 110, descriptorIndex := 96, attributes := #[] }, { accessFlags := 2, nameIndex := 113, descriptorIndex := 96, attributes := #[] }, { accessFlags := 2, nameIndex := 147, descriptorIndex := 148, attributes := #[] }, { accessFlags := 2, nameIndex := 95, descriptorIndex := 96, attributes := #[] }, { accessFlags := 2, nameIndex := 73, descriptorIndex := 74, attributes := #[] }, { accessFlags := 2, nameIndex := 56, descriptorIndex := 6, attributes := #[] }, { accessFlags := 2, nameIndex := 84, descriptorIndex := 85, attributes := #[] }, { accessFlags := 2, nameIndex := 103, descriptorIndex := 89, attributes := #[] }, { accessFlags := 2, nameIndex := 88, descriptorIndex := 89, attributes := #[] }, { accessFlags := 2, nameIndex := 106, descriptorIndex := 107, attributes := #[] }, { accessFlags := 2, nameIndex := 166, descriptorIndex := 148, attributes := #[] }, { accessFlags := 2, nameIndex := 154, descriptorIndex := 117, attributes := #[] }, { accessFlags := 2, nameIndex := 59, descriptorIndex := 6, attributes := #[] }, { accessFlags := 2, nameIndex := 151, descriptorIndex := 117, attributes := #[] }, { accessFlags := 2, nameIndex := 123, descriptorIndex := 117, attributes := #[] }, { accessFlags := 2, nameIndex := 160, descriptorIndex := 117, attributes := #[] }, { accessFlags := 2, nameIndex := 99, descriptorIndex := 100, attributes := #[] }, { accessFlags := 2, nameIndex := 163, descriptorIndex := 117, attributes := #[] }, { accessFlags := 2, nameIndex := 120, descriptorIndex := 117, attributes := #[] }, { accessFlags := 2, nameIndex := 169, descriptorIndex := 74, attributes := #[] }, { accessFlags := 2, nameIndex := 172, descriptorIndex := 173, attributes := #[] }, { accessFlags := 2, nameIndex := 80, descriptorIndex := 81, attributes := #[] }, { accessFlags := 2, nameIndex := 92, descriptorIndex := 6, attributes := #[] }, { accessFlags := 2, nameIndex := 62, descriptorIndex := 6, attributes := #[] }, { accessFlags := 2, nameIndex := 176, descriptorIndex := 117, attributes := #[] }, { accessFlags := 2, nameIndex := 138, descriptorIndex := 117, attributes := #[] }, { accessFlags := 2, nameIndex := 126, descriptorIndex := 6, attributes := #[] }, { accessFlags := 2, nameIndex := 179, descriptorIndex := 107, attributes := #[] }, { accessFlags := 2, nameIndex := 132, descriptorIndex := 96, attributes := #[] }, { accessFlags := 2, nameIndex := 182, descriptorIndex := 173, attributes := #[] }, { accessFlags := 2, nameIndex := 185, descriptorIndex := 89, attributes := #[] }] 49 2 #[] #[{ accessFlags := 25, nameIndex := 186, descriptorIndex := 70, attributes := #[] }, { accessFlags := 25, nameIndex := 189, descriptorIndex := 70, attributes := #[] }, { accessFlags := 25, nameIndex := 191, descriptorIndex := 70, attributes := #[] }, { accessFlags := 25, nameIndex := 192, descriptorIndex := 70, attributes := #[] }, { accessFlags := 25, nameIndex := 194, descriptorIndex := 70, attributes := #[] }, { accessFlags := 25, nameIndex := 196, descriptorIndex := 70, attributes := #[] }, { accessFlags := 25, nameIndex := 198, descriptorIndex := 70, attributes := #[] }, { accessFlags := 25, nameIndex := 199, descriptorIndex := 70, attributes := #[] }, { accessFlags := 25, nameIndex := 201, descriptorIndex := 70, attributes := #[] }, { accessFlags := 25, nameIndex := 203, descriptorIndex := 70, attributes := #[] }, { accessFlags := 25, nameIndex := 205, descriptorIndex := 70, attributes := #[] }, { accessFlags := 26, nameIndex := 207, descriptorIndex := 70, attributes := #[] }, { accessFlags := 18, nameIndex := 11, descriptorIndex := 12, attributes := #[] }, { accessFlags := 18, nameIndex := 15, descriptorIndex := 12, attributes := #[] }, { accessFlags := 18, nameIndex := 18, descriptorIndex := 12, attributes := #[] }, { accessFlags := 2, nameIndex := 144, descriptorIndex := 70, attributes := #[] }, { accessFlags := 18, nameIndex := 21, descriptorIndex := 22, attributes := #[] }, { accessFlags := 18, nameIndex := 25, descriptorIndex := 12, attributes := #[] }, { accessFlags := 18, nameIndex := 28, descriptorIndex := 12, attributes := #[] }, { accessFlags := 18, nameIndex := 31, descriptorIndex := 12, attributes := #[] }, { accessFlags := 2, nameIndex := 77, descriptorIndex := 70, attributes := #[] }, { accessFlags := 18, nameIndex := 34, descriptorIndex := 12, attributes := #[] }, { accessFlags := 18, nameIndex := 37, descriptorIndex := 12, attributes := #[] }, { accessFlags := 2, nameIndex := 65, descriptorIndex := 66, attributes := #[] }, { accessFlags := 18, nameIndex := 40, descriptorIndex := 12, attributes := #[] }, { accessFlags := 18, nameIndex := 43, descriptorIndex := 12, attributes := #[] }, { accessFlags := 18, nameIndex := 46, descriptorIndex := 12, attributes := #[] }, { accessFlags := 2, nameIndex := 129, descriptorIndex := 70, attributes := #[] }, { accessFlags := 2, nameIndex := 69, descriptorIndex := 70, attributes := #[] }])
  fields := #[{ name := "NUM_TYPES", type := .int, accessFlags := 25, slot := 0, constantValue := 0 }, { name := "HORIZON", type := .int, accessFlags := 25, slot := 1, constantValue := 0 }, { name := "MAX_STAYS", type := .int, accessFlags := 25, slot := 2, constantValue := 0 }, { name := "MAX_ROOMS_PER_TYPE", type := .int, accessFlags := 25, slot := 3, constantValue := 0 }, { name := "OK", type := .int, accessFlags := 25, slot := 4, constantValue := 0 }, { name := "NONE", type := .int, accessFlags := 25, slot := 5, constantValue := 0 }, { name := "ERR_TYPE", type := .int, accessFlags := 25, slot := 6, constantValue := 0 }, { name := "ERR_RANGE", type := .int, accessFlags := 25, slot := 7, constantValue := 0 }, { name := "ERR_FULL", type := .int, accessFlags := 25, slot := 8, constantValue := 0 }, { name := "ERR_NO_ROOM", type := .int, accessFlags := 25, slot := 9, constantValue := 0 }, { name := "ERR_NO_STAY", type := .int, accessFlags := 25, slot := 10, constantValue := 0 }, { name := "MAX_ROOMS", type := .int, accessFlags := 26, slot := 11, constantValue := 0 }, { name := "roomsOfType", type := (.array .int), accessFlags := 18, slot := 0, constantValue := 0 }, { name := "roomsAtLeast", type := (.array .int), accessFlags := 18, slot := 1, constantValue := 0 }, { name := "firstRoomOfType", type := (.array .int), accessFlags := 18, slot := 2, constantValue := 0 }, { name := "totalRooms", type := .int, accessFlags := 2, slot := 3, constantValue := 0 }, { name := "slotActive", type := (.array .boolean), accessFlags := 18, slot := 4, constantValue := 0 }, { name := "slotType", type := (.array .int), accessFlags := 18, slot := 5, constantValue := 0 }, { name := "slotArrive", type := (.array .int), accessFlags := 18, slot := 6, constantValue := 0 }, { name := "slotNights", type := (.array .int), accessFlags := 18, slot := 7, constantValue := 0 }, { name := "activeStays", type := .int, accessFlags := 2, slot := 8, constantValue := 0 }, { name := "exactCount", type := (.array .int), accessFlags := 18, slot := 9, constantValue := 0 }, { name := "atLeastCount", type := (.array .int), accessFlags := 18, slot := 10, constantValue := 0 }, { name := "planCurrent", type := .boolean, accessFlags := 2, slot := 11, constantValue := 0 }, { name := "planRoom", type := (.array .int), accessFlags := 18, slot := 12, constantValue := 0 }, { name := "planGrid", type := (.array .int), accessFlags := 18, slot := 13, constantValue := 0 }, { name := "planOrder", type := (.array .int), accessFlags := 18, slot := 14, constantValue := 0 }, { name := "planOrderLength", type := .int, accessFlags := 2, slot := 15, constantValue := 0 }, { name := "planUnplaced", type := .int, accessFlags := 2, slot := 16, constantValue := 0 }]
  methods := #[k2m0, k2m1, k2m2, k2m3, k2m4, k2m5, k2m6, k2m7, k2m8, k2m9, k2m10, k2m11, k2m12, k2m13, k2m14, k2m15, k2m16, k2m17, k2m18, k2m19, k2m20, k2m21, k2m22, k2m23, k2m24, k2m25, k2m26, k2m27, k2m28, k2m29, k2m30, k2m31, k2m32, k2m33, k2m34, k2m35, k2m36, k2m37, k2m38, k2m39, k2m40, k2m41, k2m42, k2m43, k2m44, k2m45, k2m46]
  instanceTypes := #[(.array .int), (.array .int), (.array .int), .int, (.array .boolean), (.array .int), (.array .int), (.array .int), .int, (.array .int), (.array .int), .boolean, (.array .int), (.array .int), (.array .int), .int, .int]
  staticTypes := #[.int, .int, .int, .int, .int, .int, .int, .int, .int, .int, .int, .int]
  resolved := Array.replicate 233 none
  statics := none }

def pool3 : Array CpInfo := pool [(1, u "java/lang/Cloneable"), (0, .class_ 1), (0, u "java/lang/Object"), (0, .class_ 3)] 3

/-- java/lang/Cloneable -/
def k3 : Class := { plain "java/lang/Cloneable" (some 0) with
  accessFlags := 1537
  interfaces := #[]
  cf := some (fileOf pool3 2 #[] #[] 1537 4 #[] #[])
  fields := #[]
  methods := #[]
  instanceTypes := #[]
  staticTypes := #[]
  resolved := Array.replicate 8 none
  statics := none }

def pool4 : Array CpInfo := pool [(1, u "java/io/Serializable"), (0, .class_ 1), (0, u "java/lang/Object"), (0, .class_ 3)] 3

/-- java/io/Serializable -/
def k4 : Class := { plain "java/io/Serializable" (some 0) with
  accessFlags := 1537
  interfaces := #[]
  cf := some (fileOf pool4 2 #[] #[] 1537 4 #[] #[])
  fields := #[]
  methods := #[]
  instanceTypes := #[]
  staticTypes := #[]
  resolved := Array.replicate 8 none
  statics := none }

/-- the primitive boolean -/
def k5 : Class := { plain "boolean" none with kind := .primitive 'Z', accessFlags := 0x411 }
/-- [Z -/
def k6 : Class := { plain "[Z" (some 0) with kind := .array 5 .boolean, interfaces := #[3, 4], accessFlags := 1041 }

/-- the primitive byte -/
def k7 : Class := { plain "byte" none with kind := .primitive 'B', accessFlags := 0x411 }
/-- [B -/
def k8 : Class := { plain "[B" (some 0) with kind := .array 7 .byte, interfaces := #[3, 4], accessFlags := 1041 }

/-- the primitive int -/
def k9 : Class := { plain "int" none with kind := .primitive 'I', accessFlags := 0x411 }
/-- [I -/
def k10 : Class := { plain "[I" (some 0) with kind := .array 9 .int, interfaces := #[3, 4], accessFlags := 1041 }

def heap : Heap := #[{ cls := 10, slots := #[.int 1, .int 2, .int 3], vm := .none }]
def classes : Array Class := #[k0, k1, k2, k3, k4, k5, k6, k7, k8, k9, k10]
def interned : List (Array UInt16 × Addr) := []
def slotsUsed : Nat := 3
def theMethod : MethodId := ⟨1, 1⟩
def args0 : Array Value := #[.ref 0]
def aboutOver (below : List Frame) : State where
  vm := { classes := classes, interned := interned.toArray }
  heap := heap
  slotsUsed := slotsUsed
  threads := #[{ frames := .invoking theMethod args0 :: below }]
def below0 : List Frame := [.native { method := ⟨0, 0⟩, args := #[] }]
def about1 : State := aboutOver below0
def p0 : Program := .bare "" "" ""
def e0 : Env := launch0.env 0 0 0
theorem w_frames : about1.frames = Frame.invoking theMethod args0 :: below0 := rfl
set_option maxRecDepth 65536 in
theorem w_args : argsFit about1.vm theMethod args0 = true := by decide +kernel
set_option maxRecDepth 65536 in
theorem w_heap : heapFits about1 = true := by decide +kernel
set_option maxRecDepth 65536 in
theorem w_runnable : about1.curStatus? = some .runnable := by decide +kernel
set_option maxRecDepth 65536 in
theorem w_alone : about1.alone = true := by decide +kernel
set_option maxRecDepth 65536 in
theorem w_named : about1.methodNamed? x = some theMethod := by decide +kernel
set_option maxRecDepth 65536 in
theorem w_hears : about1.hears theMethod below0 = true := by decide +kernel
set_option maxRecDepth 65536 in
theorem w_ripe : about1.ripe theMethod args0 below0 = true := by decide +kernel
theorem w_running : about1.status = .running := rfl
set_option maxRecDepth 65536 in
theorem w_room : about1.hasRoom e0.platform room_1 = true :=
  launch0.hasRoom_least _ room_1 (by decide +kernel) (by decide +kernel) (by decide +kernel) (by decide +kernel) (by decide +kernel) (by decide +kernel)
theorem allAtoms_all (ts : List Jvm.Cond) (a : Array Jvm.Value) (st : Jvm.State) : (allAtoms ts).before a st = ts.all (fun c => c.before a st) := by
  induction ts with
  | nil => rfl
  | cons c t ih =>
    show (Jvm.Cond.and c (allAtoms t)).before a st = _
    rw [Jvm.Cond.before_and, ih, List.all_cons]
def words1 : List Jvm.Cond := Jvm.Cond.code x code maxLocals ret :: tables_1
/-- a 'code' word, met by the world's own term for the bytes: nothing is compared byte by byte -/
theorem code_word {y : MethodName} {bytes : ByteArray} {mx : Nat} {rt : Option FieldType} {a : Array Value} {s : State} {m : MethodId} {meth : Method} {c : Code} (h1 : s.methodNamed? y = some m) (h2 : s.vm.method? m = some meth) (h3 : meth.code = some c) (h4 : c.code = bytes)
    (h5 : (c.maxLocals == mx && c.exceptionTable.isEmpty && decide (c.maxStack ≤ mostOperands) && decide (meth.sig.returnType = rt) && !meth.locks && decide (parseMethodDescriptor y.desc = some meth.sig)) = true) : (Jvm.Cond.code y bytes mx rt).before a s = true := by
  simp only [Bool.and_eq_true, beq_iff_eq, Bool.not_eq_true', decide_eq_true_eq] at h5
  obtain ⟨⟨⟨⟨⟨g1, g2⟩, g3⟩, g4⟩, g5⟩, g6⟩ := h5
  simp [Cond.before, Cond.holds, Cond.value, h1, h2, h3, h4, g1, g2, g3, g4, g5, g6]
def isCode : Jvm.Cond → Bool
  | .code _ _ _ _ => true
  | _ => false
theorem all_split {L : List Jvm.Cond} {P : Jvm.Cond → Bool} (h1 : L.all (fun c => isCode c || P c) = true) (h2 : ∀ c ∈ L.filter isCode, P c = true) : L.all P = true := by
  refine List.all_eq_true.mpr fun c hc => ?_
  have h := List.all_eq_true.mp h1 c hc
  rcases Bool.eq_false_or_eq_true (isCode c) with hi | hi
  · exact h2 c (List.mem_filter.mpr ⟨hc, hi⟩)
  · simpa [hi] using h
set_option maxRecDepth 65536 in
theorem w_c0 : (Jvm.Cond.code x code maxLocals ret).before args0 about1 = true := code_word (m := ⟨1, 1⟩) (meth := k1m1) (c := k1c1) (by decide +kernel) rfl rfl rfl (by decide +kernel)
set_option maxRecDepth 65536 in
theorem w_c1 : (Jvm.Cond.code ({ cls := "RoomPlanner", name := "<init>", desc := "(III)V" } : Jvm.MethodName) prog_1_method_1_code (4 : Nat) (Option.none : Option Jvm.ClassFile.FieldType)).before args0 about1 = true := code_word (m := ⟨2, 0⟩) (meth := k2m0) (c := k2c0) (by decide +kernel) rfl rfl rfl (by decide +kernel)
set_option maxRecDepth 65536 in
theorem w_c2 : (Jvm.Cond.code ({ cls := "java/lang/Object", name := "<init>", desc := "()V" } : Jvm.MethodName) object_method_1_code (1 : Nat) (Option.none : Option Jvm.ClassFile.FieldType)).before args0 about1 = true := code_word (m := ⟨0, 0⟩) (meth := k0m0) (c := k0c0) (by decide +kernel) rfl rfl rfl (by decide +kernel)
set_option maxRecDepth 65536 in
theorem w_c3 : (Jvm.Cond.code ({ cls := "RoomPlanner", name := "clampRooms", desc := "(I)I" } : Jvm.MethodName) prog_1_method_18_code (2 : Nat) (Option.some Jvm.ClassFile.FieldType.int)).before args0 about1 = true := code_word (m := ⟨2, 13⟩) (meth := k2m13) (c := k2c13) (by decide +kernel) rfl rfl rfl (by decide +kernel)
set_option maxRecDepth 65536 in
theorem w_c4 : (Jvm.Cond.code ({ cls := "RoomPlanner", name := "computeRoomTables", desc := "()V" } : Jvm.MethodName) prog_1_method_19_code (4 : Nat) (Option.none : Option Jvm.ClassFile.FieldType)).before args0 about1 = true := code_word (m := ⟨2, 14⟩) (meth := k2m14) (c := k2c14) (by decide +kernel) rfl rfl rfl (by decide +kernel)
set_option maxRecDepth 65536 in
theorem w_c5 : (Jvm.Cond.code ({ cls := "RoomPlanner", name := "resetStays", desc := "()V" } : Jvm.MethodName) prog_1_method_28_code (2 : Nat) (Option.none : Option Jvm.ClassFile.FieldType)).before args0 about1 = true := code_word (m := ⟨2, 21⟩) (meth := k2m21) (c := k2c21) (by decide +kernel) rfl rfl rfl (by decide +kernel)
set_option maxRecDepth 65536 in
theorem w_c6 : (Jvm.Cond.code ({ cls := "RoomPlanner", name := "resetCounts", desc := "()V" } : Jvm.MethodName) prog_1_method_35_code (2 : Nat) (Option.none : Option Jvm.ClassFile.FieldType)).before args0 about1 = true := code_word (m := ⟨2, 28⟩) (meth := k2m28) (c := k2c28) (by decide +kernel) rfl rfl rfl (by decide +kernel)
set_option maxRecDepth 65536 in
theorem w_c7 : (Jvm.Cond.code ({ cls := "RoomPlanner", name := "clearPlan", desc := "()V" } : Jvm.MethodName) prog_1_method_47_code (2 : Nat) (Option.none : Option Jvm.ClassFile.FieldType)).before args0 about1 = true := code_word (m := ⟨2, 39⟩) (meth := k2m39) (c := k2c39) (by decide +kernel) rfl rfl rfl (by decide +kernel)
set_option maxRecDepth 65536 in
theorem w_c8 : (Jvm.Cond.code ({ cls := "RoomPlanner", name := "assign", desc := "()I" } : Jvm.MethodName) prog_1_method_13_code (5 : Nat) (Option.some Jvm.ClassFile.FieldType.int)).before args0 about1 = true := code_word (m := ⟨2, 11⟩) (meth := k2m11) (c := k2c11) (by decide +kernel) rfl rfl rfl (by decide +kernel)
set_option maxRecDepth 65536 in
theorem w_c9 : (Jvm.Cond.code ({ cls := "RoomPlanner", name := "discardPlan", desc := "()V" } : Jvm.MethodName) prog_1_method_46_code (1 : Nat) (Option.none : Option Jvm.ClassFile.FieldType)).before args0 about1 = true := code_word (m := ⟨2, 38⟩) (meth := k2m38) (c := k2c38) (by decide +kernel) rfl rfl rfl (by decide +kernel)
set_option maxRecDepth 65536 in
theorem w_c10 : (Jvm.Cond.code ({ cls := "RoomPlanner", name := "buildOrder", desc := "()V" } : Jvm.MethodName) prog_1_method_50_code (3 : Nat) (Option.none : Option Jvm.ClassFile.FieldType)).before args0 about1 = true := code_word (m := ⟨2, 42⟩) (meth := k2m42) (c := k2c42) (by decide +kernel) rfl rfl rfl (by decide +kernel)
set_option maxRecDepth 65536 in
theorem w_c11 : (Jvm.Cond.code ({ cls := "RoomPlanner", name := "stayType", desc := "(I)I" } : Jvm.MethodName) prog_1_method_9_code (2 : Nat) (Option.some Jvm.ClassFile.FieldType.int)).before args0 about1 = true := code_word (m := ⟨2, 7⟩) (meth := k2m7) (c := k2c7) (by decide +kernel) rfl rfl rfl (by decide +kernel)
set_option maxRecDepth 65536 in
theorem w_c12 : (Jvm.Cond.code ({ cls := "RoomPlanner", name := "isActiveStay", desc := "(I)Z" } : Jvm.MethodName) prog_1_method_26_code (2 : Nat) (Option.some Jvm.ClassFile.FieldType.boolean)).before args0 about1 = true := code_word (m := ⟨2, 19⟩) (meth := k2m19) (c := k2c19) (by decide +kernel) rfl rfl rfl (by decide +kernel)
set_option maxRecDepth 65536 in
theorem w_c13 : (Jvm.Cond.code ({ cls := "RoomPlanner", name := "occupancy", desc := "(II)I" } : Jvm.MethodName) prog_1_method_8_code (3 : Nat) (Option.some Jvm.ClassFile.FieldType.int)).before args0 about1 = true := code_word (m := ⟨2, 6⟩) (meth := k2m6) (c := k2c6) (by decide +kernel) rfl rfl rfl (by decide +kernel)
set_option maxRecDepth 65536 in
theorem w_c14 : (Jvm.Cond.code ({ cls := "RoomPlanner", name := "isValidType", desc := "(I)Z" } : Jvm.MethodName) prog_1_method_23_code (2 : Nat) (Option.some Jvm.ClassFile.FieldType.boolean)).before args0 about1 = true := code_word (m := ⟨2, 16⟩) (meth := k2m16) (c := k2c16) (by decide +kernel) rfl rfl rfl (by decide +kernel)
set_option maxRecDepth 65536 in
theorem w_c15 : (Jvm.Cond.code ({ cls := "RoomPlanner", name := "isValidNight", desc := "(I)Z" } : Jvm.MethodName) prog_1_method_24_code (2 : Nat) (Option.some Jvm.ClassFile.FieldType.boolean)).before args0 about1 = true := code_word (m := ⟨2, 17⟩) (meth := k2m17) (c := k2c17) (by decide +kernel) rfl rfl rfl (by decide +kernel)
set_option maxRecDepth 65536 in
theorem w_c16 : (Jvm.Cond.code ({ cls := "RoomPlanner", name := "exactAt", desc := "(II)I" } : Jvm.MethodName) prog_1_method_37_code (3 : Nat) (Option.some Jvm.ClassFile.FieldType.int)).before args0 about1 = true := code_word (m := ⟨2, 30⟩) (meth := k2m30) (c := k2c30) (by decide +kernel) rfl rfl rfl (by decide +kernel)
set_option maxRecDepth 65536 in
theorem w_c17 : (Jvm.Cond.code ({ cls := "RoomPlanner", name := "countIndex", desc := "(II)I" } : Jvm.MethodName) prog_1_method_36_code (3 : Nat) (Option.some Jvm.ClassFile.FieldType.int)).before args0 about1 = true := code_word (m := ⟨2, 29⟩) (meth := k2m29) (c := k2c29) (by decide +kernel) rfl rfl rfl (by decide +kernel)
set_option maxRecDepth 65536 in
theorem w_c18 : (Jvm.Cond.code ({ cls := "RoomPlanner", name := "available", desc := "(II)I" } : Jvm.MethodName) prog_1_method_7_code (3 : Nat) (Option.some Jvm.ClassFile.FieldType.int)).before args0 about1 = true := code_word (m := ⟨2, 5⟩) (meth := k2m5) (c := k2c5) (by decide +kernel) rfl rfl rfl (by decide +kernel)
set_option maxRecDepth 65536 in
theorem w_c19 : (Jvm.Cond.code ({ cls := "RoomPlanner", name := "minSlack", desc := "(II)I" } : Jvm.MethodName) prog_1_method_41_code (6 : Nat) (Option.some Jvm.ClassFile.FieldType.int)).before args0 about1 = true := code_word (m := ⟨2, 34⟩) (meth := k2m34) (c := k2c34) (by decide +kernel) rfl rfl rfl (by decide +kernel)
set_option maxRecDepth 65536 in
theorem w_c20 : (Jvm.Cond.code ({ cls := "RoomPlanner", name := "slackOf", desc := "(II)I" } : Jvm.MethodName) prog_1_method_40_code (5 : Nat) (Option.some Jvm.ClassFile.FieldType.int)).before args0 about1 = true := code_word (m := ⟨2, 33⟩) (meth := k2m33) (c := k2c33) (by decide +kernel) rfl rfl rfl (by decide +kernel)
set_option maxRecDepth 65536 in
theorem w_c21 : (Jvm.Cond.code ({ cls := "RoomPlanner", name := "roomsFrom", desc := "(I)I" } : Jvm.MethodName) prog_1_method_22_code (2 : Nat) (Option.some Jvm.ClassFile.FieldType.int)).before args0 about1 = true := code_word (m := ⟨2, 15⟩) (meth := k2m15) (c := k2c15) (by decide +kernel) rfl rfl rfl (by decide +kernel)
set_option maxRecDepth 65536 in
theorem w_c22 : (Jvm.Cond.code ({ cls := "RoomPlanner", name := "atLeastAt", desc := "(II)I" } : Jvm.MethodName) prog_1_method_38_code (3 : Nat) (Option.some Jvm.ClassFile.FieldType.int)).before args0 about1 = true := code_word (m := ⟨2, 31⟩) (meth := k2m31) (c := k2c31) (by decide +kernel) rfl rfl rfl (by decide +kernel)
set_option maxRecDepth 65536 in
theorem w_c23 : (Jvm.Cond.code ({ cls := "RoomPlanner", name := "activeCount", desc := "()I" } : Jvm.MethodName) prog_1_method_12_code (1 : Nat) (Option.some Jvm.ClassFile.FieldType.int)).before args0 about1 = true := code_word (m := ⟨2, 10⟩) (meth := k2m10) (c := k2c10) (by decide +kernel) rfl rfl rfl (by decide +kernel)
set_option maxRecDepth 65536 in
theorem w_c24 : (Jvm.Cond.code ({ cls := "RoomPlanner", name := "isAssigned", desc := "()Z" } : Jvm.MethodName) prog_1_method_14_code (1 : Nat) (Option.some Jvm.ClassFile.FieldType.boolean)).before args0 about1 = true := code_word (m := ⟨2, 12⟩) (meth := k2m12) (c := k2c12) (by decide +kernel) rfl rfl rfl (by decide +kernel)
set_option maxRecDepth 65536 in
theorem w_c25 : (Jvm.Cond.code ({ cls := "RoomPlanner", name := "canBook", desc := "(III)Z" } : Jvm.MethodName) prog_1_method_5_code (4 : Nat) (Option.some Jvm.ClassFile.FieldType.boolean)).before args0 about1 = true := code_word (m := ⟨2, 4⟩) (meth := k2m4) (c := k2c4) (by decide +kernel) rfl rfl rfl (by decide +kernel)
set_option maxRecDepth 65536 in
theorem w_c26 : (Jvm.Cond.code ({ cls := "RoomPlanner", name := "requestError", desc := "(III)I" } : Jvm.MethodName) prog_1_method_27_code (4 : Nat) (Option.some Jvm.ClassFile.FieldType.int)).before args0 about1 = true := code_word (m := ⟨2, 20⟩) (meth := k2m20) (c := k2c20) (by decide +kernel) rfl rfl rfl (by decide +kernel)
set_option maxRecDepth 65536 in
theorem w_c27 : (Jvm.Cond.code ({ cls := "RoomPlanner", name := "isValidLength", desc := "(II)Z" } : Jvm.MethodName) prog_1_method_25_code (3 : Nat) (Option.some Jvm.ClassFile.FieldType.boolean)).before args0 about1 = true := code_word (m := ⟨2, 18⟩) (meth := k2m18) (c := k2c18) (by decide +kernel) rfl rfl rfl (by decide +kernel)
set_option maxRecDepth 65536 in
theorem w_c28 : (Jvm.Cond.code ({ cls := "RoomPlanner", name := "fitsWith", desc := "(IIII)Z" } : Jvm.MethodName) prog_1_method_44_code (7 : Nat) (Option.some Jvm.ClassFile.FieldType.boolean)).before args0 about1 = true := code_word (m := ⟨2, 37⟩) (meth := k2m37) (c := k2c37) (by decide +kernel) rfl rfl rfl (by decide +kernel)
set_option maxRecDepth 65536 in
theorem w_c29 : (Jvm.Cond.code ({ cls := "RoomPlanner", name := "endOf", desc := "(II)I" } : Jvm.MethodName) prog_1_method_34_code (4 : Nat) (Option.some Jvm.ClassFile.FieldType.int)).before args0 about1 = true := code_word (m := ⟨2, 27⟩) (meth := k2m27) (c := k2c27) (by decide +kernel) rfl rfl rfl (by decide +kernel)
set_option maxRecDepth 65536 in
theorem w_c30 : (Jvm.Cond.code ({ cls := "RoomPlanner", name := "nightFits", desc := "(III)Z" } : Jvm.MethodName) prog_1_method_43_code (8 : Nat) (Option.some Jvm.ClassFile.FieldType.boolean)).before args0 about1 = true := code_word (m := ⟨2, 36⟩) (meth := k2m36) (c := k2c36) (by decide +kernel) rfl rfl rfl (by decide +kernel)
set_option maxRecDepth 65536 in
theorem w_c31 : (Jvm.Cond.code ({ cls := "RoomPlanner", name := "exclusion", desc := "(III)I" } : Jvm.MethodName) prog_1_method_42_code (4 : Nat) (Option.some Jvm.ClassFile.FieldType.int)).before args0 about1 = true := code_word (m := ⟨2, 35⟩) (meth := k2m35) (c := k2c35) (by decide +kernel) rfl rfl rfl (by decide +kernel)
set_option maxRecDepth 65536 in
theorem w_c32 : (Jvm.Cond.code ({ cls := "RoomPlanner", name := "book", desc := "(III)I" } : Jvm.MethodName) prog_1_method_2_code (6 : Nat) (Option.some Jvm.ClassFile.FieldType.int)).before args0 about1 = true := code_word (m := ⟨2, 1⟩) (meth := k2m1) (c := k2c1) (by decide +kernel) rfl rfl rfl (by decide +kernel)
set_option maxRecDepth 65536 in
theorem w_c33 : (Jvm.Cond.code ({ cls := "RoomPlanner", name := "lowestInactiveSlot", desc := "()I" } : Jvm.MethodName) prog_1_method_29_code (2 : Nat) (Option.some Jvm.ClassFile.FieldType.int)).before args0 about1 = true := code_word (m := ⟨2, 22⟩) (meth := k2m22) (c := k2c22) (by decide +kernel) rfl rfl rfl (by decide +kernel)
set_option maxRecDepth 65536 in
theorem w_c34 : (Jvm.Cond.code ({ cls := "RoomPlanner", name := "activateStay", desc := "(IIII)V" } : Jvm.MethodName) prog_1_method_31_code (5 : Nat) (Option.none : Option Jvm.ClassFile.FieldType)).before args0 about1 = true := code_word (m := ⟨2, 24⟩) (meth := k2m24) (c := k2c24) (by decide +kernel) rfl rfl rfl (by decide +kernel)
set_option maxRecDepth 65536 in
theorem w_c35 : (Jvm.Cond.code ({ cls := "RoomPlanner", name := "storeStay", desc := "(IIII)V" } : Jvm.MethodName) prog_1_method_30_code (5 : Nat) (Option.none : Option Jvm.ClassFile.FieldType)).before args0 about1 = true := code_word (m := ⟨2, 23⟩) (meth := k2m23) (c := k2c23) (by decide +kernel) rfl rfl rfl (by decide +kernel)
set_option maxRecDepth 65536 in
theorem w_c36 : (Jvm.Cond.code ({ cls := "RoomPlanner", name := "adjustCoverage", desc := "(II)V" } : Jvm.MethodName) prog_1_method_39_code (8 : Nat) (Option.none : Option Jvm.ClassFile.FieldType)).before args0 about1 = true := code_word (m := ⟨2, 32⟩) (meth := k2m32) (c := k2c32) (by decide +kernel) rfl rfl rfl (by decide +kernel)
set_option maxRecDepth 65536 in
theorem w_c37 : (Jvm.Cond.code ({ cls := "RoomPlannerL6", name := "lowestFree", desc := "(I)I" } : Jvm.MethodName) method_3_code (2 : Nat) (Option.some Jvm.ClassFile.FieldType.int)).before args0 about1 = true := code_word (m := ⟨1, 2⟩) (meth := k1m2) (c := k1c2) (by decide +kernel) rfl rfl rfl (by decide +kernel)
set_option maxRecDepth 65536 in
theorem w_c38 : (Jvm.Cond.code ({ cls := "RoomPlanner", name := "stayArrive", desc := "(I)I" } : Jvm.MethodName) prog_1_method_10_code (2 : Nat) (Option.some Jvm.ClassFile.FieldType.int)).before args0 about1 = true := code_word (m := ⟨2, 8⟩) (meth := k2m8) (c := k2c8) (by decide +kernel) rfl rfl rfl (by decide +kernel)
set_option maxRecDepth 65536 in
theorem w_c39 : (Jvm.Cond.code ({ cls := "RoomPlanner", name := "stayNights", desc := "(I)I" } : Jvm.MethodName) prog_1_method_11_code (2 : Nat) (Option.some Jvm.ClassFile.FieldType.int)).before args0 about1 = true := code_word (m := ⟨2, 9⟩) (meth := k2m9) (c := k2c9) (by decide +kernel) rfl rfl rfl (by decide +kernel)
set_option maxRecDepth 65536 in
theorem w_c40 : (Jvm.Cond.code ({ cls := "RoomPlanner", name := "cancel", desc := "(I)I" } : Jvm.MethodName) prog_1_method_4_code (2 : Nat) (Option.some Jvm.ClassFile.FieldType.int)).before args0 about1 = true := code_word (m := ⟨2, 3⟩) (meth := k2m3) (c := k2c3) (by decide +kernel) rfl rfl rfl (by decide +kernel)
set_option maxRecDepth 65536 in
theorem w_c41 : (Jvm.Cond.code ({ cls := "RoomPlanner", name := "deactivateStay", desc := "(I)V" } : Jvm.MethodName) prog_1_method_32_code (2 : Nat) (Option.none : Option Jvm.ClassFile.FieldType)).before args0 about1 = true := code_word (m := ⟨2, 25⟩) (meth := k2m25) (c := k2c25) (by decide +kernel) rfl rfl rfl (by decide +kernel)
set_option maxRecDepth 65536 in
theorem w_c42 : (Jvm.Cond.code ({ cls := "RoomPlanner", name := "amend", desc := "(IIII)I" } : Jvm.MethodName) prog_1_method_3_code (6 : Nat) (Option.some Jvm.ClassFile.FieldType.int)).before args0 about1 = true := code_word (m := ⟨2, 2⟩) (meth := k2m2) (c := k2c2) (by decide +kernel) rfl rfl rfl (by decide +kernel)
set_option maxRecDepth 65536 in
theorem w_c43 : (Jvm.Cond.code ({ cls := "RoomPlanner", name := "appendToOrder", desc := "(I)V" } : Jvm.MethodName) prog_1_method_51_code (2 : Nat) (Option.none : Option Jvm.ClassFile.FieldType)).before args0 about1 = true := code_word (m := ⟨2, 43⟩) (meth := k2m43) (c := k2c43) (by decide +kernel) rfl rfl rfl (by decide +kernel)
set_option maxRecDepth 65536 in
theorem w_c44 : (Jvm.Cond.code ({ cls := "RoomPlanner", name := "placeStay", desc := "(I)Z" } : Jvm.MethodName) prog_1_method_52_code (6 : Nat) (Option.some Jvm.ClassFile.FieldType.boolean)).before args0 about1 = true := code_word (m := ⟨2, 44⟩) (meth := k2m44) (c := k2c44) (by decide +kernel) rfl rfl rfl (by decide +kernel)
set_option maxRecDepth 65536 in
theorem w_c45 : (Jvm.Cond.code ({ cls := "RoomPlanner", name := "roomIsFree", desc := "(III)Z" } : Jvm.MethodName) prog_1_method_53_code (6 : Nat) (Option.some Jvm.ClassFile.FieldType.boolean)).before args0 about1 = true := code_word (m := ⟨2, 45⟩) (meth := k2m45) (c := k2c45) (by decide +kernel) rfl rfl rfl (by decide +kernel)
set_option maxRecDepth 65536 in
theorem w_c46 : (Jvm.Cond.code ({ cls := "RoomPlanner", name := "gridAt", desc := "(II)I" } : Jvm.MethodName) prog_1_method_49_code (3 : Nat) (Option.some Jvm.ClassFile.FieldType.int)).before args0 about1 = true := code_word (m := ⟨2, 41⟩) (meth := k2m41) (c := k2c41) (by decide +kernel) rfl rfl rfl (by decide +kernel)
set_option maxRecDepth 65536 in
theorem w_c47 : (Jvm.Cond.code ({ cls := "RoomPlanner", name := "gridIndex", desc := "(II)I" } : Jvm.MethodName) prog_1_method_48_code (3 : Nat) (Option.some Jvm.ClassFile.FieldType.int)).before args0 about1 = true := code_word (m := ⟨2, 40⟩) (meth := k2m40) (c := k2c40) (by decide +kernel) rfl rfl rfl (by decide +kernel)
set_option maxRecDepth 65536 in
theorem w_c48 : (Jvm.Cond.code ({ cls := "RoomPlanner", name := "markRoom", desc := "(IIII)V" } : Jvm.MethodName) prog_1_method_54_code (7 : Nat) (Option.none : Option Jvm.ClassFile.FieldType)).before args0 about1 = true := code_word (m := ⟨2, 46⟩) (meth := k2m46) (c := k2c46) (by decide +kernel) rfl rfl rfl (by decide +kernel)
set_option maxRecDepth 65536 in
theorem w_c49 : (Jvm.Cond.code ({ cls := "RoomPlanner", name := "coversNight", desc := "(II)Z" } : Jvm.MethodName) prog_1_method_33_code (4 : Nat) (Option.some Jvm.ClassFile.FieldType.boolean)).before args0 about1 = true := code_word (m := ⟨2, 26⟩) (meth := k2m26) (c := k2c26) (by decide +kernel) rfl rfl rfl (by decide +kernel)
def codes1 : List Jvm.Cond := [Jvm.Cond.code x code maxLocals ret, Jvm.Cond.code ({ cls := "RoomPlanner", name := "<init>", desc := "(III)V" } : Jvm.MethodName) prog_1_method_1_code (4 : Nat) (Option.none : Option Jvm.ClassFile.FieldType), Jvm.Cond.code ({ cls := "java/lang/Object", name := "<init>", desc := "()V" } : Jvm.MethodName) object_method_1_code (1 : Nat) (Option.none : Option Jvm.ClassFile.FieldType), Jvm.Cond.code ({ cls := "RoomPlanner", name := "clampRooms", desc := "(I)I" } : Jvm.MethodName) prog_1_method_18_code (2 : Nat) (Option.some Jvm.ClassFile.FieldType.int), Jvm.Cond.code ({ cls := "RoomPlanner", name := "computeRoomTables", desc := "()V" } : Jvm.MethodName) prog_1_method_19_code (4 : Nat) (Option.none : Option Jvm.ClassFile.FieldType), Jvm.Cond.code ({ cls := "RoomPlanner", name := "resetStays", desc := "()V" } : Jvm.MethodName) prog_1_method_28_code (2 : Nat) (Option.none : Option Jvm.ClassFile.FieldType), Jvm.Cond.code ({ cls := "RoomPlanner", name := "resetCounts", desc := "()V" } : Jvm.MethodName) prog_1_method_35_code (2 : Nat) (Option.none : Option Jvm.ClassFile.FieldType), Jvm.Cond.code ({ cls := "RoomPlanner", name := "clearPlan", desc := "()V" } : Jvm.MethodName) prog_1_method_47_code (2 : Nat) (Option.none : Option Jvm.ClassFile.FieldType), Jvm.Cond.code ({ cls := "RoomPlanner", name := "assign", desc := "()I" } : Jvm.MethodName) prog_1_method_13_code (5 : Nat) (Option.some Jvm.ClassFile.FieldType.int), Jvm.Cond.code ({ cls := "RoomPlanner", name := "discardPlan", desc := "()V" } : Jvm.MethodName) prog_1_method_46_code (1 : Nat) (Option.none : Option Jvm.ClassFile.FieldType), Jvm.Cond.code ({ cls := "RoomPlanner", name := "buildOrder", desc := "()V" } : Jvm.MethodName) prog_1_method_50_code (3 : Nat) (Option.none : Option Jvm.ClassFile.FieldType), Jvm.Cond.code ({ cls := "RoomPlanner", name := "stayType", desc := "(I)I" } : Jvm.MethodName) prog_1_method_9_code (2 : Nat) (Option.some Jvm.ClassFile.FieldType.int), Jvm.Cond.code ({ cls := "RoomPlanner", name := "isActiveStay", desc := "(I)Z" } : Jvm.MethodName) prog_1_method_26_code (2 : Nat) (Option.some Jvm.ClassFile.FieldType.boolean), Jvm.Cond.code ({ cls := "RoomPlanner", name := "occupancy", desc := "(II)I" } : Jvm.MethodName) prog_1_method_8_code (3 : Nat) (Option.some Jvm.ClassFile.FieldType.int), Jvm.Cond.code ({ cls := "RoomPlanner", name := "isValidType", desc := "(I)Z" } : Jvm.MethodName) prog_1_method_23_code (2 : Nat) (Option.some Jvm.ClassFile.FieldType.boolean), Jvm.Cond.code ({ cls := "RoomPlanner", name := "isValidNight", desc := "(I)Z" } : Jvm.MethodName) prog_1_method_24_code (2 : Nat) (Option.some Jvm.ClassFile.FieldType.boolean), Jvm.Cond.code ({ cls := "RoomPlanner", name := "exactAt", desc := "(II)I" } : Jvm.MethodName) prog_1_method_37_code (3 : Nat) (Option.some Jvm.ClassFile.FieldType.int), Jvm.Cond.code ({ cls := "RoomPlanner", name := "countIndex", desc := "(II)I" } : Jvm.MethodName) prog_1_method_36_code (3 : Nat) (Option.some Jvm.ClassFile.FieldType.int), Jvm.Cond.code ({ cls := "RoomPlanner", name := "available", desc := "(II)I" } : Jvm.MethodName) prog_1_method_7_code (3 : Nat) (Option.some Jvm.ClassFile.FieldType.int), Jvm.Cond.code ({ cls := "RoomPlanner", name := "minSlack", desc := "(II)I" } : Jvm.MethodName) prog_1_method_41_code (6 : Nat) (Option.some Jvm.ClassFile.FieldType.int), Jvm.Cond.code ({ cls := "RoomPlanner", name := "slackOf", desc := "(II)I" } : Jvm.MethodName) prog_1_method_40_code (5 : Nat) (Option.some Jvm.ClassFile.FieldType.int), Jvm.Cond.code ({ cls := "RoomPlanner", name := "roomsFrom", desc := "(I)I" } : Jvm.MethodName) prog_1_method_22_code (2 : Nat) (Option.some Jvm.ClassFile.FieldType.int), Jvm.Cond.code ({ cls := "RoomPlanner", name := "atLeastAt", desc := "(II)I" } : Jvm.MethodName) prog_1_method_38_code (3 : Nat) (Option.some Jvm.ClassFile.FieldType.int), Jvm.Cond.code ({ cls := "RoomPlanner", name := "activeCount", desc := "()I" } : Jvm.MethodName) prog_1_method_12_code (1 : Nat) (Option.some Jvm.ClassFile.FieldType.int), Jvm.Cond.code ({ cls := "RoomPlanner", name := "isAssigned", desc := "()Z" } : Jvm.MethodName) prog_1_method_14_code (1 : Nat) (Option.some Jvm.ClassFile.FieldType.boolean), Jvm.Cond.code ({ cls := "RoomPlanner", name := "canBook", desc := "(III)Z" } : Jvm.MethodName) prog_1_method_5_code (4 : Nat) (Option.some Jvm.ClassFile.FieldType.boolean), Jvm.Cond.code ({ cls := "RoomPlanner", name := "requestError", desc := "(III)I" } : Jvm.MethodName) prog_1_method_27_code (4 : Nat) (Option.some Jvm.ClassFile.FieldType.int), Jvm.Cond.code ({ cls := "RoomPlanner", name := "isValidLength", desc := "(II)Z" } : Jvm.MethodName) prog_1_method_25_code (3 : Nat) (Option.some Jvm.ClassFile.FieldType.boolean), Jvm.Cond.code ({ cls := "RoomPlanner", name := "fitsWith", desc := "(IIII)Z" } : Jvm.MethodName) prog_1_method_44_code (7 : Nat) (Option.some Jvm.ClassFile.FieldType.boolean), Jvm.Cond.code ({ cls := "RoomPlanner", name := "endOf", desc := "(II)I" } : Jvm.MethodName) prog_1_method_34_code (4 : Nat) (Option.some Jvm.ClassFile.FieldType.int), Jvm.Cond.code ({ cls := "RoomPlanner", name := "nightFits", desc := "(III)Z" } : Jvm.MethodName) prog_1_method_43_code (8 : Nat) (Option.some Jvm.ClassFile.FieldType.boolean), Jvm.Cond.code ({ cls := "RoomPlanner", name := "exclusion", desc := "(III)I" } : Jvm.MethodName) prog_1_method_42_code (4 : Nat) (Option.some Jvm.ClassFile.FieldType.int), Jvm.Cond.code ({ cls := "RoomPlanner", name := "book", desc := "(III)I" } : Jvm.MethodName) prog_1_method_2_code (6 : Nat) (Option.some Jvm.ClassFile.FieldType.int), Jvm.Cond.code ({ cls := "RoomPlanner", name := "lowestInactiveSlot", desc := "()I" } : Jvm.MethodName) prog_1_method_29_code (2 : Nat) (Option.some Jvm.ClassFile.FieldType.int), Jvm.Cond.code ({ cls := "RoomPlanner", name := "activateStay", desc := "(IIII)V" } : Jvm.MethodName) prog_1_method_31_code (5 : Nat) (Option.none : Option Jvm.ClassFile.FieldType), Jvm.Cond.code ({ cls := "RoomPlanner", name := "storeStay", desc := "(IIII)V" } : Jvm.MethodName) prog_1_method_30_code (5 : Nat) (Option.none : Option Jvm.ClassFile.FieldType), Jvm.Cond.code ({ cls := "RoomPlanner", name := "adjustCoverage", desc := "(II)V" } : Jvm.MethodName) prog_1_method_39_code (8 : Nat) (Option.none : Option Jvm.ClassFile.FieldType), Jvm.Cond.code ({ cls := "RoomPlannerL6", name := "lowestFree", desc := "(I)I" } : Jvm.MethodName) method_3_code (2 : Nat) (Option.some Jvm.ClassFile.FieldType.int), Jvm.Cond.code ({ cls := "RoomPlanner", name := "stayArrive", desc := "(I)I" } : Jvm.MethodName) prog_1_method_10_code (2 : Nat) (Option.some Jvm.ClassFile.FieldType.int), Jvm.Cond.code ({ cls := "RoomPlanner", name := "stayNights", desc := "(I)I" } : Jvm.MethodName) prog_1_method_11_code (2 : Nat) (Option.some Jvm.ClassFile.FieldType.int), Jvm.Cond.code ({ cls := "RoomPlanner", name := "cancel", desc := "(I)I" } : Jvm.MethodName) prog_1_method_4_code (2 : Nat) (Option.some Jvm.ClassFile.FieldType.int), Jvm.Cond.code ({ cls := "RoomPlanner", name := "deactivateStay", desc := "(I)V" } : Jvm.MethodName) prog_1_method_32_code (2 : Nat) (Option.none : Option Jvm.ClassFile.FieldType), Jvm.Cond.code ({ cls := "RoomPlanner", name := "amend", desc := "(IIII)I" } : Jvm.MethodName) prog_1_method_3_code (6 : Nat) (Option.some Jvm.ClassFile.FieldType.int), Jvm.Cond.code ({ cls := "RoomPlanner", name := "appendToOrder", desc := "(I)V" } : Jvm.MethodName) prog_1_method_51_code (2 : Nat) (Option.none : Option Jvm.ClassFile.FieldType), Jvm.Cond.code ({ cls := "RoomPlanner", name := "placeStay", desc := "(I)Z" } : Jvm.MethodName) prog_1_method_52_code (6 : Nat) (Option.some Jvm.ClassFile.FieldType.boolean), Jvm.Cond.code ({ cls := "RoomPlanner", name := "roomIsFree", desc := "(III)Z" } : Jvm.MethodName) prog_1_method_53_code (6 : Nat) (Option.some Jvm.ClassFile.FieldType.boolean), Jvm.Cond.code ({ cls := "RoomPlanner", name := "gridAt", desc := "(II)I" } : Jvm.MethodName) prog_1_method_49_code (3 : Nat) (Option.some Jvm.ClassFile.FieldType.int), Jvm.Cond.code ({ cls := "RoomPlanner", name := "gridIndex", desc := "(II)I" } : Jvm.MethodName) prog_1_method_48_code (3 : Nat) (Option.some Jvm.ClassFile.FieldType.int), Jvm.Cond.code ({ cls := "RoomPlanner", name := "markRoom", desc := "(IIII)V" } : Jvm.MethodName) prog_1_method_54_code (7 : Nat) (Option.none : Option Jvm.ClassFile.FieldType), Jvm.Cond.code ({ cls := "RoomPlanner", name := "coversNight", desc := "(II)Z" } : Jvm.MethodName) prog_1_method_33_code (4 : Nat) (Option.some Jvm.ClassFile.FieldType.boolean)]
set_option maxRecDepth 65536 in
theorem codes_eq : words1.filter isCode = codes1 := rfl
theorem w_codes : ∀ c ∈ words1.filter isCode, c.before args0 about1 = true := by
  rw [codes_eq]
  intro c hc
  simp only [codes1, List.mem_cons, List.not_mem_nil, or_false] at hc
  rcases hc with rfl | rfl | rfl | rfl | rfl | rfl | rfl | rfl | rfl | rfl | rfl | rfl | rfl | rfl | rfl | rfl | rfl | rfl | rfl | rfl | rfl | rfl | rfl | rfl | rfl | rfl | rfl | rfl | rfl | rfl | rfl | rfl | rfl | rfl | rfl | rfl | rfl | rfl | rfl | rfl | rfl | rfl | rfl | rfl | rfl | rfl | rfl | rfl | rfl | rfl
  · exact w_c0
  · exact w_c1
  · exact w_c2
  · exact w_c3
  · exact w_c4
  · exact w_c5
  · exact w_c6
  · exact w_c7
  · exact w_c8
  · exact w_c9
  · exact w_c10
  · exact w_c11
  · exact w_c12
  · exact w_c13
  · exact w_c14
  · exact w_c15
  · exact w_c16
  · exact w_c17
  · exact w_c18
  · exact w_c19
  · exact w_c20
  · exact w_c21
  · exact w_c22
  · exact w_c23
  · exact w_c24
  · exact w_c25
  · exact w_c26
  · exact w_c27
  · exact w_c28
  · exact w_c29
  · exact w_c30
  · exact w_c31
  · exact w_c32
  · exact w_c33
  · exact w_c34
  · exact w_c35
  · exact w_c36
  · exact w_c37
  · exact w_c38
  · exact w_c39
  · exact w_c40
  · exact w_c41
  · exact w_c42
  · exact w_c43
  · exact w_c44
  · exact w_c45
  · exact w_c46
  · exact w_c47
  · exact w_c48
  · exact w_c49
set_option maxRecDepth 65536 in
theorem w_t1 : (words1.take 24).all (fun c => isCode c || c.before args0 about1) = true := by decide +kernel
set_option maxRecDepth 65536 in
theorem w_t2 : ((words1.drop 24).take 24).all (fun c => isCode c || c.before args0 about1) = true := by decide +kernel
set_option maxRecDepth 65536 in
theorem w_t3 : (((words1.drop 24).drop 24).take 24).all (fun c => isCode c || c.before args0 about1) = true := by decide +kernel
set_option maxRecDepth 65536 in
theorem w_t4 : ((((words1.drop 24).drop 24).drop 24).take 24).all (fun c => isCode c || c.before args0 about1) = true := by decide +kernel
set_option maxRecDepth 65536 in
theorem w_t5 : (((((words1.drop 24).drop 24).drop 24).drop 24).take 24).all (fun c => isCode c || c.before args0 about1) = true := by decide +kernel
set_option maxRecDepth 65536 in
theorem w_t6 : ((((((words1.drop 24).drop 24).drop 24).drop 24).drop 24).take 24).all (fun c => isCode c || c.before args0 about1) = true := by decide +kernel
set_option maxRecDepth 65536 in
theorem w_t7 : (((((((words1.drop 24).drop 24).drop 24).drop 24).drop 24).drop 24).take 24).all (fun c => isCode c || c.before args0 about1) = true := by decide +kernel
set_option maxRecDepth 65536 in
theorem w_t8 : ((((((((words1.drop 24).drop 24).drop 24).drop 24).drop 24).drop 24).drop 24).take 24).all (fun c => isCode c || c.before args0 about1) = true := by decide +kernel
set_option maxRecDepth 65536 in
theorem w_t9 : (((((((((words1.drop 24).drop 24).drop 24).drop 24).drop 24).drop 24).drop 24).drop 24).take 24).all (fun c => isCode c || c.before args0 about1) = true := by decide +kernel
set_option maxRecDepth 65536 in
theorem w_t10 : ((((((((((words1.drop 24).drop 24).drop 24).drop 24).drop 24).drop 24).drop 24).drop 24).drop 24).take 24).all (fun c => isCode c || c.before args0 about1) = true := by decide +kernel
set_option maxRecDepth 65536 in
theorem w_t11 : ((((((((((words1.drop 24).drop 24).drop 24).drop 24).drop 24).drop 24).drop 24).drop 24).drop 24).drop 24).all (fun c => isCode c || c.before args0 about1) = true := by decide +kernel
theorem w_tables : (allAtoms (Jvm.Cond.code x code maxLocals ret :: tables_1)).before args0 about1 = true := by
  rw [allAtoms_all]
  show words1.all (fun c => c.before args0 about1) = true
  refine all_split ?_ w_codes
  rw [← List.take_append_drop 24 words1, List.all_append, w_t1, ← List.take_append_drop 24 (words1.drop 24), List.all_append, w_t2, ← List.take_append_drop 24 ((words1.drop 24).drop 24), List.all_append, w_t3, ← List.take_append_drop 24 (((words1.drop 24).drop 24).drop 24), List.all_append, w_t4, ← List.take_append_drop 24 ((((words1.drop 24).drop 24).drop 24).drop 24), List.all_append, w_t5, ← List.take_append_drop 24 (((((words1.drop 24).drop 24).drop 24).drop 24).drop 24), List.all_append, w_t6, ← List.take_append_drop 24 ((((((words1.drop 24).drop 24).drop 24).drop 24).drop 24).drop 24), List.all_append, w_t7, ← List.take_append_drop 24 (((((((words1.drop 24).drop 24).drop 24).drop 24).drop 24).drop 24).drop 24), List.all_append, w_t8, ← List.take_append_drop 24 ((((((((words1.drop 24).drop 24).drop 24).drop 24).drop 24).drop 24).drop 24).drop 24), List.all_append, w_t9, ← List.take_append_drop 24 (((((((((words1.drop 24).drop 24).drop 24).drop 24).drop 24).drop 24).drop 24).drop 24).drop 24), List.all_append, w_t10, w_t11]
  rfl
set_option maxRecDepth 65536 in
theorem w_rest : rest_1_c.before args0 about1 = true := by decide +kernel
set_option maxRecDepth 65536 in
theorem w_case : (Jvm.Cond.and given_1 narrow_1).before args0 about1 = true := by decide +kernel
theorem w_applies : (headSpec (Jvm.Cond.code x code maxLocals ret :: tables_1) room_1).applies x e0.platform about1 = true :=
  (Spec.applies_iff w_frames).mpr ⟨w_running, w_runnable, w_alone, w_named, w_hears, w_ripe, w_room, w_tables⟩
theorem atStart : AtStart classFile x code maxLocals ret World_1 tables_1 room_1 Calls_1 rest_1 Pre_1 launch0 p0 e0 about1 theMethod args0 below0 :=
  ⟨lists_1, trivial, launch0.admits_env _ _ _, launch0.least_env, fairChoices_fair.cas, fairChoices_fair.clock, w_frames, w_args, w_heap, w_applies, trivial, w_rest, w_case⟩
end start1
theorem witness_1 : WitnessClaimed_1 := ⟨start1.p0, start1.e0, start1.about1, start1.theMethod, start1.args0, start1.below0, start1.atStart⟩
end Jvm.Pilot.@@N@@
