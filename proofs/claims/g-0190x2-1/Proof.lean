import JvmDerived
import JvmDerived.Pilot.@@N@@Statement
import JvmDerived.Pilot.@@N@@Code
set_option linter.unusedVariables false
set_option linter.unusedSimpArgs false
namespace Jvm.Own
open Jvm Jvm.ClassFile Sem Op Lib Jvm.Free Jvm.Stand Jvm.LawKit Jvm.RoadKit Bundle

/-! A plain machine: the few instructions that these classes use, over a heap of plain lists. -/
/-- an object (class number, fields in order) | an int array (false) or boolean array (true) | a long array -/
abbrev ACell := (Nat × List Value) ⊕ ((Bool × List Int32) ⊕ List Int64)
abbrev AHeap := List ACell
/-- instruction, length, variables forgotten ahead of it, link number, constant -/
abbrev It := Instr × Nat × List Bool × Nat × Int
/-- a field: name, descriptor, type, final -/
abbrev FD := String × String × FieldType × Bool
/-- a class: name, number of its slots, its fields -/
abbrev CD := String × Nat × List FD
/-- a method: name, bytes, variables, return type; kind (0 static, 1 constructor, 2 private, 3 virtual), parameters, class number, frames, words; code -/
abbrev MD := MethodName × ByteArray × Nat × Option FieldType × Nat × Nat × Nat × Nat × Nat × List (Nat × It)
/-- classes, methods, number of cells that are only read -/
abbrev PD := List CD × List MD × Nat
abbrev PD.cls (P : PD) : List CD := P.1
abbrev PD.mth (P : PD) : List MD := P.2.1
abbrev PD.nr (P : PD) : Nat := P.2.2
abbrev MD.name (d : MD) : MethodName := d.1
abbrev MD.bytes (d : MD) : ByteArray := d.2.1
abbrev MD.maxL (d : MD) : Nat := d.2.2.1
abbrev MD.ret (d : MD) : Option FieldType := d.2.2.2.1
abbrev MD.kind (d : MD) : Nat := d.2.2.2.2.1
abbrev MD.npar (d : MD) : Nat := d.2.2.2.2.2.1
abbrev MD.cid (d : MD) : Nat := d.2.2.2.2.2.2.1
abbrev MD.rf (d : MD) : Nat := d.2.2.2.2.2.2.2.1
abbrev MD.rw (d : MD) : Nat := d.2.2.2.2.2.2.2.2.1
abbrev MD.code (d : MD) : List (Nat × It) := d.2.2.2.2.2.2.2.2.2

def rdA {α : Type} (L : List α) (j : Int32) : Option α := if j < 0 then none else L[j.toNatClampNeg]?
def wrA {α : Type} (L : List α) (j : Int32) (x : α) : Option (List α) := if j < 0 then none else if j.toNatClampNeg < L.length then some (L.set j.toNatClampNeg x) else none
def getL (L : List Slot) (k : Nat) : Option Value := match L[k]? with | some (.val v) => some v | _ => none
def isC2 : Option Slot → Bool | some (.val v) => v.category == 2 | _ => false
def isSec : Option Slot → Bool | some .second => true | _ => false
def free1 : Option Slot → Bool | some .unset => true | some (.val v) => v.category == 1 | _ => false
def st1 (L : List Slot) (k : Nat) (v : Value) : Option (List Slot) :=
  if free1 L[k]? && (k == 0 || !isC2 L[k - 1]?) && !isSec L[k + 1]? then some (L.set k (.val v)) else none
def free2 : Option Slot → Option Slot → Bool | some .unset, some .unset => true | some (.val v), some .second => v.category == 2 | _, _ => false
def st2 (L : List Slot) (k : Nat) (v : Value) : Option (List Slot) :=
  if free2 L[k]? L[k + 1]? && (k == 0 || !isC2 L[k - 1]?) && !isSec L[k + 2]? then some ((L.set k (.val v)).set (k + 1) .second) else none
def forget : List Bool → List Slot → List Slot
  | [], L => L
  | _ :: _, [] => []
  | true :: r, _ :: L => .unset :: forget r L
  | false :: r, s :: L => s :: forget r L
def catSum : List Value → Nat
  | [] => 0
  | v :: r => v.category + catSum r
def entA : List Value → List Slot
  | [] => []
  | v :: r => if v.category = 2 then .val v :: .second :: entA r else .val v :: entA r
def entL (as : List Value) (n : Nat) : List Slot := entA as ++ List.replicate (n - (entA as).length) .unset
def putOk : FieldType → Value → Bool
  | .int, .int _ => true
  | .long, .long _ => true
  | .boolean, .int x => (x == 0) || (x == 1)
  | .array _, .ref _ => true
  | _, _ => false
def dflt : FieldType → Value
  | .long => .long 0
  | .array _ => .null
  | _ => .int 0
def dfOk : FieldType → Bool
  | .int => true
  | .boolean => true
  | .long => true
  | .array _ => true
  | _ => false
def tgt (pc : Nat) (o : Int) : Option Nat := if 0 ≤ (pc : Int) + o then some ((pc : Int) + o).toNat else none
def fetch : List (Nat × It) → Nat → Option It
  | [], _ => none
  | (q, i) :: r, pc => if q = pc then some i else fetch r pc
/-- one instruction that neither branches nor calls nor returns -/
def xI (P : PD) (ini : Bool) (cid : Nat) (i : Instr) (a : Nat) (b : Int) (L : List Slot) (S : List Value) (H : AHeap) : Option (List Slot × List Value × AHeap) :=
  match i with
  | .aload_n k => match getL L k.val with | some (.ref x) => some (L, .ref x :: S, H) | _ => none
  | .aload k => match getL L k with | some (.ref x) => some (L, .ref x :: S, H) | _ => none
  | .iload_n k => match getL L k.val with | some (.int x) => some (L, .int x :: S, H) | _ => none
  | .iload k => match getL L k with | some (.int x) => some (L, .int x :: S, H) | _ => none
  | .lload_n k => match getL L k.val with | some (.long x) => some (L, .long x :: S, H) | _ => none
  | .lload k => match getL L k with | some (.long x) => some (L, .long x :: S, H) | _ => none
  | .istore_n k => match S with | .int x :: S' => (st1 L k.val (.int x)).map fun L' => (L', S', H) | _ => none
  | .istore k => match S with | .int x :: S' => (st1 L k (.int x)).map fun L' => (L', S', H) | _ => none
  | .astore_n k => match S with | .ref x :: S' => (st1 L k.val (.ref x)).map fun L' => (L', S', H) | _ => none
  | .astore k => match S with | .ref x :: S' => (st1 L k (.ref x)).map fun L' => (L', S', H) | _ => none
  | .lstore_n k => match S with | .long x :: S' => (st2 L k.val (.long x)).map fun L' => (L', S', H) | _ => none
  | .lstore k => match S with | .long x :: S' => (st2 L k (.long x)).map fun L' => (L', S', H) | _ => none
  | .iinc k d => match getL L k with | some (.int x) => (st1 L k (.int (x + Int32.ofInt d))).map fun L' => (L', S, H) | _ => none
  | .iconst d => some (L, .int (Int32.ofInt d) :: S, H)
  | .bipush d => some (L, .int (Int8.ofInt d).toInt32 :: S, H)
  | .sipush d => some (L, .int (Int16.ofInt d).toInt32 :: S, H)
  | .lconst k => some (L, .long (Int64.ofNat k) :: S, H)
  | .ldc _ => some (L, .int (Int32.ofInt b) :: S, H)
  | .ldc2_w _ => some (L, .long (Int64.ofInt b) :: S, H)
  | .iadd => match S with | .int y :: .int x :: S' => some (L, .int (x + y) :: S', H) | _ => none
  | .isub => match S with | .int y :: .int x :: S' => some (L, .int (x - y) :: S', H) | _ => none
  | .imul => match S with | .int y :: .int x :: S' => some (L, .int (x * y) :: S', H) | _ => none
  | .iand => match S with | .int y :: .int x :: S' => some (L, .int (x &&& y) :: S', H) | _ => none
  | .ior => match S with | .int y :: .int x :: S' => some (L, .int (x ||| y) :: S', H) | _ => none
  | .ixor => match S with | .int y :: .int x :: S' => some (L, .int (x ^^^ y) :: S', H) | _ => none
  | .ishl => match S with | .int y :: .int x :: S' => some (L, .int (x <<< (y &&& 31)) :: S', H) | _ => none
  | .ishr => match S with | .int y :: .int x :: S' => some (L, .int (x >>> (y &&& 31)) :: S', H) | _ => none
  | .iushr => match S with | .int y :: .int x :: S' => some (L, .int (XT.ushr x y) :: S', H) | _ => none
  | .idiv => match S with | .int y :: .int x :: S' => if y = 0 then none else some (L, .int (x / y) :: S', H) | _ => none
  | .irem => match S with | .int y :: .int x :: S' => if y = 0 then none else some (L, .int (x % y) :: S', H) | _ => none
  | .ladd => match S with | .long y :: .long x :: S' => some (L, .long (x + y) :: S', H) | _ => none
  | .lsub => match S with | .long y :: .long x :: S' => some (L, .long (x - y) :: S', H) | _ => none
  | .lmul => match S with | .long y :: .long x :: S' => some (L, .long (x * y) :: S', H) | _ => none
  | .land => match S with | .long y :: .long x :: S' => some (L, .long (x &&& y) :: S', H) | _ => none
  | .lor => match S with | .long y :: .long x :: S' => some (L, .long (x ||| y) :: S', H) | _ => none
  | .lxor => match S with | .long y :: .long x :: S' => some (L, .long (x ^^^ y) :: S', H) | _ => none
  | .lshl => match S with | .int y :: .long x :: S' => some (L, .long (x <<< (y.toInt64 &&& 63)) :: S', H) | _ => none
  | .lshr => match S with | .int y :: .long x :: S' => some (L, .long (x >>> (y.toInt64 &&& 63)) :: S', H) | _ => none
  | .lushr => match S with | .int y :: .long x :: S' => some (L, .long (XT.ushrL x y) :: S', H) | _ => none
  | .ldiv => match S with | .long y :: .long x :: S' => if y = 0 then none else some (L, .long (x / y) :: S', H) | _ => none
  | .lrem => match S with | .long y :: .long x :: S' => if y = 0 then none else some (L, .long (x % y) :: S', H) | _ => none
  | .lcmp => match S with | .long y :: .long x :: S' => some (L, .int (XT.cmpL x y) :: S', H) | _ => none
  | .i2l => match S with | .int x :: S' => some (L, .long x.toInt64 :: S', H) | _ => none
  | .l2i => match S with | .long x :: S' => some (L, .int x.toInt32 :: S', H) | _ => none
  | .dup => match S with
    | .int x :: S' => some (L, .int x :: .int x :: S', H)
    | .ref x :: S' => some (L, .ref x :: .ref x :: S', H)
    | _ => none
  | .dup2 => match S with
    | .int x :: .ref y :: S' => some (L, .int x :: .ref y :: .int x :: .ref y :: S', H)
    | .long x :: S' => some (L, .long x :: .long x :: S', H)
    | _ => none
  | .pop => match S with | .int _ :: S' => some (L, S', H) | _ => none
  | .getfield _ => match S with
    | .ref o :: S' => match H[o]? with
      | some (.inl (c, fs)) => if c = cid then match fs[a]? with
        | some (.int x) => some (L, .int x :: S', H)
        | some (.long x) => some (L, .long x :: S', H)
        | some (.ref x) => some (L, .ref x :: S', H)
        | _ => none
        else none
      | _ => none
    | _ => none
  | .putfield _ => match S with
    | v :: .ref o :: S' => match H[o]? with
      | some (.inl (c, fs)) => if c = cid ∧ P.nr ≤ o then match (P.cls[c]?).bind fun cd => cd.2.2[a]? with
        | some (_, _, ty, fin) => if putOk ty v && (!fin || ini) then some (L, S', H.set o (.inl (c, fs.set a v))) else none
        | none => none
        else none
      | _ => none
    | _ => none
  | .iaload => match S with
    | .int j :: .ref o :: S' => match H[o]? with
      | some (.inr (.inl (false, A))) => (rdA A j).map fun x => (L, .int x :: S', H)
      | _ => none
    | _ => none
  | .baload => match S with
    | .int j :: .ref o :: S' => match H[o]? with
      | some (.inr (.inl (true, A))) => (rdA A j).map fun x => (L, .int x :: S', H)
      | _ => none
    | _ => none
  | .laload => match S with
    | .int j :: .ref o :: S' => match H[o]? with
      | some (.inr (.inr A)) => (rdA A j).map fun x => (L, .long x :: S', H)
      | _ => none
    | _ => none
  | .iastore => match S with
    | .int x :: .int j :: .ref o :: S' => match H[o]? with
      | some (.inr (.inl (false, A))) => if P.nr ≤ o then (wrA A j x).map fun A' => (L, S', H.set o (.inr (.inl (false, A')))) else none
      | _ => none
    | _ => none
  | .bastore => match S with
    | .int x :: .int j :: .ref o :: S' => match H[o]? with
      | some (.inr (.inl (true, A))) => if P.nr ≤ o then (wrA A j (x &&& 1)).map fun A' => (L, S', H.set o (.inr (.inl (true, A')))) else none
      | _ => none
    | _ => none
  | .lastore => match S with
    | .long x :: .int j :: .ref o :: S' => match H[o]? with
      | some (.inr (.inr A)) => if P.nr ≤ o then (wrA A j x).map fun A' => (L, S', H.set o (.inr (.inr A'))) else none
      | _ => none
    | _ => none
  | .arraylength => match S with
    | .ref o :: S' => match H[o]? with
      | some (.inr (.inl (_, A))) => some (L, .int A.length.toInt32 :: S', H)
      | _ => none
    | _ => none
  | _ => none
/-- one instruction that makes a cell: how many slots it takes stands last -/
def xN (P : PD) (i : Instr) (a : Nat) (S : List Value) (H : AHeap) : Option (List Value × AHeap × Nat) :=
  match i with
  | .new _ => match P.cls[a]? with
    | some cd => some (.ref H.length :: S, H ++ [.inl (a, cd.2.2.map fun f => dflt f.2.2.1)], cd.2.1)
    | none => none
  | .newarray t => match S with
    | .int n :: S' => if n < 0 ∨ 100000 < n.toNatClampNeg then none else match t with
      | .int => some (.ref H.length :: S', H ++ [.inr (.inl (false, List.replicate n.toNatClampNeg 0))], n.toNatClampNeg)
      | .boolean => some (.ref H.length :: S', H ++ [.inr (.inl (true, List.replicate n.toNatClampNeg 0))], n.toNatClampNeg)
      | .long => some (.ref H.length :: S', H ++ [.inr (.inr (List.replicate n.toNatClampNeg 0))], n.toNatClampNeg)
      | _ => none
    | _ => none
  | _ => none
/-- the words that a call from d to y asks -/
def fitsRoom (d y : MD) (rest : List Value) : Bool := decide (y.rf + 1 ≤ d.rf) && decide (catSum rest + (y.maxL + 11) + y.rw ≤ d.rw)
/-- the arguments of a call, first to last, and what lies under them -/
def argsOf (n : Nat) (S : List Value) : Option (List Value × List Value) := if n ≤ S.length then some ((S.take n).reverse, S.drop n) else none
def recvOk (P : PD) (H : AHeap) (y : MD) (as : List Value) : Bool :=
  if y.kind = 0 then true else match as with
    | .ref o :: _ => match H[o]? with
      | some (.inl (c, _)) => decide (c = y.cid)
      | _ => false
    | _ => false
def nargs (y : MD) : Nat := if y.kind = 0 then y.npar else y.npar + 1
def invKind (i : Instr) (k : Nat) : Bool := match i with
  | .invokestatic _ => k == 0
  | .invokespecial _ => k == 1
  | .invokevirtual _ => k == 2 || k == 3
  | _ => false
/-- what a method returns of an int on its stack -/
def retV (r : Option FieldType) (x : Int32) : Option Value := match r with
  | some .int => some (.int x)
  | some .boolean => some (.int (x &&& 1))
  | _ => none
def isInv : Instr → Bool
  | .invokestatic _ => true
  | .invokespecial _ => true
  | .invokevirtual _ => true
  | _ => false
def isNew : Instr → Bool
  | .new _ => true
  | .newarray _ => true
  | _ => false
/-- what a run answers: what it returns, the heap, how many cells and slots it has made -/
abbrev Res := Option Value × AHeap × Nat × Nat
def addR (r : Res) (kc ks : Nat) : Res := (r.1, r.2.1, r.2.2.1 + kc, r.2.2.2 + ks)
/-- n instructions at the most, from pc of method mi to its return -/
def exe (P : PD) : Nat → Nat → Nat → List Slot → List Value → AHeap → Option Res
  | 0, _, _, _, _, _ => none
  | n + 1, mi, pc, L0, S, H => match P.mth[mi]? with
    | none => none
    | some d => match fetch d.code pc with
      | none => none
      | some (i, len, er, a, b) =>
        let L := forget er L0
        match i with
        | .goto o => match tgt pc o with
          | some q => exe P n mi q L S H
          | none => none
        | .if_icmp cd o => match S with
          | .int y :: .int x :: S' => if if_icmp.holds cd x y = true then match tgt pc o with
              | some q => exe P n mi q L S' H
              | none => none
            else exe P n mi (pc + 3) L S' H
          | _ => none
        | .ifCond cd o => match S with
          | .int x :: S' => if ifCond.holds cd x = true then match tgt pc o with
              | some q => exe P n mi q L S' H
              | none => none
            else exe P n mi (pc + 3) L S' H
          | _ => none
        | .ifnonnull o => match S with
          | .ref _ :: S' => match tgt pc o with
            | some q => exe P n mi q L S' H
            | none => none
          | _ => none
        | .ireturn => match S with
          | [.int x] => match retV d.ret x with
            | some v => some (some v, H, 0, 0)
            | none => none
          | _ => none
        | .lreturn => match S with
          | [.long x] => if d.ret = some .long then some (some (.long x), H, 0, 0) else none
          | _ => none
        | .return_ => match S with
          | [] => if d.ret = none then some (none, H, 0, 0) else none
          | _ => none
        | i => if isInv i = true then
            if b = -1 then match i, S with
              | .invokespecial _, .ref _ :: S' => if 1 ≤ d.rf ∧ catSum S' + 12 ≤ d.rw then exe P n mi (pc + 3) L S' H else none
              | _, _ => none
            else match P.mth[a]? with
              | none => none
              | some y => match argsOf (nargs y) S with
                | none => none
                | some (as, rest) =>
                  if decide (0 < a) && invKind i y.kind && recvOk P H y as && fitsRoom d y rest && decide ((entA as).length ≤ y.maxL) then
                    match exe P n a 0 (entL as y.maxL) [] H with
                    | some (v, H1, kc, ks) => (exe P n mi (pc + 3) L (v.toList ++ rest) H1).map fun r => addR r kc ks
                    | none => none
                  else none
          else if isNew i = true then match xN P i a S H with
            | some (S', H', ks) => (exe P n mi (pc + len) L S' H').map fun r => addR r 1 ks
            | none => none
          else match xI P (d.name.name == "<init>") d.cid i a b L S H with
            | some (L', S', H') => exe P n mi (pc + len) L' S' H'
            | none => none
end Jvm.Own
namespace Jvm.Own
open Jvm Jvm.ClassFile Sem Op Lib Jvm.Free Jvm.Stand Jvm.LawKit Jvm.RoadKit Bundle

/-! The words that the machine's program rests on -/
def fWord (C : String) (f : FD) : Jvm.Cond := if f.2.2.2 then .laysFinal C C f.1 f.2.1 else .lays C C f.1 f.2.1
def cWords (cd : CD) : List Jvm.Cond := .instantiable cd.1 cd.2.1 :: .initialized cd.1 :: cd.2.2.map (fWord cd.1)
def mWords (y : MD) : List Jvm.Cond := .code y.name y.bytes y.maxL y.ret :: .initialized y.name.cls ::
  (if y.kind = 0 then [.static y.name] else if y.kind = 1 then [.instanceMethod y.name] else if y.kind = 2 then [.instanceMethod y.name, .privateMethod y.name]
   else [.declares y.name, .selects y.name.cls y.name y.name, .instanceMethod y.name])
def fieldOf (P : PD) (c a : Nat) : Option FD := (P.cls[c]?).bind fun cd => cd.2.2[a]?
def fLink (P : PD) (d : MD) (k a : Nat) : List Jvm.Cond := match fieldOf P d.cid a with | some f => [.fieldLink d.name.cls k d.name.cls f.1 f.2.1] | none => []
def mLink (P : PD) (d : MD) (k a : Nat) (b : Int) : List Jvm.Cond :=
  if b = -1 then [.methodLink d.name.cls k Lib.objectInit, .instanceMethod Lib.objectInit, .code Lib.objectInit ⟨#[0xb1]⟩ 1 none]
  else match P.mth[a]? with | some y => [.methodLink d.name.cls k y.name] | none => []
def iWords (P : PD) (d : MD) (x : Nat × It) : List Jvm.Cond := match x with
  | (_, .getfield k, _, _, a, _) => fLink P d k a
  | (_, .putfield k, _, _, a, _) => fLink P d k a
  | (_, .ldc k, _, _, _, b) => [.constant d.name.cls k (Int32.ofInt b)]
  | (_, .ldc2_w k, _, _, _, b) => [.constantLong d.name.cls k (Int64.ofInt b)]
  | (_, .new k, _, _, a, _) => match P.cls[a]? with | some cd => [.classLink d.name.cls k cd.1] | none => []
  | (_, .newarray t, _, _, _, _) => [.arrayClass (newarray.typeOf t)]
  | (_, .invokestatic k, _, _, a, b) => mLink P d k a b
  | (_, .invokespecial k, _, _, a, b) => mLink P d k a b
  | (_, .invokevirtual k, _, _, a, b) => mLink P d k a b
  | _ => []
def wordsOf (P : PD) : List Jvm.Cond := P.cls.flatMap cWords ++ (P.mth.drop 1).flatMap mWords ++ P.mth.flatMap fun d => d.code.flatMap (iWords P d)
/-! What can be looked up in the program itself -/
def nodup : List String → Bool
  | [] => true
  | x :: r => !r.contains x && nodup r
def fChk (f : FD) : Bool := decide (parseFieldDescriptor f.2.1 = some f.2.2.1) && dfOk f.2.2.1
def cChk (cd : CD) : Bool := nodup (cd.2.2.map fun f => f.1) && cd.2.2.all fChk
def sigChk (y : MD) : Bool := match parseMethodDescriptor y.name.desc with
  | some g => decide (g.parameters.length = y.npar)
  | none => false
def lenOk (i : Instr) (n : Nat) : Bool := match i with
  | .aload _ | .iload _ | .lload _ | .istore _ | .astore _ | .lstore _ | .bipush _ | .ldc _ | .newarray _ => n == 2
  | .iinc _ _ | .sipush _ | .ldc2_w _ | .getfield _ | .putfield _ | .new _ | .goto _ | .if_icmp _ _ | .ifCond _ _ | .ifnonnull _ | .invokestatic _ | .invokespecial _ | .invokevirtual _ => n == 3
  | _ => n == 1
def codeChk (y : MD) : Bool := y.code.all fun x => decide (decode y.bytes x.1 = .ok (x.2.1, x.2.2.1)) && lenOk x.2.1 x.2.2.1
def clsChk (P : PD) (y : MD) : Bool := match P.cls[y.cid]? with | some cd => cd.1 == y.name.cls | none => y.kind == 0
def mChk (P : PD) (y : MD) : Bool := plainName y.name.cls && sigChk y && codeChk y && clsChk P y && decide (y.name.cls ≠ "java/lang/invoke/MethodHandle") && decide (y.name.cls ≠ "java/lang/invoke/VarHandle") && (y.kind != 1 || (y.name.name == "<init>" && decide (y.ret = none)))
def chk (P : PD) : Bool := P.cls.all cChk && P.mth.all (mChk P)

/-! Plain and real values -/
def VR (ρ : List Addr) : Value → Value → Prop
  | .ref k, w => ∃ a, ρ[k]? = some a ∧ w = .ref a
  | v, w => w = v
def SR (ρ : List Addr) : List Value → List Value → Prop
  | [], ws => ws = []
  | v :: vs, ws => ∃ w ws', ws = w :: ws' ∧ VR ρ v w ∧ SR ρ vs ws'
def OV (ρ : List Addr) : Option Value → Option Value → Prop
  | none, w => w = none
  | some v, w => ∃ u, w = some u ∧ VR ρ v u
def WFc (A : Array Slot) : Prop := (∀ (i : Nat) w, A[i]? = some (.val w) → w.category = 2 → A[i + 1]? = some .second) ∧ ∀ (i : Nat), A[i]? = some .second → ∃ j w, i = j + 1 ∧ A[j]? = some (.val w) ∧ w.category = 2
def SlR (ρ : List Addr) : Slot → Option Slot → Prop
  | .unset, _ => True
  | .second, o => o = some .second
  | .val v, o => ∃ w, VR ρ v w ∧ o = some (.val w)
def LR (ρ : List Addr) (L : List Slot) (A : Array Slot) : Prop := A.size = L.length ∧ WFc A ∧ ∀ (i : Nat) s, L[i]? = some s → SlR ρ s A[i]?
theorem VR.mono {ρ t : List Addr} {v w : Value} (h : VR ρ v w) : VR (ρ ++ t) v w := by
  cases v <;> first | exact h | skip
  obtain ⟨a, h1, h2⟩ := h
  exact ⟨a, by rw [List.getElem?_append_left (List.getElem?_eq_some_iff.mp h1).1]; exact h1, h2⟩
theorem SR.mono {ρ t : List Addr} : ∀ {v w : List Value}, SR ρ v w → SR (ρ ++ t) v w
  | [], _, h => h
  | _ :: _, _, ⟨w, ws, h1, h2, h3⟩ => ⟨w, ws, h1, h2.mono, SR.mono h3⟩
theorem SlR.mono {ρ t : List Addr} {s : Slot} {o : Option Slot} (h : SlR ρ s o) : SlR (ρ ++ t) s o := by
  cases s with
  | unset => trivial
  | second => exact h
  | val v => obtain ⟨w, h1, h2⟩ := h; exact ⟨w, h1.mono, h2⟩
theorem LR.mono {ρ t : List Addr} {L : List Slot} {A : Array Slot} (h : LR ρ L A) : LR (ρ ++ t) L A := ⟨h.1, h.2.1, fun i s q => (h.2.2 i s q).mono⟩
theorem VR.cat {ρ : List Addr} {v w : Value} (h : VR ρ v w) : w.category = v.category := by
  cases v <;> first | (obtain ⟨a, -, rfl⟩ := h; rfl) | (cases h; rfl)
theorem SR.cat {ρ : List Addr} : ∀ {v w : List Value}, SR ρ v w → (w.map fun v => v.category).sum = catSum v
  | [], _, h => by cases h; rfl
  | _ :: _, _, ⟨w, ws, h1, h2, h3⟩ => by subst h1; simp [catSum, h2.cat, SR.cat h3]
theorem SR.len {ρ : List Addr} : ∀ {v w : List Value}, SR ρ v w → w.length = v.length
  | [], _, h => by cases h; rfl
  | _ :: _, _, ⟨w, ws, h1, h2, h3⟩ => by subst h1; simp [SR.len h3]
theorem SR.app {ρ : List Addr} : ∀ {v w v' w' : List Value}, SR ρ v w → SR ρ v' w' → SR ρ (v ++ v') (w ++ w')
  | [], _, _, _, h, h' => by cases h; exact h'
  | _ :: _, _, _, _, ⟨w, ws, h1, h2, h3⟩, h' => by subst h1; exact ⟨w, ws ++ _, rfl, h2, SR.app h3 h'⟩
theorem SR.rev {ρ : List Addr} : ∀ {v w : List Value}, SR ρ v w → SR ρ v.reverse w.reverse
  | [], _, h => by cases h; exact rfl
  | _ :: _, _, ⟨w, ws, h1, h2, h3⟩ => by subst h1; simp only [List.reverse_cons]; exact (SR.rev h3).app ⟨w, [], rfl, h2, rfl⟩
theorem SR.take {ρ : List Addr} : ∀ (n : Nat) {v w : List Value}, SR ρ v w → SR ρ (v.take n) (w.take n)
  | 0, _, _, _ => rfl
  | n + 1, [], _, h => by cases h; exact rfl
  | n + 1, _ :: _, _, ⟨w, ws, h1, h2, h3⟩ => by subst h1; exact ⟨w, _, rfl, h2, SR.take n h3⟩
theorem SR.drop {ρ : List Addr} : ∀ (n : Nat) {v w : List Value}, SR ρ v w → SR ρ (v.drop n) (w.drop n)
  | 0, _, _, h => h
  | n + 1, [], _, h => by cases h; exact rfl
  | n + 1, _ :: _, _, ⟨w, ws, h1, h2, h3⟩ => by subst h1; exact SR.drop n h3
theorem OV.list {ρ : List Addr} {v w : Option Value} (h : OV ρ v w) : SR ρ v.toList w.toList := by
  cases v with
  | none => cases h; exact rfl
  | some v => obtain ⟨u, rfl, h⟩ := h; exact ⟨u, [], rfl, h, rfl⟩
theorem LR.get {ρ : List Addr} {L : List Slot} {A : Array Slot} (h : LR ρ L A) {k : Nat} {v : Value} (g : getL L k = some v) : ∃ w, VR ρ v w ∧ A[k]? = some (.val w) := by
  unfold getL at g
  split at g
  · rename_i u q
    cases g
    exact h.2.2 k _ q
  · cases g
theorem forget_get : ∀ (er : List Bool) (L : List Slot) (i : Nat) (s : Slot), (forget er L)[i]? = some s → s = .unset ∨ L[i]? = some s
  | [], L, i, s, h => Or.inr h
  | _ :: _, [], i, s, h => by simp [forget] at h
  | true :: r, t :: L, 0, s, h => by simp [forget] at h; exact Or.inl h.symm
  | false :: r, t :: L, 0, s, h => by simp [forget] at h; exact Or.inr (by simp [h])
  | true :: r, t :: L, i + 1, s, h => by simp [forget] at h; simpa using forget_get r L i s h
  | false :: r, t :: L, i + 1, s, h => by simp [forget] at h; simpa using forget_get r L i s h
theorem forget_len : ∀ (er : List Bool) (L : List Slot), (forget er L).length = L.length
  | [], _ => rfl
  | _ :: _, [] => rfl
  | true :: r, _ :: L => by simp [forget, forget_len r L]
  | false :: r, _ :: L => by simp [forget, forget_len r L]
theorem LR.forget {ρ : List Addr} {A : Array Slot} (er : List Bool) {L : List Slot} (h : LR ρ L A) : LR ρ (forget er L) A :=
  ⟨by rw [forget_len]; exact h.1, h.2.1, fun i s q => by
    rcases forget_get er L i s q with rfl | z
    · trivial
    · exact h.2.2 i s z⟩
/-! Stores -/
theorem setAt_ok {A : Array Slot} {i : Nat} (h : i < A.size) (x : Slot) : setAt A i x = some (A.setIfInBounds i x) := by simp [setAt, h]
theorem get_set (A : Array Slot) (i j : Nat) (x : Slot) : (A.setIfInBounds i x)[j]? = if i = j then (if i < A.size then some x else none) else A[j]? := by
  rw [Array.getElem?_setIfInBounds]
theorem sl_unset {A : Array Slot} {k : Nat} {w : Value} (h : A[k]? = some .unset) : storeLocals A k w = storeSelf A k w := by
  unfold storeLocals; rw [h]; rfl
theorem sl_second {A : Array Slot} {k : Nat} {w : Value} (h : A[k]? = some .second) (hk : k - 1 < A.size) : storeLocals A k w = storeSelf (A.setIfInBounds (k - 1) .unset) k w := by
  unfold storeLocals; rw [h]
  show (setAt A (k - 1) .unset).bind _ = _
  rw [setAt_ok hk]; rfl
theorem sl_val2 {A : Array Slot} {k : Nat} {w u : Value} (h : A[k]? = some (.val u)) (hu : u.category = 2) (hk : k + 1 < A.size) : storeLocals A k w = storeSelf (A.setIfInBounds (k + 1) .unset) k w := by
  unfold storeLocals; rw [h]
  show (if u.category = 2 then (setAt A (k + 1) .unset).bind _ else _) = _
  rw [if_pos hu, setAt_ok hk]; rfl
theorem sl_val1 {A : Array Slot} {k : Nat} {w u : Value} (h : A[k]? = some (.val u)) (hu : ¬ u.category = 2) : storeLocals A k w = storeSelf A k w := by
  unfold storeLocals; rw [h]
  show (if u.category = 2 then (setAt A (k + 1) .unset).bind _ else _) = _
  rw [if_neg hu]
theorem ss_1 {A : Array Slot} {k : Nat} {w : Value} (hk : k < A.size) (hw : ¬ w.category = 2) : storeSelf A k w = some (A.setIfInBounds k (.val w)) := by
  unfold storeSelf; rw [setAt_ok hk]
  show (if w.category = 2 then _ else _) = _
  rw [if_neg hw]
theorem ss_2c {A : Array Slot} {k : Nat} {w u : Value} (hk : k < A.size) (hk1 : k + 1 < A.size) (hk2 : k + 2 < A.size) (hw : w.category = 2) (h : (A.setIfInBounds k (.val w))[k + 1]? = some (.val u)) (hu : u.category = 2) : storeSelf A k w = some (((A.setIfInBounds k (.val w)).setIfInBounds (k + 2) .unset).setIfInBounds (k + 1) .second) := by
  unfold storeSelf; rw [setAt_ok hk]
  show (if w.category = 2 then _ else _) = _
  rw [if_pos hw, h]
  show (if u.category = 2 then (setAt _ (k + 2) .unset).bind _ else _) = _
  rw [if_pos hu, setAt_ok (by simpa using hk2)]
  exact setAt_ok (by simpa using hk1) _
theorem ss_2 {A : Array Slot} {k : Nat} {w : Value} {o : Slot} (hk : k < A.size) (hk1 : k + 1 < A.size) (hw : w.category = 2) (h : (A.setIfInBounds k (.val w))[k + 1]? = some o) (ho : ¬ ∃ u, o = .val u ∧ u.category = 2) : storeSelf A k w = some ((A.setIfInBounds k (.val w)).setIfInBounds (k + 1) .second) := by
  unfold storeSelf; rw [setAt_ok hk]
  show (if w.category = 2 then _ else _) = _
  rw [if_pos hw, h]
  cases o with
  | unset => exact setAt_ok (by simpa using hk1) _
  | second => exact setAt_ok (by simpa using hk1) _
  | val u =>
    show (if u.category = 2 then _ else _) = _
    rw [if_neg fun z => ho ⟨u, rfl, z⟩]
    exact setAt_ok (by simpa using hk1) _
theorem store1_sim {ρ : List Addr} {L : List Slot} {A : Array Slot} (h : LR ρ L A) {k : Nat} {v w : Value} {L' : List Slot} (hs : st1 L k v = some L') (hv : VR ρ v w) (hc : w.category = 1) : ∃ A', storeLocals A k w = some A' ∧ LR ρ L' A' := by
  unfold st1 at hs
  split at hs
  · rename_i q
    cases hs
    simp only [Bool.and_eq_true] at q
    obtain ⟨⟨q1, q2⟩, q3⟩ := q
    obtain ⟨hA, ⟨w1, w2⟩, hl⟩ := h
    have hk : k < L.length := by
      rcases Nat.lt_or_ge k L.length with z | z
      · exact z
      · rw [List.getElem?_eq_none z] at q1; cases q1
    have hkA : k < A.size := hA ▸ hk
    obtain ⟨sl, hsl⟩ : ∃ sl, A[k]? = some sl := ⟨A[k], Array.getElem?_eq_getElem hkA⟩
    have hc2 : ¬ w.category = 2 := by rw [hc]; decide
    classical
    have key : ∃ A', storeLocals A k w = some A' ∧ A'.size = A.size ∧ (∀ j, A'[j]? = if j = k then some (.val w) else if (sl = .second ∧ j + 1 = k) ∨ ((∃ u, sl = .val u ∧ u.category = 2) ∧ j = k + 1) then some .unset else A[j]?) := by
      cases sl with
      | unset =>
        refine ⟨A.setIfInBounds k (.val w), by rw [sl_unset hsl]; exact ss_1 hkA hc2, by simp, fun j => ?_⟩
        rw [get_set]
        by_cases e : k = j
        · subst e; simp [hkA]
        · have e' : ¬ j = k := fun z => e z.symm
          simp [e, e']
      | second =>
        obtain ⟨j0, u, rfl, g1, g2⟩ := w2 k hsl
        refine ⟨(A.setIfInBounds j0 .unset).setIfInBounds (j0 + 1) (.val w), by rw [sl_second hsl (show j0 + 1 - 1 < A.size by omega)]; exact ss_1 (by simpa using hkA) hc2, by simp, fun j => ?_⟩
        rw [get_set, get_set]
        by_cases e : j0 + 1 = j
        · subst e; simp [hkA]
        · by_cases e2 : j0 = j
          · subst e2; simp; omega
          · have e' : ¬ j = j0 + 1 := fun z => e z.symm
            have e2' : ¬ j = j0 := fun z => e2 z.symm
            simp [e, e', e2, e2']
      | val u =>
        by_cases hu : u.category = 2
        · have g := w1 k u hsl hu
          have hk1 : k + 1 < A.size := (Array.getElem?_eq_some_iff.mp g).1
          refine ⟨(A.setIfInBounds (k + 1) .unset).setIfInBounds k (.val w), by rw [sl_val2 hsl hu hk1]; exact ss_1 (by simpa using hkA) hc2, by simp, fun j => ?_⟩
          rw [get_set, get_set]
          by_cases e : k = j
          · subst e; simp [hkA]
          · have e' : ¬ j = k := fun z => e z.symm
            by_cases e2 : k + 1 = j
            · subst e2; simp [hk1, hu]
            · have e2' : ¬ j = k + 1 := fun z => e2 z.symm
              simp [e, e', e2, e2']
        · refine ⟨A.setIfInBounds k (.val w), by rw [sl_val1 hsl hu]; exact ss_1 hkA hc2, by simp, fun j => ?_⟩
          rw [get_set]
          by_cases e : k = j
          · subst e; simp [hkA]
          · have e' : ¬ j = k := fun z => e z.symm
            simp [e, e', hu]
    obtain ⟨A', k1, k2, k3⟩ := key
    refine ⟨A', k1, by rw [k2, hA]; simp, ⟨fun i u g1 g2 => ?_, fun i g1 => ?_⟩, fun i s g => ?_⟩
    · rw [k3] at g1
      split at g1
      · cases g1; exact absurd g2 hc2
      · rename_i e1
        split at g1
        · cases g1
        · rename_i e2
          have g3 := w1 i u g1 g2
          rw [k3]
          split
          · rename_i e3
            have : sl = .second := by rw [← e3] at hsl; exact Option.some.inj (hsl.symm.trans g3)
            exact absurd (Or.inl ⟨this, e3⟩) e2
          · rename_i e3
            split
            · rename_i e4
              rcases e4 with ⟨z1, z2⟩ | ⟨⟨u', z1, z2⟩, z3⟩
              · exfalso
                have : k = i + 1 + 1 := z2.symm
                subst this
                rw [z1] at hsl
                obtain ⟨j0, u0, y1, y2, y3⟩ := w2 _ hsl
                have : j0 = i + 1 := by omega
                subst this
                rw [g3] at y2; cases y2
              · exact absurd (by omega) e1
            · exact g3
    · rw [k3] at g1
      split at g1
      · cases g1
      · rename_i e1
        split at g1
        · cases g1
        · rename_i e2
          obtain ⟨j, u, z1, z2, z3⟩ := w2 i g1
          refine ⟨j, u, z1, ?_, z3⟩
          rw [k3]
          split
          · rename_i e3
            subst e3
            have : sl = .val u := Option.some.inj (hsl.symm.trans z2)
            exact absurd (Or.inr ⟨⟨u, this, z3⟩, z1⟩) e2
          · split
            · rename_i e3 e4
              rcases e4 with ⟨y1, y2⟩ | ⟨⟨u', y1, y2⟩, y3⟩
              · exact absurd (z1.trans y2) e1
              · subst y3
                have g5 := w1 k u' (y1 ▸ hsl) y2
                rw [z2] at g5; cases g5
            · exact z2
    · rw [List.getElem?_set] at g
      split at g
      · rename_i e
        subst e
        cases g
        exact ⟨w, hv, by rw [k3]; simp⟩
      · rename_i e
        have e' : ¬ i = k := fun z => e z.symm
        have g2 := hl i s g
        rw [k3, if_neg e']
        split
        · rename_i e4
          cases s with
          | unset => trivial
          | second =>
            exfalso
            have g2' : A[i]? = some .second := g2
            rcases e4 with ⟨y1, y2⟩ | ⟨⟨u', y1, y2⟩, y3⟩
            · obtain ⟨j0, u0, x1, x2, x3⟩ := w2 k (y1 ▸ hsl)
              have : i = j0 := by omega
              subst this
              rw [x2] at g2'; cases g2'
            · subst y3
              rw [g] at q3
              simp [isSec] at q3
          | val v0 =>
            exfalso
            obtain ⟨w0, x1, x2⟩ := g2
            rcases e4 with ⟨y1, y2⟩ | ⟨⟨u', y1, y2⟩, y3⟩
            · obtain ⟨j0, u0, z1, z2, z3⟩ := w2 k (y1 ▸ hsl)
              have : i = j0 := by omega
              subst this
              have hw0 : w0 = u0 := by rw [x2] at z2; cases z2; rfl
              have hcat : v0.category = 2 := by rw [← x1.cat, hw0]; exact z3
              subst y2
              have : L[i + 1 - 1]? = some (.val v0) := g
              rw [this] at q2
              simp [isC2, hcat] at q2
            · subst y3
              have g5 := w1 k u' (y1 ▸ hsl) y2
              rw [x2] at g5; cases g5
        · exact g2
  · cases hs
end Jvm.Own
namespace Jvm.Own
open Jvm Jvm.ClassFile Sem Op Lib Jvm.Free Jvm.Stand Jvm.LawKit Jvm.RoadKit Bundle
theorem store2_sim {ρ : List Addr} {L : List Slot} {A : Array Slot} (h : LR ρ L A) {k : Nat} {v w : Value} {L' : List Slot} (hs : st2 L k v = some L') (hv : VR ρ v w) (hc : w.category = 2) : ∃ A', storeLocals A k w = some A' ∧ LR ρ L' A' := by
  unfold st2 at hs
  split at hs
  · rename_i q
    cases hs
    simp only [Bool.and_eq_true] at q
    obtain ⟨⟨q1, q2⟩, q3⟩ := q
    obtain ⟨hA, ⟨w1, w2⟩, hl⟩ := h
    have hk1 : k + 1 < L.length := by
      rcases Nat.lt_or_ge (k + 1) L.length with z | z
      · exact z
      · rw [List.getElem?_eq_none z] at q1
        cases h0 : L[k]? with
        | none => rw [h0] at q1; cases q1
        | some s0 => rw [h0] at q1; cases s0 <;> cases q1
    have hk : k < L.length := by omega
    have hkA : k < A.size := hA ▸ hk
    have hkA1 : k + 1 < A.size := hA ▸ hk1
    obtain ⟨sl, hsl⟩ : ∃ sl, A[k]? = some sl := ⟨A[k], Array.getElem?_eq_getElem hkA⟩
    obtain ⟨sm, hsm⟩ : ∃ sm, A[k + 1]? = some sm := ⟨A[k + 1], Array.getElem?_eq_getElem hkA1⟩
    have n1 : ¬ k = k + 1 := by omega
    have n2 : ¬ k + 2 = k + 1 := by omega
    have n3 : ¬ k + 2 = k := by omega
    classical
    have key : ∃ A', storeLocals A k w = some A' ∧ A'.size = A.size ∧ (∀ j, A'[j]? = if j = k then some (.val w) else if j = k + 1 then some .second else if (sl = .second ∧ j + 1 = k) ∨ ((∃ u, sm = .val u ∧ u.category = 2) ∧ j = k + 2) then some .unset else A[j]?) := by
      by_cases hm : ∃ u, sm = .val u ∧ u.category = 2
      · obtain ⟨u, rfl, hu⟩ := hm
        have g := w1 (k + 1) u hsm hu
        have hk2 : k + 2 < A.size := (Array.getElem?_eq_some_iff.mp g).1
        cases sl with
        | unset =>
          refine ⟨((A.setIfInBounds k (.val w)).setIfInBounds (k + 2) .unset).setIfInBounds (k + 1) .second, ?_, by simp, fun j => ?_⟩
          · rw [sl_unset hsl]; exact ss_2c hkA hkA1 hk2 hc (by rw [get_set, if_neg n1]; exact hsm) hu
          · rw [get_set, get_set, get_set]
            by_cases e0 : j = k
            · subst e0; simp [hkA]
            · by_cases e1 : j = k + 1
              · subst e1; simp [hkA1]
              · by_cases e2 : j = k + 2
                · subst e2; simp [hk2, hu]
                · have e0' : ¬ k = j := fun z => e0 z.symm
                  have e1' : ¬ k + 1 = j := fun z => e1 z.symm
                  have e2' : ¬ k + 2 = j := fun z => e2 z.symm
                  simp [e0, e1, e2, e0', e1', e2']
        | second =>
          obtain ⟨j0, u0, rfl, g1, g2⟩ := w2 k hsl
          have hj0 : j0 < A.size := by omega
          refine ⟨(((A.setIfInBounds j0 .unset).setIfInBounds (j0 + 1) (.val w)).setIfInBounds (j0 + 1 + 2) .unset).setIfInBounds (j0 + 1 + 1) .second, ?_, by simp, fun j => ?_⟩
          · have m1 : ¬ j0 + 1 = j0 + 1 + 1 := by omega
            have m2 : ¬ j0 = j0 + 1 + 1 := by omega
            rw [sl_second hsl (show j0 + 1 - 1 < A.size by omega)]
            exact ss_2c (by simpa using hkA) (by simpa using hkA1) (by simpa using hk2) hc (by rw [get_set, if_neg m1, get_set, if_neg (by omega)]; exact hsm) hu
          · rw [get_set, get_set, get_set, get_set]
            by_cases e0 : j = j0 + 1
            · subst e0; simp [hkA]
            · by_cases e1 : j = j0 + 1 + 1
              · subst e1; simp [hkA1]
              · by_cases e2 : j = j0 + 1 + 2
                · subst e2; simp [hk2, hu]
                · by_cases e3 : j = j0
                  · subst e3
                    rw [if_neg (by omega), if_neg (by omega), if_neg (by omega), if_pos rfl, if_pos hj0, if_neg (by omega), if_neg (by omega), if_pos (Or.inl ⟨rfl, rfl⟩)]
                  · have e0' : ¬ j0 + 1 = j := fun z => e0 z.symm
                    have e1' : ¬ j0 + 1 + 1 = j := fun z => e1 z.symm
                    have e2' : ¬ j0 + 1 + 2 = j := fun z => e2 z.symm
                    have e3' : ¬ j0 = j := fun z => e3 z.symm
                    simp [e0, e1, e2, e3, e0', e1', e2', e3']
        | val u1 =>
          have hu1 : ¬ u1.category = 2 := fun z => by have := w1 k u1 hsl z; rw [hsm] at this; cases this
          refine ⟨((A.setIfInBounds k (.val w)).setIfInBounds (k + 2) .unset).setIfInBounds (k + 1) .second, ?_, by simp, fun j => ?_⟩
          · rw [sl_val1 hsl hu1]; exact ss_2c hkA hkA1 hk2 hc (by rw [get_set, if_neg n1]; exact hsm) hu
          · rw [get_set, get_set, get_set]
            by_cases e0 : j = k
            · subst e0; simp [hkA]
            · by_cases e1 : j = k + 1
              · subst e1; simp [hkA1]
              · by_cases e2 : j = k + 2
                · subst e2; simp [hk2, hu]
                · have e0' : ¬ k = j := fun z => e0 z.symm
                  have e1' : ¬ k + 1 = j := fun z => e1 z.symm
                  have e2' : ¬ k + 2 = j := fun z => e2 z.symm
                  simp [e0, e1, e2, e0', e1', e2']
      · cases sl with
        | unset =>
          refine ⟨(A.setIfInBounds k (.val w)).setIfInBounds (k + 1) .second, ?_, by simp, fun j => ?_⟩
          · rw [sl_unset hsl]; exact ss_2 hkA hkA1 hc (by rw [get_set, if_neg n1]; exact hsm) hm
          · rw [get_set, get_set]
            by_cases e0 : j = k
            · subst e0; simp [hkA]
            · by_cases e1 : j = k + 1
              · subst e1; simp [hkA1]
              · have e0' : ¬ k = j := fun z => e0 z.symm
                have e1' : ¬ k + 1 = j := fun z => e1 z.symm
                simp [e0, e1, e0', e1', hm]
        | second =>
          obtain ⟨j0, u0, rfl, g1, g2⟩ := w2 k hsl
          have hj0 : j0 < A.size := by omega
          have m1 : ¬ j0 + 1 = j0 + 1 + 1 := by omega
          have m2 : ¬ j0 = j0 + 1 + 1 := by omega
          refine ⟨((A.setIfInBounds j0 .unset).setIfInBounds (j0 + 1) (.val w)).setIfInBounds (j0 + 1 + 1) .second, ?_, by simp, fun j => ?_⟩
          · rw [sl_second hsl (show j0 + 1 - 1 < A.size by omega)]
            exact ss_2 (by simpa using hkA) (by simpa using hkA1) hc (by rw [get_set, if_neg m1, get_set, if_neg (by omega)]; exact hsm) hm
          · rw [get_set, get_set, get_set]
            by_cases e0 : j = j0 + 1
            · subst e0; simp [hkA]
            · by_cases e1 : j = j0 + 1 + 1
              · subst e1; simp [hkA1]
              · by_cases e3 : j = j0
                · subst e3
                  rw [if_neg (by omega), if_neg (by omega), if_pos rfl, if_pos hj0, if_neg (by omega), if_neg (by omega), if_pos (Or.inl ⟨rfl, rfl⟩)]
                · have e0' : ¬ j0 + 1 = j := fun z => e0 z.symm
                  have e1' : ¬ j0 + 1 + 1 = j := fun z => e1 z.symm
                  have e3' : ¬ j0 = j := fun z => e3 z.symm
                  simp [e0, e1, e3, e0', e1', e3', hm]
        | val u1 =>
          by_cases hu1 : u1.category = 2
          · refine ⟨((A.setIfInBounds (k + 1) .unset).setIfInBounds k (.val w)).setIfInBounds (k + 1) .second, ?_, by simp, fun j => ?_⟩
            · rw [sl_val2 hsl hu1 hkA1]
              exact ss_2 (o := .unset) (by simpa using hkA) (by simpa using hkA1) hc (by rw [get_set, if_neg n1, get_set, if_pos rfl, if_pos hkA1]) (by rintro ⟨u, z, -⟩; cases z)
            · rw [get_set, get_set, get_set]
              by_cases e0 : j = k
              · subst e0; simp [hkA]
              · by_cases e1 : j = k + 1
                · subst e1; simp [hkA1]
                · have e0' : ¬ k = j := fun z => e0 z.symm
                  have e1' : ¬ k + 1 = j := fun z => e1 z.symm
                  simp [e0, e1, e0', e1', hm]
          · refine ⟨(A.setIfInBounds k (.val w)).setIfInBounds (k + 1) .second, ?_, by simp, fun j => ?_⟩
            · rw [sl_val1 hsl hu1]; exact ss_2 hkA hkA1 hc (by rw [get_set, if_neg n1]; exact hsm) hm
            · rw [get_set, get_set]
              by_cases e0 : j = k
              · subst e0; simp [hkA]
              · by_cases e1 : j = k + 1
                · subst e1; simp [hkA1]
                · have e0' : ¬ k = j := fun z => e0 z.symm
                  have e1' : ¬ k + 1 = j := fun z => e1 z.symm
                  simp [e0, e1, e0', e1', hm]
    obtain ⟨A', k1, k2, k3⟩ := key
    refine ⟨A', k1, by rw [k2, hA]; simp, ⟨fun i u g1 g2 => ?_, fun i g1 => ?_⟩, fun i s g => ?_⟩
    · by_cases e1 : i = k
      · subst e1; rw [k3]; simp
      · have g1' := g1
        rw [k3, if_neg e1] at g1'
        split at g1'
        · cases g1'
        · rename_i e2
          split at g1'
          · cases g1'
          · rename_i e4
            have g3 := w1 i u g1' g2
            rw [k3]
            have c1 : ¬ i + 1 = k := fun e3 => by
              have : sl = .second := by rw [← e3] at hsl; exact Option.some.inj (hsl.symm.trans g3)
              exact e4 (Or.inl ⟨this, e3⟩)
            have c2 : ¬ i + 1 = k + 1 := by omega
            have c3 : ¬ ((sl = .second ∧ i + 1 + 1 = k) ∨ ((∃ u, sm = .val u ∧ u.category = 2) ∧ i + 1 = k + 2)) := fun z => by
              rcases z with ⟨z1, z2⟩ | ⟨z1, z2⟩
              · subst z2
                rw [z1] at hsl
                obtain ⟨j0, u0, y1, y2, y3⟩ := w2 _ hsl
                have : j0 = i + 1 := by omega
                subst this
                rw [g3] at y2; cases y2
              · omega
            rw [if_neg c1, if_neg c2, if_neg c3]
            exact g3
    · rw [k3] at g1
      split at g1
      · cases g1
      · rename_i e1
        split at g1
        · rename_i e2
          exact ⟨k, w, e2, by rw [k3]; simp, hc⟩
        · rename_i e2
          split at g1
          · cases g1
          · rename_i e4
            obtain ⟨j, u, z1, z2, z3⟩ := w2 i g1
            refine ⟨j, u, z1, ?_, z3⟩
            rw [k3]
            have c1 : ¬ j = k := by omega
            have c2 : ¬ j = k + 1 := fun e => by
              subst e
              exact e4 (Or.inr ⟨⟨u, Option.some.inj (hsm.symm.trans z2), z3⟩, by omega⟩)
            have c3 : ¬ ((sl = .second ∧ j + 1 = k) ∨ ((∃ u, sm = .val u ∧ u.category = 2) ∧ j = k + 2)) := fun z => by
              rcases z with ⟨y1, y2⟩ | ⟨⟨u', y1, y2⟩, y3⟩
              · exact e1 (z1.trans y2)
              · subst y3
                have g5 := w1 (k + 1) u' (y1 ▸ hsm) y2
                rw [z2] at g5; cases g5
            rw [if_neg c1, if_neg c2, if_neg c3]
            exact z2
    · rw [List.getElem?_set] at g
      split at g
      · rename_i e
        subst e
        have : k + 1 < (L.set k (.val v)).length := by simp [hk1]
        rw [if_pos this] at g
        cases g
        show A'[k + 1]? = some .second
        rw [k3]; simp
      · rename_i e
        have e' : ¬ i = k + 1 := fun z => e z.symm
        rw [List.getElem?_set] at g
        split at g
        · rename_i e0
          subst e0
          cases g
          exact ⟨w, hv, by rw [k3]; simp⟩
        · rename_i e0
          have e0' : ¬ i = k := fun z => e0 z.symm
          have g2 := hl i s g
          rw [k3, if_neg e0', if_neg e']
          split
          · rename_i e4
            cases s with
            | unset => trivial
            | second =>
              exfalso
              have g2' : A[i]? = some .second := g2
              rcases e4 with ⟨y1, y2⟩ | ⟨⟨u', y1, y2⟩, y3⟩
              · obtain ⟨j0, u0, x1, x2, x3⟩ := w2 k (y1 ▸ hsl)
                have : i = j0 := by omega
                subst this
                rw [x2] at g2'; cases g2'
              · subst y3
                rw [g] at q3
                simp [isSec] at q3
            | val v0 =>
              exfalso
              obtain ⟨w0, x1, x2⟩ := g2
              rcases e4 with ⟨y1, y2⟩ | ⟨⟨u', y1, y2⟩, y3⟩
              · obtain ⟨j0, u0, z1, z2, z3⟩ := w2 k (y1 ▸ hsl)
                have : i = j0 := by omega
                subst this
                have hw0 : w0 = u0 := by rw [x2] at z2; cases z2; rfl
                have hcat : v0.category = 2 := by rw [← x1.cat, hw0]; exact z3
                subst y2
                have : L[i + 1 - 1]? = some (.val v0) := g
                rw [this] at q2
                simp [isC2, hcat] at q2
              · subst y3
                have g5 := w1 (k + 1) u' (y1 ▸ hsm) y2
                rw [x2] at g5; cases g5
          · exact g2
  · cases hs
/-! The frame with which a method is entered -/
theorem entA_app (ws : List Value) : ∀ acc : Array Slot, ws.foldl (fun acc v => if v.category = 2 then (acc.push (.val v)).push .second else acc.push (.val v)) acc = acc ++ (entA ws).toArray := by
  induction ws with
  | nil => intro acc; simp [entA]
  | cons v r ih =>
    intro acc
    rw [List.foldl_cons, ih]
    show _ = acc ++ (if v.category = 2 then .val v :: .second :: entA r else .val v :: entA r).toArray
    by_cases h : v.category = 2
    · rw [if_pos h, if_pos h]; simp
    · rw [if_neg h, if_neg h]; simp
theorem argsToLocals_eq (ws : List Value) (n : Nat) : argsToLocals ws.toArray n = (entL ws n).toArray := by
  unfold argsToLocals entL
  have h := entA_app ws #[]
  simp only [List.foldl_toArray', List.size_toArray] at *
  simp [h]
theorem entA_len {ρ : List Addr} : ∀ {v w : List Value}, SR ρ v w → (entA w).length = (entA v).length
  | [], _, h => by cases h; rfl
  | _ :: _, _, ⟨w, ws, h1, h2, h3⟩ => by
    subst h1
    unfold entA
    rw [h2.cat]
    split <;> simp [entA_len h3]
theorem entA_rel {ρ : List Addr} : ∀ {v w : List Value}, SR ρ v w → ∀ (m i : Nat) (s : Slot), (entA v ++ List.replicate m .unset)[i]? = some s → SlR ρ s (entA w ++ List.replicate m .unset)[i]?
  | [], _, h, m, i, s, q => by
    cases h
    simp only [entA, List.nil_append] at q ⊢
    rw [List.getElem?_replicate] at q
    split at q
    · cases q; trivial
    · cases q
  | v :: vs, _, ⟨w, ws, h1, h2, h3⟩, m, i, s, q => by
    subst h1
    unfold entA at q ⊢
    rw [h2.cat]
    split
    · rename_i c
      rw [if_pos c] at q
      match i, q with
      | 0, q => simp at q; subst q; exact ⟨w, h2, by simp⟩
      | 1, q => simp at q; subst q; simp [SlR]
      | i + 2, q => simp at q ⊢; exact entA_rel h3 m i s q
    · rename_i c
      rw [if_neg c] at q
      match i, q with
      | 0, q => simp at q; subst q; exact ⟨w, h2, by simp⟩
      | i + 1, q => simp at q ⊢; exact entA_rel h3 m i s q
theorem entA_wf : ∀ (ws : List Value) (m : Nat), (∀ (i : Nat) w, (entA ws ++ List.replicate m .unset)[i]? = some (.val w) → w.category = 2 → (entA ws ++ List.replicate m .unset)[i + 1]? = some .second) ∧
    ∀ (i : Nat), (entA ws ++ List.replicate m .unset)[i]? = some .second → ∃ j w, i = j + 1 ∧ (entA ws ++ List.replicate m .unset)[j]? = some (.val w) ∧ w.category = 2
  | [], m => by
    constructor
    · intro i w q
      simp only [entA, List.nil_append, List.getElem?_replicate] at q
      split at q <;> cases q
    · intro i q
      simp only [entA, List.nil_append, List.getElem?_replicate] at q
      split at q <;> cases q
  | v :: vs, m => by
    obtain ⟨h1, h2⟩ := entA_wf vs m
    unfold entA
    split
    · rename_i c
      constructor
      · intro i w q
        match i, q with
        | 0, q => intro _; simp
        | 1, q => simp at q
        | i + 2, q => simp at q ⊢; exact h1 i w q
      · intro i q
        match i, q with
        | 0, q => simp at q
        | 1, q => exact ⟨0, v, rfl, by simp, c⟩
        | i + 2, q =>
          simp at q
          obtain ⟨j, w, e, g1, g2⟩ := h2 i q
          exact ⟨j + 2, w, by omega, by simpa using g1, g2⟩
    · rename_i c
      constructor
      · intro i w q
        match i, q with
        | 0, q => intro z; simp at q; subst q; exact absurd z c
        | i + 1, q => simp at q ⊢; exact h1 i w q
      · intro i q
        match i, q with
        | 0, q => simp at q
        | i + 1, q =>
          simp at q
          obtain ⟨j, w, e, g1, g2⟩ := h2 i q
          exact ⟨j + 1, w, by omega, by simpa using g1, g2⟩
theorem LR.enter {ρ : List Addr} {v w : List Value} (h : SR ρ v w) {n : Nat} (hn : (entA v).length ≤ n) : LR ρ (entL v n) (argsToLocals w.toArray n) ∧ (argsToLocals w.toArray n).size = n := by
  rw [argsToLocals_eq]
  have hl := entA_len h
  refine ⟨⟨by simp [entL, hl], ?_, fun i s q => ?_⟩, by simp [entL, hl]; omega⟩
  · obtain ⟨h1, h2⟩ := entA_wf w (n - (entA w).length)
    exact ⟨fun i u q c => by simpa [entL] using h1 i u (by simpa [entL] using q) c, fun i q => by
      obtain ⟨j, u, e, g1, g2⟩ := h2 i (by simpa [entL] using q)
      exact ⟨j, u, e, by simpa [entL] using g1, g2⟩⟩
  · unfold entL at q ⊢
    rw [hl]
    simpa using entA_rel h _ i s q
end Jvm.Own
namespace Jvm.RoadKit
open Sem ClassFile Op Lib Jvm.Stand Jvm.Free Jvm.LawKit
section New
variable {p : Program} {l : Launch} {e : Env} {R : Room} {s : State} {m : MethodId} {args : Array Value} {below : List Frame} {meth : Method} {c : Code} {T : State} {locs : List Loc} {cells slots : Nat}
theorem retI (X : Stand p l e R s m args below meth c T locs cells slots) (hx : p.tables.exec = Jvm.exec) {pc : Nat} {Ls : Array Slot} {z : Int32} {rest : List Value} (hret : meth.sig.returnType = some .int) (hd : decode c.code pc = .ok (.ireturn, 1)) {fs : List Frame}
    (hl : ∀ (f : JFrame) (acts : List Action), f.method = m → f.locked = none → f.entered = [] → (doReturn e (T.setTop f) acts (some (.int z))).1 = T.setFrames fs) : Steps p.tables e below (T.setTop (mkF m pc Ls (.int z :: rest))) (T.setFrames fs) := by
  have hm' : T.vm.method? m = some meth := X.method'
  have hn : narrow .int (.int z) = .int z := rfl
  show Steps p.tables e below (T.setTop { method := m, pc := pc, locals := Ls, stack := _ :: rest, locked := none }) _
  jvm_step X.here [X.here.top, hx, hd, hm', hret, hn]
  first | (intro acts; rw [hl _ acts rfl rfl rfl]) | rw [hl _ _ rfl rfl rfl]
  exact Steps.refl _
end New
end Jvm.RoadKit
namespace Jvm.Own
open Jvm Jvm.ClassFile Sem Op Lib Jvm.Free Jvm.Stand Jvm.LawKit Jvm.RoadKit Bundle
/-! The plain heap and the real one -/
def tyA (b : Bool) : FieldType := if b then .boolean else .int
def CR (P : PD) (Z : State) (h : Heap) (ρ : List Addr) (a : Addr) : ACell → Prop
  | .inl (c, fs) => ∃ cd, P.cls[c]? = some cd ∧ Exa Z h a cd.1 ∧ fs.length = cd.2.2.length ∧ ∀ (i : Nat) v fd, fs[i]? = some v → cd.2.2[i]? = some fd → ∃ w, VR ρ v w ∧ Fld Z h a cd.1 fd.1 fd.2.1 w
  | .inr (.inl (b, L)) => ∃ cl, Arr Z h a cl (tyA b) ∧ cl.slots.size = L.length ∧ L.length < 2 ^ 31 ∧ ∀ (i : Nat) x, L[i]? = some x → cl.slots[i]? = some (.int x)
  | .inr (.inr L) => ∃ cl, Arr Z h a cl .long ∧ cl.slots.size = L.length ∧ L.length < 2 ^ 31 ∧ ∀ (i : Nat) x, L[i]? = some x → cl.slots[i]? = some (.long x)
def HR (P : PD) (Z : State) (n0 : Nat) (h : Heap) (ρ : List Addr) (H : AHeap) : Prop :=
  n0 ≤ h.size ∧ ρ.length = H.length ∧ (∀ (i j : Nat) a, ρ[i]? = some a → ρ[j]? = some a → i = j) ∧ (∀ (k : Nat) a, ρ[k]? = some a → P.nr ≤ k → n0 ≤ a) ∧ ∀ (k : Nat) a c, ρ[k]? = some a → H[k]? = some c → CR P Z h ρ a c
section Heaps
variable {P : PD} {Z : State} {n0 : Nat} {h h' : Heap} {ρ : List Addr} {H : AHeap} {a : Addr} {k : Nat} {a0 : Array Value}
theorem CR.lt {c : ACell} (q : CR P Z h ρ a c) : a < h.size := by
  match c, q with
  | .inl (_, _), q => obtain ⟨cd, -, E, -⟩ := q; exact E.lt
  | .inr (.inl (_, _)), q => obtain ⟨cl, A, -⟩ := q; exact A.lt
  | .inr (.inr _), q => obtain ⟨cl, A, -⟩ := q; exact A.lt
theorem HR.at (q : HR P Z n0 h ρ H) {c : ACell} (hc : H[k]? = some c) : ∃ a, ρ[k]? = some a ∧ CR P Z h ρ a c := by
  obtain ⟨-, q1, -, -, q4⟩ := q
  have hk : k < ρ.length := by rw [q1]; exact (List.getElem?_eq_some_iff.mp hc).1
  exact ⟨ρ[k], List.getElem?_eq_getElem hk, q4 k _ c (List.getElem?_eq_getElem hk) hc⟩
theorem HR.lt (q : HR P Z n0 h ρ H) (hk : ρ[k]? = some a) : a < h.size := by
  obtain ⟨-, q1, -, -, q4⟩ := q
  have hk' : k < H.length := by rw [← q1]; exact (List.getElem?_eq_some_iff.mp hk).1
  exact (q4 k a _ hk (List.getElem?_eq_getElem hk')).lt
theorem CR.grow {t : List Addr} {c : ACell} (E : Ext h h') (q : CR P Z h ρ a c) : CR P Z h' (ρ ++ t) a c := by
  match c, q with
  | .inl (_, _), ⟨cd, q1, q2, q3, q4⟩ => exact ⟨cd, q1, q2.ext E, q3, fun i v fd g1 g2 => by obtain ⟨w, z1, z2⟩ := q4 i v fd g1 g2; exact ⟨w, z1.mono, z2.ext E⟩⟩
  | .inr (.inl (_, _)), ⟨cl, q1, q2⟩ => exact ⟨cl, q1.ext E, q2⟩
  | .inr (.inr _), ⟨cl, q1, q2⟩ => exact ⟨cl, q1.ext E, q2⟩
theorem HR.push {c : ACell} (q : HR P Z n0 h ρ H) (E : Ext h h') (hc : CR P Z h' (ρ ++ [h.size]) h.size c) : HR P Z n0 h' (ρ ++ [h.size]) (H ++ [c]) := by
  have q0 := q
  obtain ⟨q1, q2, q3, q4, q5⟩ := q
  have old : ∀ (i : Nat) b, (ρ ++ [h.size])[i]? = some b → (ρ[i]? = some b ∧ b < h.size) ∨ (i = ρ.length ∧ b = h.size) := fun i b g => by
    rw [List.getElem?_append] at g
    split at g
    · exact Or.inl ⟨g, q0.lt g⟩
    · rename_i z
      right
      have : i - ρ.length = 0 := by
        rcases Nat.eq_zero_or_pos (i - ρ.length) with y | y
        · exact y
        · rw [List.getElem?_eq_none (by simp; omega)] at g; cases g
      rw [this] at g
      simp at g
      exact ⟨by omega, g.symm⟩
  refine ⟨Nat.le_trans q1 E.1, by simp [q2], fun i j b g1 g2 => ?_, fun i b g1 g2 => ?_, fun i b c' g1 g2 => ?_⟩
  · rcases old i b g1 with ⟨y1, y2⟩ | ⟨y1, y2⟩ <;> rcases old j b g2 with ⟨z1, z2⟩ | ⟨z1, z2⟩
    · exact q3 i j b y1 z1
    · exact absurd (z2 ▸ y2) (Nat.lt_irrefl _)
    · exact absurd (y2 ▸ z2) (Nat.lt_irrefl _)
    · rw [y1, z1]
  · rcases old i b g1 with ⟨y1, y2⟩ | ⟨y1, y2⟩
    · exact q4 i b y1 g2
    · rw [y2]; exact q1
  · rcases old i b g1 with ⟨y1, y2⟩ | ⟨y1, y2⟩
    · have hi : i < H.length := by rw [← q2]; exact (List.getElem?_eq_some_iff.mp y1).1
      rw [List.getElem?_append_left hi] at g2
      exact (q5 i b c' y1 g2).grow E
    · subst y1 y2
      rw [q2] at g2
      simp at g2
      subst g2
      exact hc
theorem CR.other {v : Value} {sl : Nat} {b : Addr} {c : ACell} (W : Wr h h' a sl v) (ne : b ≠ a) (q : CR P Z h ρ b c) : CR P Z h' ρ b c := by
  match c, q with
  | .inl (_, _), ⟨cd, q1, q2, q3, q4⟩ => exact ⟨cd, q1, q2.wr W, q3, fun i v fd g1 g2 => by obtain ⟨w, z1, z2⟩ := q4 i v fd g1 g2; exact ⟨w, z1, z2.other W (Or.inl ne)⟩⟩
  | .inr (.inl (_, _)), ⟨cl, q1, q2⟩ => exact ⟨cl, q1.other W ne, q2⟩
  | .inr (.inr _), ⟨cl, q1, q2⟩ => exact ⟨cl, q1.other W ne, q2⟩
theorem HR.set {v : Value} {sl : Nat} {c : ACell} (q : HR P Z n0 h ρ H) (hk : ρ[k]? = some a) (W : Wr h h' a sl v) (hc : CR P Z h' ρ a c) : HR P Z n0 h' ρ (H.set k c) := by
  obtain ⟨q1, q2, q3, q4, q5⟩ := q
  refine ⟨by rw [W.size]; exact q1, by simp [q2], q3, q4, fun i b c' g1 g2 => ?_⟩
  rw [List.getElem?_set] at g2
  split at g2
  · rename_i e
    subst e
    split at g2
    · cases g2
      rw [hk] at g1; cases g1
      exact hc
    · cases g2
  · rename_i e
    exact (q5 i b c' g1 g2).other W fun z => e (q3 k i a hk (z ▸ g1))
theorem nodup_ne : ∀ {l : List String}, nodup l = true → ∀ {i j : Nat} {x y : String}, l[i]? = some x → l[j]? = some y → i ≠ j → x ≠ y
  | [], _, i, j, x, y, h1, _, _ => by simp at h1
  | z :: r, hn, i, j, x, y, h1, h2, ne => by
    simp only [nodup, Bool.and_eq_true, Bool.not_eq_true', List.contains_eq_mem, decide_eq_false_iff_not] at hn
    match i, j, h1, h2, ne with
    | 0, 0, _, _, ne => exact absurd rfl ne
    | 0, j + 1, h1, h2, _ => simp at h1 h2; subst h1; exact fun e => hn.1 (e ▸ List.mem_of_getElem? h2)
    | i + 1, 0, h1, h2, _ => simp at h1 h2; subst h2; exact fun e => hn.1 (e ▸ List.mem_of_getElem? h1)
    | i + 1, j + 1, h1, h2, ne => simp at h1 h2; exact nodup_ne hn.2 h1 h2 (fun e => ne (by rw [e]))
theorem laid_of {C : String} {f : FD} (w : (fWord C f).before a0 Z = true) : Laid Z a0 C C f.1 f.2.1 := by
  unfold fWord at w
  split at w
  · exact Or.inr w
  · exact Or.inl w
theorem HR.putF {c j : Nat} {fs : List Value} {cd : CD} {fd : FD} {v w : Value} (q : HR P Z n0 h ρ H) (hk : ρ[k]? = some a) (hc : H[k]? = some (.inl (c, fs))) (hcd : P.cls[c]? = some cd) (hfd : cd.2.2[j]? = some fd)
    (hck : cChk cd = true) (hl : ∀ f ∈ cd.2.2, (fWord cd.1 f).before a0 Z = true) (W : Wr h h' a (RoadKit.slotOf Z cd.1 fd.1 fd.2.1) w) (hv : VR ρ v w) : HR P Z n0 h' ρ (H.set k (.inl (c, fs.set j v))) := by
  obtain ⟨a', ha, cr⟩ := q.at hc
  rw [hk] at ha; cases ha
  obtain ⟨cd', q1, q2, q3, q4⟩ := cr
  rw [hcd] at q1; cases q1
  refine q.set hk W ⟨cd, hcd, q2.wr W, by simp [q3], fun i v0 fd' g1 g2 => ?_⟩
  simp only [cChk, Bool.and_eq_true, List.all_eq_true] at hck
  obtain ⟨n1, n2⟩ := hck
  by_cases e : j = i
  · subst e
    rw [hfd] at g2; cases g2
    rw [List.getElem?_set] at g1
    split at g1
    · split at g1
      · cases g1
        rename_i z
        obtain ⟨w0, -, F⟩ := q4 j _ fd (List.getElem?_eq_getElem z) hfd
        exact ⟨w, hv, F.same W⟩
      · cases g1
    · rename_i z; exact absurd rfl z
  · rw [List.getElem?_set_ne e] at g1
    obtain ⟨w0, z1, F⟩ := q4 i v0 fd' g1 g2
    refine ⟨w0, z1, F.other W (Or.inr ?_)⟩
    have m1 := List.mem_of_getElem? hfd
    have m2 := List.mem_of_getElem? g2
    have f1 := n2 fd m1
    have f2 := n2 fd' m2
    simp only [fChk, Bool.and_eq_true, decide_eq_true_eq] at f1 f2
    refine slot_ne (laid_of (hl fd' m2)) (laid_of (hl fd m1)) ?_ f2.1 f1.1
    exact nodup_ne n1 (i := i) (j := j) (by simp [g2]) (by simp [hfd]) (fun z => e z.symm)
theorem HR.wrI {b : Bool} {L : List Int32} {i : Nat} {x : Int32} (q : HR P Z n0 h ρ H) (hk : ρ[k]? = some a) (hc : H[k]? = some (.inr (.inl (b, L)))) (W : Wr h h' a i (.int x)) : HR P Z n0 h' ρ (H.set k (.inr (.inl (b, L.set i x)))) := by
  obtain ⟨a', ha, cr⟩ := q.at hc
  rw [hk] at ha; cases ha
  obtain ⟨cl, A, q2, q3, q4⟩ := cr
  have lt : i < cl.slots.size := by
    obtain ⟨cl', z1, -, z3, -⟩ := W
    rw [A.1] at z1; cases z1
    exact z3
  refine q.set hk W ⟨_, A.same W, by simp [sz_set, q2], by simpa using q3, fun j y g => ?_⟩
  rw [List.getElem?_set] at g
  split at g
  · rename_i e
    subst e
    split at g
    · cases g; simp [Cell.setSlot, lt]
    · cases g
  · rename_i e
    have := q4 j y g
    simp [Cell.setSlot, Array.getElem?_setIfInBounds, e, this]
theorem HR.wrJ {L : List Int64} {i : Nat} {x : Int64} (q : HR P Z n0 h ρ H) (hk : ρ[k]? = some a) (hc : H[k]? = some (.inr (.inr L))) (W : Wr h h' a i (.long x)) : HR P Z n0 h' ρ (H.set k (.inr (.inr (L.set i x)))) := by
  obtain ⟨a', ha, cr⟩ := q.at hc
  rw [hk] at ha; cases ha
  obtain ⟨cl, A, q2, q3, q4⟩ := cr
  have lt : i < cl.slots.size := by
    obtain ⟨cl', z1, -, z3, -⟩ := W
    rw [A.1] at z1; cases z1
    exact z3
  refine q.set hk W ⟨_, A.same W, by simp [sz_set, q2], by simpa using q3, fun j y g => ?_⟩
  rw [List.getElem?_set] at g
  split at g
  · rename_i e
    subst e
    split at g
    · cases g; simp [Cell.setSlot, lt]
    · cases g
  · rename_i e
    have := q4 j y g
    simp [Cell.setSlot, Array.getElem?_setIfInBounds, e, this]
end Heaps
theorem SR.int {ρ : List Addr} {x : Int32} {S Sc : List Value} (h : SR ρ (.int x :: S) Sc) : ∃ Sc', Sc = .int x :: Sc' ∧ SR ρ S Sc' := by
  obtain ⟨w, ws, h1, h2, h3⟩ := h
  exact ⟨ws, by rw [h1, show w = .int x from h2], h3⟩
theorem SR.long {ρ : List Addr} {x : Int64} {S Sc : List Value} (h : SR ρ (.long x :: S) Sc) : ∃ Sc', Sc = .long x :: Sc' ∧ SR ρ S Sc' := by
  obtain ⟨w, ws, h1, h2, h3⟩ := h
  exact ⟨ws, by rw [h1, show w = .long x from h2], h3⟩
theorem SR.ref {ρ : List Addr} {x : Nat} {S Sc : List Value} (h : SR ρ (.ref x :: S) Sc) : ∃ a Sc', ρ[x]? = some a ∧ Sc = .ref a :: Sc' ∧ SR ρ S Sc' := by
  obtain ⟨w, ws, h1, ⟨a, h2, h4⟩, h3⟩ := h
  exact ⟨a, ws, h2, by rw [h1, h4], h3⟩
theorem rdA_spec {α : Type} {L : List α} {j : Int32} {x : α} (h : rdA L j = some x) : ¬ j < 0 ∧ L[j.toNatClampNeg]? = some x := by
  unfold rdA at h
  split at h
  · cases h
  · rename_i q; exact ⟨q, h⟩
theorem wrA_spec {α : Type} {L L' : List α} {j : Int32} {x : α} (h : wrA L j x = some L') : ¬ j < 0 ∧ j.toNatClampNeg < L.length ∧ L' = L.set j.toNatClampNeg x := by
  unfold wrA at h
  split at h
  · cases h
  · rename_i q
    split at h
    · rename_i z; cases h; exact ⟨q, z, rfl⟩
    · cases h
end Jvm.Own
namespace Jvm.Own
open Jvm Jvm.ClassFile Sem Op Lib Jvm.Free Jvm.Stand Jvm.LawKit Jvm.RoadKit Bundle
theorem st1_len {L L' : List Slot} {k : Nat} {v : Value} (h : st1 L k v = some L') : L'.length = L.length := by
  unfold st1 at h
  split at h
  · cases h; simp
  · cases h
theorem st2_len {L L' : List Slot} {k : Nat} {v : Value} (h : st2 L k v = some L') : L'.length = L.length := by
  unfold st2 at h
  split at h
  · cases h; simp
  · cases h
theorem lrem_mod (x y : Int64) : x - (x / y) * y = x % y := by
  apply Int64.toInt_inj.mp
  have h1 := Int64.le_toInt (x % y)
  have h2 := Int64.toInt_lt (x % y)
  rw [Int64.toInt_sub, Int64.toInt_mul, Int64.toInt_div, Int.bmod_mul_bmod, Int.sub_bmod_bmod, Int.mul_comm (x.toInt.tdiv y.toInt), ← Int.tmod_def, ← Int64.toInt_mod]
  exact Int.bmod_eq_of_le_mul_two (by omega) (by omega)
theorem putOk_sim {ρ : List Addr} {ty : FieldType} {v w : Value} (h : putOk ty v = true) (hv : VR ρ v w) : narrow ty w = w ∧ fits ty w = true := by
  cases ty <;> cases v <;> first | (simp [putOk] at h; done) | skip
  · cases hv; exact ⟨rfl, rfl⟩
  · cases hv; exact ⟨rfl, rfl⟩
  · rename_i x
    cases hv
    simp only [putOk, Bool.or_eq_true, beq_iff_eq] at h
    rcases h with rfl | rfl
    · exact ⟨rfl, rfl⟩
    · exact ⟨rfl, rfl⟩
  · obtain ⟨a, -, rfl⟩ := hv; exact ⟨rfl, rfl⟩
theorem dflt_sim {ρ : List Addr} {ty : FieldType} (h : dfOk ty = true) : VR ρ (dflt ty) (defaultValue ty) := by
  cases ty <;> first | (simp [dfOk] at h; done) | exact rfl
theorem fieldOf_spec {P : PD} {c a : Nat} {cd : CD} {f : FD} (h1 : P.cls[c]? = some cd) (h2 : cd.2.2[a]? = some f) : fieldOf P c a = some f := by simp [fieldOf, h1, h2]
theorem in_wordsOf {P : PD} {d : MD} {x : Nat × It} {w : Jvm.Cond} (hd : d ∈ P.mth) (hx : x ∈ d.code) (hw : w ∈ iWords P d x) : w ∈ wordsOf P :=
  List.mem_append_right _ (List.mem_flatMap.mpr ⟨d, hd, List.mem_flatMap.mpr ⟨x, hx, hw⟩⟩)
theorem in_wordsC {P : PD} {cd : CD} {w : Jvm.Cond} (hd : cd ∈ P.cls) (hw : w ∈ cWords cd) : w ∈ wordsOf P :=
  List.mem_append_left _ (List.mem_append_left _ (List.mem_flatMap.mpr ⟨cd, hd, hw⟩))
theorem in_wordsM {P : PD} {y : MD} {j : Nat} {w : Jvm.Cond} (hd : P.mth[j]? = some y) (hj : 0 < j) (hw : w ∈ mWords y) : w ∈ wordsOf P := by
  refine List.mem_append_left _ (List.mem_append_right _ (List.mem_flatMap.mpr ⟨y, ?_, hw⟩))
  have : (P.mth.drop 1)[j - 1]? = some y := by rw [List.getElem?_drop]; rw [show 1 + (j - 1) = j by omega]; exact hd
  exact List.mem_of_getElem? this
theorem fWord_in {cd : CD} {f : FD} (h : f ∈ cd.2.2) : fWord cd.1 f ∈ cWords cd := List.mem_cons_of_mem _ (List.mem_cons_of_mem _ (List.mem_map.mpr ⟨f, h, rfl⟩))
theorem cChk_of {P : PD} (hP : chk P = true) {cd : CD} (h : cd ∈ P.cls) : cChk cd = true := by
  simp only [chk, Bool.and_eq_true, List.all_eq_true] at hP
  exact hP.1 cd h
theorem mChk_of {P : PD} (hP : chk P = true) {d : MD} (h : d ∈ P.mth) : mChk P d = true := by
  simp only [chk, Bool.and_eq_true, List.all_eq_true] at hP
  exact hP.2 d h
theorem cid_of {P : PD} (hP : chk P = true) {d : MD} (h : d ∈ P.mth) {cd : CD} (hc : P.cls[d.cid]? = some cd) : cd.1 = d.name.cls := by
  have := mChk_of hP h
  simp only [mChk, Bool.and_eq_true] at this
  have h4 := this.1.1.1.2
  unfold clsChk at h4
  rw [hc] at h4
  simpa using h4
section Step
variable {P : PD} {Z : State} {n0 : Nat} {a0 : Array Value} {l : Launch} {p : Program} {e : Env} {R : Room} {s : State} {m : MethodId} {args : Array Value} {below : List Frame} {meth : Method} {c : Code} {T : State} {locs : List Loc} {cells slots : Nat} {d : MD}
def Nxt (P : PD) (Z : State) (n0 : Nat) (l : Launch) (p : Program) (e : Env) (R : Room) (s : State) (m : MethodId) (args : Array Value) (below : List Frame) (meth : Method) (c : Code) (T : State) (cells slots : Nat) (ρ : List Addr) (g : JFrame) (pc' : Nat) (L L' : List Slot) (S' : List Value) (H1 : AHeap) : Prop :=
  ∃ T' locs' A' Sc', Stand p l e R s m args below meth c T' locs' cells slots ∧ L'.length = L.length ∧ LR ρ L' A' ∧ SR ρ S' Sc' ∧ HR P Z n0 T'.heap ρ H1 ∧ Fr n0 locs' ∧
    ∀ target, Steps p.tables e below (T'.setTop (mkF m pc' A' Sc')) target → Steps p.tables e below (T.setTop g) target
theorem Nxt.pure {ρ : List Addr} {H : AHeap} {g : JFrame} {pc' : Nat} {L L' : List Slot} {S' Sc' : List Value} {A' : Array Slot} (X : Stand p l e R s m args below meth c T locs cells slots) (hl : L'.length = L.length) (hL : LR ρ L' A') (hS : SR ρ S' Sc') (hH : HR P Z n0 T.heap ρ H) (hF : Fr n0 locs)
    (k : ∀ target, Steps p.tables e below (T.setTop (mkF m pc' A' Sc')) target → Steps p.tables e below (T.setTop g) target) : Nxt P Z n0 l p e R s m args below meth c T cells slots ρ g pc' L L' S' H :=
  ⟨T, locs, A', Sc', X, hl, hL, hS, hH, hF, k⟩
theorem Nxt.mem {ρ : List Addr} {H1 : AHeap} {g : JFrame} {pc' : Nat} {L L' : List Slot} {S' Sc' : List Value} {A' : Array Slot} {T' : State} {locs' : List Loc} (X : Stand p l e R s m args below meth c T' locs' cells slots) (hl : L'.length = L.length) (hL : LR ρ L' A') (hS : SR ρ S' Sc') (hH : HR P Z n0 T'.heap ρ H1) (hF : Fr n0 locs')
    (k : ∀ target, Steps p.tables e below (T'.setTop (mkF m pc' A' Sc')) target → Steps p.tables e below (T.setTop g) target) : Nxt P Z n0 l p e R s m args below meth c T cells slots ρ g pc' L L' S' H1 :=
  ⟨T', locs', A', Sc', X, hl, hL, hS, hH, hF, k⟩
set_option maxHeartbeats 4000000 in
theorem stepX (X : Stand p l e R s m args below meth c T locs cells slots) (hx : p.tables.exec = Jvm.exec) (hZ : Z.Warmed39 s.vm) (hown : s.vm.findClass d.name.cls = some m.cls) (hnm : meth.name = d.name.name) (hP : chk P = true) (hW : ∀ w ∈ wordsOf P, w.before a0 Z = true) (hdm : d ∈ P.mth)
    {pc len a : Nat} {er : List Bool} {b : Int} {i : Instr} (hit : (pc, i, len, er, a, b) ∈ d.code) (hd : decode c.code pc = .ok (i, len)) (hlen : lenOk i len = true) {ρ : List Addr} {L L' : List Slot} {S S' Sc : List Value} {H H1 : AHeap} {A : Array Slot}
    (hL : LR ρ L A) (hS : SR ρ S Sc) (hH : HR P Z n0 T.heap ρ H) (hF : Fr n0 locs) (h : xI P (d.name.name == "<init>") d.cid i a b L S H = some (L', S', H1)) :
    Nxt P Z n0 l p e R s m args below meth c T cells slots ρ (mkF m pc A Sc) (pc + len) L L' S' H1 := by
  have hWi : ∀ w ∈ iWords P d (pc, i, len, er, a, b), w.before a0 Z = true := fun w q => hW w (in_wordsOf hdm hit q)
  cases i with
  | aload_n k =>
    obtain rfl : len = 1 := by simpa [lenOk] using hlen
    simp only [xI] at h
    split at h
    · rename_i x q
      cases h
      obtain ⟨w, hv, hg⟩ := hL.get q
      obtain ⟨ad, h1, rfl⟩ := hv
      exact Nxt.pure X rfl hL ⟨_, _, rfl, ⟨ad, h1, rfl⟩, hS⟩ hH hF (fun t z => XS.aloadN (g := mkF m pc A Sc) X.here hx rfl hd hg rfl z)
    · cases h
  | aload k =>
    obtain rfl : len = 2 := by simpa [lenOk] using hlen
    simp only [xI] at h
    split at h
    · rename_i x q
      cases h
      obtain ⟨w, hv, hg⟩ := hL.get q
      obtain ⟨ad, h1, rfl⟩ := hv
      exact Nxt.pure X rfl hL ⟨_, _, rfl, ⟨ad, h1, rfl⟩, hS⟩ hH hF (fun t z => XS.aload (g := mkF m pc A Sc) X.here hx rfl hd hg rfl z)
    · cases h
  | iload_n k =>
    obtain rfl : len = 1 := by simpa [lenOk] using hlen
    simp only [xI] at h
    split at h
    · rename_i x q
      cases h
      obtain ⟨w, hv, hg⟩ := hL.get q
      obtain rfl : w = .int _ := hv
      exact Nxt.pure X rfl hL ⟨_, _, rfl, rfl, hS⟩ hH hF (fun t z => XS.iloadN (g := mkF m pc A Sc) X.here hx rfl hd hg z)
    · cases h
  | iload k =>
    obtain rfl : len = 2 := by simpa [lenOk] using hlen
    simp only [xI] at h
    split at h
    · rename_i x q
      cases h
      obtain ⟨w, hv, hg⟩ := hL.get q
      obtain rfl : w = .int _ := hv
      exact Nxt.pure X rfl hL ⟨_, _, rfl, rfl, hS⟩ hH hF (fun t z => XS.iload (g := mkF m pc A Sc) X.here hx rfl hd hg z)
    · cases h
  | lload_n k =>
    obtain rfl : len = 1 := by simpa [lenOk] using hlen
    simp only [xI] at h
    split at h
    · rename_i x q
      cases h
      obtain ⟨w, hv, hg⟩ := hL.get q
      obtain rfl : w = .long _ := hv
      exact Nxt.pure X rfl hL ⟨_, _, rfl, rfl, hS⟩ hH hF (fun t z => XT.lloadN (g := mkF m pc A Sc) X.here hx rfl hd hg z)
    · cases h
  | lload k =>
    obtain rfl : len = 2 := by simpa [lenOk] using hlen
    simp only [xI] at h
    split at h
    · rename_i x q
      cases h
      obtain ⟨w, hv, hg⟩ := hL.get q
      obtain rfl : w = .long _ := hv
      exact Nxt.pure X rfl hL ⟨_, _, rfl, rfl, hS⟩ hH hF (fun t z => XT.lload (g := mkF m pc A Sc) X.here hx rfl hd hg z)
    · cases h
  | istore_n k =>
    obtain rfl : len = 1 := by simpa [lenOk] using hlen
    simp only [xI] at h
    split at h
    · rename_i x S0
      obtain ⟨L1, q, e1⟩ := Option.map_eq_some_iff.mp h
      cases e1
      obtain ⟨S2, rfl, h2⟩ := hS.int
      obtain ⟨A', z1, z2⟩ := store1_sim hL q (show VR ρ (.int x) (.int x) from rfl) rfl
      exact Nxt.pure X (st1_len q) z2 h2 hH hF (fun t z => XS.istoreN (g := mkF m pc A _) X.here hx rfl hd rfl z1 z)
    · cases h
  | istore k =>
    obtain rfl : len = 2 := by simpa [lenOk] using hlen
    simp only [xI] at h
    split at h
    · rename_i x S0
      obtain ⟨L1, q, e1⟩ := Option.map_eq_some_iff.mp h
      cases e1
      obtain ⟨S2, rfl, h2⟩ := hS.int
      obtain ⟨A', z1, z2⟩ := store1_sim hL q (show VR ρ (.int x) (.int x) from rfl) rfl
      exact Nxt.pure X (st1_len q) z2 h2 hH hF (fun t z => XS.istore (g := mkF m pc A _) X.here hx rfl hd rfl z1 z)
    · cases h
  | astore_n k =>
    obtain rfl : len = 1 := by simpa [lenOk] using hlen
    simp only [xI] at h
    split at h
    · rename_i x S0
      obtain ⟨L1, q, e1⟩ := Option.map_eq_some_iff.mp h
      cases e1
      obtain ⟨ad, S2, h1, rfl, h2⟩ := hS.ref
      obtain ⟨A', z1, z2⟩ := store1_sim hL q (show VR ρ (.ref x) (.ref ad) from ⟨ad, h1, rfl⟩) rfl
      exact Nxt.pure X (st1_len q) z2 h2 hH hF (fun t z => XS.astoreN (g := mkF m pc A _) X.here hx rfl hd rfl rfl z1 z)
    · cases h
  | astore k =>
    obtain rfl : len = 2 := by simpa [lenOk] using hlen
    simp only [xI] at h
    split at h
    · rename_i x S0
      obtain ⟨L1, q, e1⟩ := Option.map_eq_some_iff.mp h
      cases e1
      obtain ⟨ad, S2, h1, rfl, h2⟩ := hS.ref
      obtain ⟨A', z1, z2⟩ := store1_sim hL q (show VR ρ (.ref x) (.ref ad) from ⟨ad, h1, rfl⟩) rfl
      exact Nxt.pure X (st1_len q) z2 h2 hH hF (fun t z => XS.astore (g := mkF m pc A _) X.here hx rfl hd rfl rfl z1 z)
    · cases h
  | lstore_n k =>
    obtain rfl : len = 1 := by simpa [lenOk] using hlen
    simp only [xI] at h
    split at h
    · rename_i x S0
      obtain ⟨L1, q, e1⟩ := Option.map_eq_some_iff.mp h
      cases e1
      obtain ⟨S2, rfl, h2⟩ := hS.long
      obtain ⟨A', z1, z2⟩ := store2_sim hL q (show VR ρ (.long x) (.long x) from rfl) rfl
      exact Nxt.pure X (st2_len q) z2 h2 hH hF (fun t z => XT.lstoreN (g := mkF m pc A _) X.here hx rfl hd rfl z1 z)
    · cases h
  | lstore k =>
    obtain rfl : len = 2 := by simpa [lenOk] using hlen
    simp only [xI] at h
    split at h
    · rename_i x S0
      obtain ⟨L1, q, e1⟩ := Option.map_eq_some_iff.mp h
      cases e1
      obtain ⟨S2, rfl, h2⟩ := hS.long
      obtain ⟨A', z1, z2⟩ := store2_sim hL q (show VR ρ (.long x) (.long x) from rfl) rfl
      exact Nxt.pure X (st2_len q) z2 h2 hH hF (fun t z => XT.lstore (g := mkF m pc A _) X.here hx rfl hd rfl z1 z)
    · cases h
  | iinc k dd =>
    obtain rfl : len = 3 := by simpa [lenOk] using hlen
    simp only [xI] at h
    split at h
    · rename_i x q0
      obtain ⟨L1, q, e1⟩ := Option.map_eq_some_iff.mp h
      cases e1
      obtain ⟨w, hv, hg⟩ := hL.get q0
      obtain rfl : w = .int _ := hv
      obtain ⟨A', z1, z2⟩ := store1_sim hL q (show VR ρ (.int (x + Int32.ofInt dd)) (.int (x + Int32.ofInt dd)) from rfl) rfl
      exact Nxt.pure X (st1_len q) z2 hS hH hF (fun t z => XS.iinc (g := mkF m pc A Sc) X.here hx rfl hd hg z1 z)
    · cases h
  | iconst v =>
    obtain rfl : len = 1 := by simpa [lenOk] using hlen
    simp only [xI] at h
    cases h
    exact Nxt.pure X rfl hL ⟨_, _, rfl, rfl, hS⟩ hH hF (fun t z => XS.iconst (g := mkF m pc A Sc) X.here hx rfl hd z)
  | bipush v =>
    obtain rfl : len = 2 := by simpa [lenOk] using hlen
    simp only [xI] at h
    cases h
    exact Nxt.pure X rfl hL ⟨_, _, rfl, rfl, hS⟩ hH hF (fun t z => XS.bipush (g := mkF m pc A Sc) X.here hx rfl hd z)
  | sipush v =>
    obtain rfl : len = 3 := by simpa [lenOk] using hlen
    simp only [xI] at h
    cases h
    exact Nxt.pure X rfl hL ⟨_, _, rfl, rfl, hS⟩ hH hF (fun t z => XS.sipush (g := mkF m pc A Sc) X.here hx rfl hd z)
  | lconst v =>
    obtain rfl : len = 1 := by simpa [lenOk] using hlen
    simp only [xI] at h
    cases h
    exact Nxt.pure X rfl hL ⟨_, _, rfl, rfl, hS⟩ hH hF (fun t z => XT.lconst (g := mkF m pc A Sc) X.here hx rfl hd z)
  | ldc k =>
    obtain rfl : len = 2 := by simpa [lenOk] using hlen
    simp only [xI] at h
    cases h
    have w1 := hWi (.constant d.name.cls k (Int32.ofInt b)) (List.mem_singleton.mpr rfl)
    exact Nxt.pure X rfl hL ⟨_, _, rfl, rfl, hS⟩ hH hF (fun t z => X.ldcInt hx hown (mvT hZ w1) (g := mkF m pc A Sc) rfl hd t z)
  | ldc2_w k =>
    obtain rfl : len = 3 := by simpa [lenOk] using hlen
    simp only [xI] at h
    cases h
    have w1 := hWi (.constantLong d.name.cls k (Int64.ofInt b)) (List.mem_singleton.mpr rfl)
    exact Nxt.pure X rfl hL ⟨_, _, rfl, rfl, hS⟩ hH hF (fun t z => X.ldc2Long hx hown (mvT hZ w1) (g := mkF m pc A Sc) rfl hd t z)
  | iadd =>
    obtain rfl : len = 1 := by simpa [lenOk] using hlen
    simp only [xI] at h
    split at h
    · rename_i y x S0
      cases h
      obtain ⟨S1, rfl, h1⟩ := hS.int
      obtain ⟨S2, rfl, h2⟩ := h1.int
      exact Nxt.pure X rfl hL ⟨_, _, rfl, rfl, h2⟩ hH hF (fun t z => XS.iadd (g := mkF m pc A _) X.here hx rfl hd rfl z)
    · cases h
  | isub =>
    obtain rfl : len = 1 := by simpa [lenOk] using hlen
    simp only [xI] at h
    split at h
    · rename_i y x S0
      cases h
      obtain ⟨S1, rfl, h1⟩ := hS.int
      obtain ⟨S2, rfl, h2⟩ := h1.int
      exact Nxt.pure X rfl hL ⟨_, _, rfl, rfl, h2⟩ hH hF (fun t z => XS.isub (g := mkF m pc A _) X.here hx rfl hd rfl z)
    · cases h
  | imul =>
    obtain rfl : len = 1 := by simpa [lenOk] using hlen
    simp only [xI] at h
    split at h
    · rename_i y x S0
      cases h
      obtain ⟨S1, rfl, h1⟩ := hS.int
      obtain ⟨S2, rfl, h2⟩ := h1.int
      exact Nxt.pure X rfl hL ⟨_, _, rfl, rfl, h2⟩ hH hF (fun t z => XS.imul (g := mkF m pc A _) X.here hx rfl hd rfl z)
    · cases h
  | iand =>
    obtain rfl : len = 1 := by simpa [lenOk] using hlen
    simp only [xI] at h
    split at h
    · rename_i y x S0
      cases h
      obtain ⟨S1, rfl, h1⟩ := hS.int
      obtain ⟨S2, rfl, h2⟩ := h1.int
      exact Nxt.pure X rfl hL ⟨_, _, rfl, rfl, h2⟩ hH hF (fun t z => XS.iand (g := mkF m pc A _) X.here hx rfl hd rfl z)
    · cases h
  | ior =>
    obtain rfl : len = 1 := by simpa [lenOk] using hlen
    simp only [xI] at h
    split at h
    · rename_i y x S0
      cases h
      obtain ⟨S1, rfl, h1⟩ := hS.int
      obtain ⟨S2, rfl, h2⟩ := h1.int
      exact Nxt.pure X rfl hL ⟨_, _, rfl, rfl, h2⟩ hH hF (fun t z => XT.ior (g := mkF m pc A _) X.here hx rfl hd rfl z)
    · cases h
  | ixor =>
    obtain rfl : len = 1 := by simpa [lenOk] using hlen
    simp only [xI] at h
    split at h
    · rename_i y x S0
      cases h
      obtain ⟨S1, rfl, h1⟩ := hS.int
      obtain ⟨S2, rfl, h2⟩ := h1.int
      exact Nxt.pure X rfl hL ⟨_, _, rfl, rfl, h2⟩ hH hF (fun t z => XT.ixor (g := mkF m pc A _) X.here hx rfl hd rfl z)
    · cases h
  | ishl =>
    obtain rfl : len = 1 := by simpa [lenOk] using hlen
    simp only [xI] at h
    split at h
    · rename_i y x S0
      cases h
      obtain ⟨S1, rfl, h1⟩ := hS.int
      obtain ⟨S2, rfl, h2⟩ := h1.int
      exact Nxt.pure X rfl hL ⟨_, _, rfl, rfl, h2⟩ hH hF (fun t z => XT.ishl (g := mkF m pc A _) X.here hx rfl hd rfl z)
    · cases h
  | ishr =>
    obtain rfl : len = 1 := by simpa [lenOk] using hlen
    simp only [xI] at h
    split at h
    · rename_i y x S0
      cases h
      obtain ⟨S1, rfl, h1⟩ := hS.int
      obtain ⟨S2, rfl, h2⟩ := h1.int
      exact Nxt.pure X rfl hL ⟨_, _, rfl, rfl, h2⟩ hH hF (fun t z => XT.ishr (g := mkF m pc A _) X.here hx rfl hd rfl z)
    · cases h
  | iushr =>
    obtain rfl : len = 1 := by simpa [lenOk] using hlen
    simp only [xI] at h
    split at h
    · rename_i y x S0
      cases h
      obtain ⟨S1, rfl, h1⟩ := hS.int
      obtain ⟨S2, rfl, h2⟩ := h1.int
      exact Nxt.pure X rfl hL ⟨_, _, rfl, rfl, h2⟩ hH hF (fun t z => XT.iushr (g := mkF m pc A _) X.here hx rfl hd rfl z)
    · cases h
  | ladd =>
    obtain rfl : len = 1 := by simpa [lenOk] using hlen
    simp only [xI] at h
    split at h
    · rename_i y x S0
      cases h
      obtain ⟨S1, rfl, h1⟩ := hS.long
      obtain ⟨S2, rfl, h2⟩ := h1.long
      exact Nxt.pure X rfl hL ⟨_, _, rfl, rfl, h2⟩ hH hF (fun t z => XT.ladd (g := mkF m pc A _) X.here hx rfl hd rfl z)
    · cases h
  | lsub =>
    obtain rfl : len = 1 := by simpa [lenOk] using hlen
    simp only [xI] at h
    split at h
    · rename_i y x S0
      cases h
      obtain ⟨S1, rfl, h1⟩ := hS.long
      obtain ⟨S2, rfl, h2⟩ := h1.long
      exact Nxt.pure X rfl hL ⟨_, _, rfl, rfl, h2⟩ hH hF (fun t z => XT.lsub (g := mkF m pc A _) X.here hx rfl hd rfl z)
    · cases h
  | lmul =>
    obtain rfl : len = 1 := by simpa [lenOk] using hlen
    simp only [xI] at h
    split at h
    · rename_i y x S0
      cases h
      obtain ⟨S1, rfl, h1⟩ := hS.long
      obtain ⟨S2, rfl, h2⟩ := h1.long
      exact Nxt.pure X rfl hL ⟨_, _, rfl, rfl, h2⟩ hH hF (fun t z => XT.lmul (g := mkF m pc A _) X.here hx rfl hd rfl z)
    · cases h
  | land =>
    obtain rfl : len = 1 := by simpa [lenOk] using hlen
    simp only [xI] at h
    split at h
    · rename_i y x S0
      cases h
      obtain ⟨S1, rfl, h1⟩ := hS.long
      obtain ⟨S2, rfl, h2⟩ := h1.long
      exact Nxt.pure X rfl hL ⟨_, _, rfl, rfl, h2⟩ hH hF (fun t z => XT.land (g := mkF m pc A _) X.here hx rfl hd rfl z)
    · cases h
  | lor =>
    obtain rfl : len = 1 := by simpa [lenOk] using hlen
    simp only [xI] at h
    split at h
    · rename_i y x S0
      cases h
      obtain ⟨S1, rfl, h1⟩ := hS.long
      obtain ⟨S2, rfl, h2⟩ := h1.long
      exact Nxt.pure X rfl hL ⟨_, _, rfl, rfl, h2⟩ hH hF (fun t z => XT.lor (g := mkF m pc A _) X.here hx rfl hd rfl z)
    · cases h
  | lxor =>
    obtain rfl : len = 1 := by simpa [lenOk] using hlen
    simp only [xI] at h
    split at h
    · rename_i y x S0
      cases h
      obtain ⟨S1, rfl, h1⟩ := hS.long
      obtain ⟨S2, rfl, h2⟩ := h1.long
      exact Nxt.pure X rfl hL ⟨_, _, rfl, rfl, h2⟩ hH hF (fun t z => XT.lxor (g := mkF m pc A _) X.here hx rfl hd rfl z)
    · cases h
  | lcmp =>
    obtain rfl : len = 1 := by simpa [lenOk] using hlen
    simp only [xI] at h
    split at h
    · rename_i y x S0
      cases h
      obtain ⟨S1, rfl, h1⟩ := hS.long
      obtain ⟨S2, rfl, h2⟩ := h1.long
      exact Nxt.pure X rfl hL ⟨_, _, rfl, rfl, h2⟩ hH hF (fun t z => XT.lcmp (g := mkF m pc A _) X.here hx rfl hd rfl z)
    · cases h
  | lshl =>
    obtain rfl : len = 1 := by simpa [lenOk] using hlen
    simp only [xI] at h
    split at h
    · rename_i y x S0
      cases h
      obtain ⟨S1, rfl, h1⟩ := hS.int
      obtain ⟨S2, rfl, h2⟩ := h1.long
      exact Nxt.pure X rfl hL ⟨_, _, rfl, rfl, h2⟩ hH hF (fun t z => XT.lshl (g := mkF m pc A _) X.here hx rfl hd rfl z)
    · cases h
  | lshr =>
    obtain rfl : len = 1 := by simpa [lenOk] using hlen
    simp only [xI] at h
    split at h
    · rename_i y x S0
      cases h
      obtain ⟨S1, rfl, h1⟩ := hS.int
      obtain ⟨S2, rfl, h2⟩ := h1.long
      exact Nxt.pure X rfl hL ⟨_, _, rfl, rfl, h2⟩ hH hF (fun t z => XT.lshr (g := mkF m pc A _) X.here hx rfl hd rfl z)
    · cases h
  | lushr =>
    obtain rfl : len = 1 := by simpa [lenOk] using hlen
    simp only [xI] at h
    split at h
    · rename_i y x S0
      cases h
      obtain ⟨S1, rfl, h1⟩ := hS.int
      obtain ⟨S2, rfl, h2⟩ := h1.long
      exact Nxt.pure X rfl hL ⟨_, _, rfl, rfl, h2⟩ hH hF (fun t z => XT.lushr (g := mkF m pc A _) X.here hx rfl hd rfl z)
    · cases h
  | idiv =>
    obtain rfl : len = 1 := by simpa [lenOk] using hlen
    simp only [xI] at h
    split at h
    · rename_i y x S0
      split at h
      · cases h
      · rename_i hy
        cases h
        obtain ⟨S1, rfl, h1⟩ := hS.int
        obtain ⟨S2, rfl, h2⟩ := h1.int
        exact Nxt.pure X rfl hL ⟨_, _, rfl, rfl, h2⟩ hH hF (fun t z => XS.idiv (g := mkF m pc A _) X.here hx rfl hd rfl hy z)
    · cases h
  | irem =>
    obtain rfl : len = 1 := by simpa [lenOk] using hlen
    simp only [xI] at h
    split at h
    · rename_i y x S0
      split at h
      · cases h
      · rename_i hy
        cases h
        obtain ⟨S1, rfl, h1⟩ := hS.int
        obtain ⟨S2, rfl, h2⟩ := h1.int
        exact Nxt.pure X rfl hL ⟨_, _, rfl, rfl, h2⟩ hH hF (fun t z => iremM (g := mkF m pc A _) X hx rfl hd rfl hy z)
    · cases h
  | ldiv =>
    obtain rfl : len = 1 := by simpa [lenOk] using hlen
    simp only [xI] at h
    split at h
    · rename_i y x S0
      split at h
      · cases h
      · rename_i hy
        cases h
        obtain ⟨S1, rfl, h1⟩ := hS.long
        obtain ⟨S2, rfl, h2⟩ := h1.long
        exact Nxt.pure X rfl hL ⟨_, _, rfl, rfl, h2⟩ hH hF (fun t z => XT.ldiv (g := mkF m pc A _) X.here hx rfl hd rfl hy z)
    · cases h
  | lrem =>
    obtain rfl : len = 1 := by simpa [lenOk] using hlen
    simp only [xI] at h
    split at h
    · rename_i y x S0
      split at h
      · cases h
      · rename_i hy
        cases h
        obtain ⟨S1, rfl, h1⟩ := hS.long
        obtain ⟨S2, rfl, h2⟩ := h1.long
        exact Nxt.pure X rfl hL ⟨_, _, rfl, rfl, h2⟩ hH hF (fun t z => XT.lrem (g := mkF m pc A _) X.here hx rfl hd rfl hy (by rw [lrem_mod]; exact z))
    · cases h
  | i2l =>
    obtain rfl : len = 1 := by simpa [lenOk] using hlen
    simp only [xI] at h
    split at h
    · rename_i x S0
      cases h
      obtain ⟨S1, rfl, h1⟩ := hS.int
      exact Nxt.pure X rfl hL ⟨_, _, rfl, rfl, h1⟩ hH hF (fun t z => XT.i2l (g := mkF m pc A _) X.here hx rfl hd rfl z)
    · cases h
  | l2i =>
    obtain rfl : len = 1 := by simpa [lenOk] using hlen
    simp only [xI] at h
    split at h
    · rename_i x S0
      cases h
      obtain ⟨S1, rfl, h1⟩ := hS.long
      exact Nxt.pure X rfl hL ⟨_, _, rfl, rfl, h1⟩ hH hF (fun t z => XT.l2i (g := mkF m pc A _) X.here hx rfl hd rfl z)
    · cases h
  | dup =>
    obtain rfl : len = 1 := by simpa [lenOk] using hlen
    simp only [xI] at h
    split at h
    · rename_i x S0
      cases h
      obtain ⟨S1, rfl, h1⟩ := hS.int
      exact Nxt.pure X rfl hL ⟨_, _, rfl, rfl, _, _, rfl, rfl, h1⟩ hH hF (fun t z => XS.dup (g := mkF m pc A _) X.here hx rfl hd rfl rfl z)
    · rename_i x S0
      cases h
      obtain ⟨ad, S1, g1, rfl, h1⟩ := hS.ref
      exact Nxt.pure X rfl hL ⟨_, _, rfl, ⟨ad, g1, rfl⟩, _, _, rfl, ⟨ad, g1, rfl⟩, h1⟩ hH hF (fun t z => XS.dup (g := mkF m pc A _) X.here hx rfl hd rfl rfl z)
    · cases h
  | dup2 =>
    obtain rfl : len = 1 := by simpa [lenOk] using hlen
    simp only [xI] at h
    split at h
    · rename_i x y S0
      cases h
      obtain ⟨S1, rfl, h1⟩ := hS.int
      obtain ⟨ad, S2, g1, rfl, h2⟩ := h1.ref
      exact Nxt.pure X rfl hL ⟨_, _, rfl, rfl, _, _, rfl, ⟨ad, g1, rfl⟩, _, _, rfl, rfl, _, _, rfl, ⟨ad, g1, rfl⟩, h2⟩ hH hF (fun t z => XT.dup2 (g := mkF m pc A _) X.here hx rfl hd rfl rfl rfl z)
    · rename_i x S0
      cases h
      obtain ⟨S1, rfl, h1⟩ := hS.long
      exact Nxt.pure X rfl hL ⟨_, _, rfl, rfl, _, _, rfl, rfl, h1⟩ hH hF (fun t z => XT.dup2L (g := mkF m pc A _) X.here hx rfl hd rfl z)
    · cases h
  | pop =>
    obtain rfl : len = 1 := by simpa [lenOk] using hlen
    simp only [xI] at h
    split at h
    · rename_i x S0
      cases h
      obtain ⟨S1, rfl, h1⟩ := hS.int
      exact Nxt.pure X rfl hL h1 hH hF (fun t z => XT.pop (g := mkF m pc A _) X.here hx rfl hd rfl rfl z)
    · cases h
  | getfield k =>
    obtain rfl : len = 3 := by simpa [lenOk] using hlen
    simp only [xI] at h
    split at h
    · rename_i o S0
      obtain ⟨ad, S1, g1, rfl, h1⟩ := hS.ref
      split at h
      · rename_i c0 fs hc0
        split at h
        · rename_i ec
          subst ec
          obtain ⟨ad', g2, cd, q1, q2, q3, q4⟩ := hH.at hc0
          rw [g1] at g2; cases g2
          have hcd := cid_of hP hdm q1
          have core : ∀ v, fs[a]? = some v → ∃ w T2, VR ρ v w ∧ Stand p l e R s m args below meth c T2 locs cells slots ∧ T2.heap = T.heap ∧ ∀ target, Steps p.tables e below (T2.setTop (mkF m (pc + 3) A (w :: S1))) target → Steps p.tables e below (T.setTop (mkF m pc A (.ref ad :: S1))) target := fun v hv => by
            have ha : a < cd.2.2.length := by rw [← q3]; exact (List.getElem?_eq_some_iff.mp hv).1
            obtain ⟨w, hvw, F⟩ := q4 a v _ hv (List.getElem?_eq_getElem ha)
            have w1 := hWi (.fieldLink d.name.cls k d.name.cls cd.2.2[a].1 cd.2.2[a].2.1) (by
              show _ ∈ fLink P d k a
              unfold fLink
              rw [fieldOf_spec q1 (List.getElem?_eq_getElem ha)]
              exact List.mem_singleton.mpr rfl)
            rw [hcd] at F
            obtain ⟨T2, X2, e2, st2⟩ := getF X hx hZ hown (host := "") (Or.inl w1) Via.refl rfl F (g := mkF m pc A (.ref ad :: S1)) rfl rfl hd
            exact ⟨w, T2, hvw, X2, e2, st2⟩
          split at h
          · rename_i x hv
            cases h
            obtain ⟨w, T2, hvw, X2, e2, st2⟩ := core _ hv
            exact Nxt.mem X2 rfl hL ⟨_, _, rfl, hvw, h1⟩ (by rw [e2]; exact hH) hF st2
          · rename_i x hv
            cases h
            obtain ⟨w, T2, hvw, X2, e2, st2⟩ := core _ hv
            exact Nxt.mem X2 rfl hL ⟨_, _, rfl, hvw, h1⟩ (by rw [e2]; exact hH) hF st2
          · rename_i x hv
            cases h
            obtain ⟨w, T2, hvw, X2, e2, st2⟩ := core _ hv
            exact Nxt.mem X2 rfl hL ⟨_, _, rfl, hvw, h1⟩ (by rw [e2]; exact hH) hF st2
          · cases h
        · cases h
      · cases h
    · cases h
  | putfield k =>
    obtain rfl : len = 3 := by simpa [lenOk] using hlen
    simp only [xI] at h
    split at h
    · rename_i v o S0
      obtain ⟨w, Sx, rfl, hvw, hS1⟩ := hS
      obtain ⟨ad, S1, g1, rfl, h1⟩ := hS1.ref
      split at h
      · rename_i c0 fs hc0
        split at h
        · rename_i ec
          obtain ⟨ec, enr⟩ := ec
          subst ec
          split at h
          · rename_i nm ds ty fin hf
            split at h
            · rename_i hok
              cases h
              simp only [Bool.and_eq_true] at hok
              obtain ⟨hok, hfin⟩ := hok
              obtain ⟨ad', g2, cd, q1, q2, q3, q4⟩ := hH.at hc0
              rw [g1] at g2; cases g2
              have hcd := cid_of hP hdm q1
              rw [q1] at hf
              have hf' : cd.2.2[a]? = some (nm, ds, ty, fin) := hf
              have ha : a < fs.length := by rw [q3]; exact (List.getElem?_eq_some_iff.mp hf').1
              obtain ⟨w0, -, F⟩ := q4 a _ _ (List.getElem?_eq_getElem ha) hf'
              have w1 := hWi (.fieldLink d.name.cls k d.name.cls nm ds) (by
                show _ ∈ fLink P d k a
                unfold fLink
                rw [fieldOf_spec q1 hf']
                exact List.mem_singleton.mpr rfl)
              have hcm : cd ∈ P.cls := List.mem_of_getElem? q1
              have w2 := hW _ (in_wordsC hcm (fWord_in (List.mem_of_getElem? hf')))
              have w3 := hW (.instantiable cd.1 cd.2.1) (in_wordsC hcm (List.mem_cons_self ..))
              have hck := cChk_of hP hcm
              have hck' := hck
              simp only [cChk, Bool.and_eq_true, List.all_eq_true] at hck'
              have f1 := hck'.2 _ (List.mem_of_getElem? hf')
              simp only [fChk, Bool.and_eq_true, decide_eq_true_eq] at f1
              obtain ⟨p1, p2⟩ := putOk_sim hok hvw
              have Ly : (Jvm.Cond.lays cd.1 cd.1 nm ds).before a0 Z = true ∨ ((Jvm.Cond.laysFinal cd.1 cd.1 nm ds).before a0 Z = true ∧ d.name.cls = cd.1 ∧ meth.name = "<init>") := by
                unfold fWord at w2
                cases fin with
                | false => exact Or.inl w2
                | true => exact Or.inr ⟨w2, hcd.symm, by rw [hnm]; simpa using hfin⟩
              obtain ⟨T2, h2, X2, e2, W2, st2⟩ := putF X hx hZ hown (host := "") (R0 := d.name.cls) (O := cd.1) (Or.inl w1) (by rw [hcd]; exact Via.refl) rfl F q2 Ly w3 f1.1 p1 p2 (g := mkF m pc A (w :: .ref ad :: S1)) rfl rfl hd
              have hH2 := hH.putF (a0 := a0) g1 hc0 q1 hf' hck (fun f hfm => hW _ (in_wordsC hcm (fWord_in hfm))) W2 hvw
              exact Nxt.mem X2 rfl hL h1 (by rw [e2]; exact hH2) (Fr.snoc X2 hF (hH.2.2.2.1 _ _ g1 enr)) st2
            · cases h
          · cases h
        · cases h
      · cases h
    · cases h
  | iaload =>
    obtain rfl : len = 1 := by simpa [lenOk] using hlen
    simp only [xI] at h
    split at h
    · rename_i j o S0
      obtain ⟨S1, rfl, h1⟩ := hS.int
      obtain ⟨ad, S2, g1, rfl, h2⟩ := h1.ref
      split at h
      · rename_i B hc0
        obtain ⟨x, q, e1⟩ := Option.map_eq_some_iff.mp h
        cases e1
        obtain ⟨hj, hat⟩ := rdA_spec q
        obtain ⟨ad', g2, cl, Ar, z1, z2, z3⟩ := hH.at hc0
        rw [g1] at g2; cases g2
        have hin : ¬ (j < 0 ∨ cl.slots.size ≤ j.toNatClampNeg) := by
          have := (List.getElem?_eq_some_iff.mp hat).1
          rintro (y | y)
          · exact hj y
          · omega
        exact Nxt.pure X rfl hL ⟨_, _, rfl, rfl, h2⟩ hH hF (fun t z => X.iaload hx (j := j) (v := .int x) Ar.1 (State.isArrayOf_alike hZ.alike Ar.2.1) Ar.2.2 hin (z3 _ _ hat) (g := mkF m pc A _) rfl rfl hd t z)
      · cases h
    · cases h
  | baload =>
    obtain rfl : len = 1 := by simpa [lenOk] using hlen
    simp only [xI] at h
    split at h
    · rename_i j o S0
      obtain ⟨S1, rfl, h1⟩ := hS.int
      obtain ⟨ad, S2, g1, rfl, h2⟩ := h1.ref
      split at h
      · rename_i B hc0
        obtain ⟨x, q, e1⟩ := Option.map_eq_some_iff.mp h
        cases e1
        obtain ⟨hj, hat⟩ := rdA_spec q
        obtain ⟨ad', g2, cl, Ar, z1, z2, z3⟩ := hH.at hc0
        rw [g1] at g2; cases g2
        have hin : ¬ (j < 0 ∨ cl.slots.size ≤ j.toNatClampNeg) := by
          have := (List.getElem?_eq_some_iff.mp hat).1
          rintro (y | y)
          · exact hj y
          · omega
        exact Nxt.pure X rfl hL ⟨_, _, rfl, rfl, h2⟩ hH hF (fun t z => X.baloadBooleans hx (j := j) (v := .int x) Ar.1 (State.isArrayOf_alike hZ.alike Ar.2.1) Ar.2.2 hin (z3 _ _ hat) (g := mkF m pc A _) rfl rfl hd t z)
      · cases h
    · cases h
  | laload =>
    obtain rfl : len = 1 := by simpa [lenOk] using hlen
    simp only [xI] at h
    split at h
    · rename_i j o S0
      obtain ⟨S1, rfl, h1⟩ := hS.int
      obtain ⟨ad, S2, g1, rfl, h2⟩ := h1.ref
      split at h
      · rename_i B hc0
        obtain ⟨x, q, e1⟩ := Option.map_eq_some_iff.mp h
        cases e1
        obtain ⟨hj, hat⟩ := rdA_spec q
        obtain ⟨ad', g2, cl, Ar, z1, z2, z3⟩ := hH.at hc0
        rw [g1] at g2; cases g2
        have hin : ¬ (j < 0 ∨ cl.slots.size ≤ j.toNatClampNeg) := by
          have := (List.getElem?_eq_some_iff.mp hat).1
          rintro (y | y)
          · exact hj y
          · omega
        exact Nxt.pure X rfl hL ⟨_, _, rfl, rfl, h2⟩ hH hF (fun t z => X.laload hx (j := j) (v := .long x) Ar.1 (State.isArrayOf_alike hZ.alike Ar.2.1) Ar.2.2 hin (z3 _ _ hat) (g := mkF m pc A _) rfl rfl hd t z)
      · cases h
    · cases h
  | iastore =>
    obtain rfl : len = 1 := by simpa [lenOk] using hlen
    simp only [xI] at h
    split at h
    · rename_i x j o S0
      obtain ⟨S1, rfl, h1⟩ := hS.int
      obtain ⟨S2, rfl, h2⟩ := h1.int
      obtain ⟨ad, S3, g1, rfl, h3⟩ := h2.ref
      split at h
      · rename_i B hc0
        split at h
        · rename_i enr
          obtain ⟨B', q, e1⟩ := Option.map_eq_some_iff.mp h
          cases e1
          obtain ⟨hj, hlt, rfl⟩ := wrA_spec q
          obtain ⟨ad', g2, cl, Ar, z1, z2, z3⟩ := hH.at hc0
          rw [g1] at g2; cases g2
          have hin : ¬ (j < 0 ∨ cl.slots.size ≤ j.toNatClampNeg) := by
            rintro (y | y)
            · exact hj y
            · omega
          obtain ⟨T2, h2', X2, e2, W2, st2⟩ := stI X hx hZ rfl Ar (j := j) (x := x) hin (g := mkF m pc A _) rfl rfl hd
          exact Nxt.mem X2 rfl hL h3 (by rw [e2]; exact hH.wrI g1 hc0 W2) (Fr.snoc X2 hF (hH.2.2.2.1 _ _ g1 enr)) st2
        · cases h
      · cases h
    · cases h
  | bastore =>
    obtain rfl : len = 1 := by simpa [lenOk] using hlen
    simp only [xI] at h
    split at h
    · rename_i x j o S0
      obtain ⟨S1, rfl, h1⟩ := hS.int
      obtain ⟨S2, rfl, h2⟩ := h1.int
      obtain ⟨ad, S3, g1, rfl, h3⟩ := h2.ref
      split at h
      · rename_i B hc0
        split at h
        · rename_i enr
          obtain ⟨B', q, e1⟩ := Option.map_eq_some_iff.mp h
          cases e1
          obtain ⟨hj, hlt, rfl⟩ := wrA_spec q
          obtain ⟨ad', g2, cl, Ar, z1, z2, z3⟩ := hH.at hc0
          rw [g1] at g2; cases g2
          have hin : ¬ (j < 0 ∨ cl.slots.size ≤ j.toNatClampNeg) := by
            rintro (y | y)
            · exact hj y
            · omega
          obtain ⟨T2, h2', X2, e2, W2, st2⟩ := stZ X hx hZ rfl Ar (j := j) (x := x) hin (g := mkF m pc A _) rfl rfl hd
          exact Nxt.mem X2 rfl hL h3 (by rw [e2]; exact hH.wrI g1 hc0 W2) (Fr.snoc X2 hF (hH.2.2.2.1 _ _ g1 enr)) st2
        · cases h
      · cases h
    · cases h
  | lastore =>
    obtain rfl : len = 1 := by simpa [lenOk] using hlen
    simp only [xI] at h
    split at h
    · rename_i x j o S0
      obtain ⟨S1, rfl, h1⟩ := hS.long
      obtain ⟨S2, rfl, h2⟩ := h1.int
      obtain ⟨ad, S3, g1, rfl, h3⟩ := h2.ref
      split at h
      · rename_i B hc0
        split at h
        · rename_i enr
          obtain ⟨B', q, e1⟩ := Option.map_eq_some_iff.mp h
          cases e1
          obtain ⟨hj, hlt, rfl⟩ := wrA_spec q
          obtain ⟨ad', g2, cl, Ar, z1, z2, z3⟩ := hH.at hc0
          rw [g1] at g2; cases g2
          have hin : ¬ (j < 0 ∨ cl.slots.size ≤ j.toNatClampNeg) := by
            rintro (y | y)
            · exact hj y
            · omega
          obtain ⟨T2, h2', X2, e2, W2, st2⟩ := stJ X hx hZ rfl Ar (j := j) (x := x) hin (g := mkF m pc A _) rfl rfl hd
          exact Nxt.mem X2 rfl hL h3 (by rw [e2]; exact hH.wrJ g1 hc0 W2) (Fr.snoc X2 hF (hH.2.2.2.1 _ _ g1 enr)) st2
        · cases h
      · cases h
    · cases h
  | arraylength =>
    obtain rfl : len = 1 := by simpa [lenOk] using hlen
    simp only [xI] at h
    split at h
    · rename_i o S0
      obtain ⟨ad, S1, g1, rfl, h1⟩ := hS.ref
      split at h
      · rename_i bb B hc0
        cases h
        obtain ⟨ad', g2, cl, Ar, z1, z2, z3⟩ := hH.at hc0
        rw [g1] at g2; cases g2
        exact Nxt.pure X rfl hL ⟨_, _, rfl, rfl, h1⟩ hH hF (fun t z => X.arraylength hx (cell := cl) Ar.1 (State.isArrayOf_alike hZ.alike Ar.2.1) (g := mkF m pc A _) rfl rfl hd t (by rw [z1]; exact z))
      · cases h
    · cases h
  | _ => simp [xI] at h
set_option maxHeartbeats 4000000 in
theorem stepN (X : Stand p l e R s m args below meth c T locs cells slots) (hx : p.tables.exec = Jvm.exec) (hZ : Z.Warmed39 s.vm) (hown : s.vm.findClass d.name.cls = some m.cls) (hP : chk P = true) (hW : ∀ w ∈ wordsOf P, w.before a0 Z = true) (hdm : d ∈ P.mth)
    {pc len a ks : Nat} {er : List Bool} {b : Int} {i : Instr} (hit : (pc, i, len, er, a, b) ∈ d.code) (hd : decode c.code pc = .ok (i, len)) (hlen : lenOk i len = true) {ρ : List Addr} {S S' Sc : List Value} {H H1 : AHeap} {A : Array Slot}
    (hS : SR ρ S Sc) (hH : HR P Z n0 T.heap ρ H) (h : xN P i a S H = some (S', H1, ks)) (hc : cells + 1 ≤ R.cells) (hl : slots + ks ≤ R.slots) :
    ∃ T' ad Sc', Stand p l e R s m args below meth c T' locs (cells + 1) (slots + ks) ∧ SR (ρ ++ [ad]) S' Sc' ∧ HR P Z n0 T'.heap (ρ ++ [ad]) H1 ∧
      ∀ target, Steps p.tables e below (T'.setTop (mkF m (pc + len) A Sc')) target → Steps p.tables e below (T.setTop (mkF m pc A Sc)) target := by
  have hWi : ∀ w ∈ iWords P d (pc, i, len, er, a, b), w.before a0 Z = true := fun w q => hW w (in_wordsOf hdm hit q)
  cases i with
  | new k =>
    obtain rfl : len = 3 := by simpa [lenOk] using hlen
    simp only [xN] at h
    split at h
    · rename_i cd q1
      cases h
      have hcm : cd ∈ P.cls := List.mem_of_getElem? q1
      have w1 := hWi (.classLink d.name.cls k cd.1) (by simp only [iWords, q1]; exact List.mem_singleton.mpr rfl)
      have w2 := hW (.instantiable cd.1 cd.2.1) (in_wordsC hcm (List.mem_cons_self ..))
      have w3 := hW (.initialized cd.1) (in_wordsC hcm (List.mem_cons_of_mem _ (List.mem_cons_self ..)))
      obtain ⟨T2, h2, X2, e2, E2, A2, D2, -, st2⟩ := newO X hx hZ hown w1 w2 w3 rfl (g := mkF m pc A Sc) rfl hd hc hl
      have hck := cChk_of hP hcm
      simp only [cChk, Bool.and_eq_true, List.all_eq_true] at hck
      have hcr : CR P Z h2 (ρ ++ [T.heap.size]) T.heap.size (.inl (a, cd.2.2.map fun f => dflt f.2.2.1)) := by
        refine ⟨cd, q1, A2, by simp, fun j v fd y1 y2 => ?_⟩
        rw [List.getElem?_map, y2] at y1
        cases y1
        have f1 := hck.2 _ (List.mem_of_getElem? y2)
        simp only [fChk, Bool.and_eq_true, decide_eq_true_eq] at f1
        exact ⟨_, dflt_sim f1.2, D2 (laid_of (hW _ (in_wordsC hcm (fWord_in (List.mem_of_getElem? y2))))) f1.1⟩
      refine ⟨T2, T.heap.size, _, X2, ⟨_, _, rfl, ⟨T.heap.size, ?_, rfl⟩, hS.mono⟩, (by rw [e2]; exact hH.push E2 hcr), st2⟩
      rw [← hH.2.1]; simp
    · cases h
  | newarray t =>
    obtain rfl : len = 2 := by simpa [lenOk] using hlen
    simp only [xN] at h
    split at h
    · rename_i n S0
      obtain ⟨S1, rfl, h1⟩ := hS.int
      split at h
      · cases h
      · rename_i hn
        have hn1 : ¬ n < 0 := fun z => hn (Or.inl z)
        have hn2 : n.toNatClampNeg ≤ 100000 := Nat.le_of_not_lt fun z => hn (Or.inr z)
        have w1 := hWi (.arrayClass (newarray.typeOf t)) (List.mem_singleton.mpr rfl)
        have top : (ρ ++ [T.heap.size])[H.length]? = some T.heap.size := by rw [← hH.2.1]; simp
        split at h
        · cases h
          obtain ⟨T2, h2, cA, X2, e2, E2, A2, st2⟩ := newP X hx hZ w1 rfl (g := mkF m pc A _) rfl hd rfl hn1 (cap := n.toNatClampNeg) (Nat.le_refl _) (by omega) hc hl
          have hcr : CR P Z h2 (ρ ++ [T.heap.size]) T.heap.size ((.inr (.inl (false, List.replicate n.toNatClampNeg 0)) : ACell)) := by
            refine ⟨_, A2, by simp [sz_new], by simp; omega, fun j x y => ?_⟩
            rw [List.getElem?_replicate] at y
            split at y
            · rename_i lt
              cases y
              simp [newA, lt, newarray.typeOf, defaultValue]
            · cases y
          exact ⟨T2, T.heap.size, _, X2, ⟨_, _, rfl, ⟨T.heap.size, top, rfl⟩, h1.mono⟩, (by rw [e2]; exact hH.push E2 hcr), st2⟩
        · cases h
          obtain ⟨T2, h2, cA, X2, e2, E2, A2, st2⟩ := newP X hx hZ w1 rfl (g := mkF m pc A _) rfl hd rfl hn1 (cap := n.toNatClampNeg) (Nat.le_refl _) (by omega) hc hl
          have hcr : CR P Z h2 (ρ ++ [T.heap.size]) T.heap.size ((.inr (.inl (true, List.replicate n.toNatClampNeg 0)) : ACell)) := by
            refine ⟨_, A2, by simp [sz_new], by simp; omega, fun j x y => ?_⟩
            rw [List.getElem?_replicate] at y
            split at y
            · rename_i lt
              cases y
              simp [newA, lt, newarray.typeOf, defaultValue]
            · cases y
          exact ⟨T2, T.heap.size, _, X2, ⟨_, _, rfl, ⟨T.heap.size, top, rfl⟩, h1.mono⟩, (by rw [e2]; exact hH.push E2 hcr), st2⟩
        · cases h
          obtain ⟨T2, h2, cA, X2, e2, E2, A2, st2⟩ := newP X hx hZ w1 rfl (g := mkF m pc A _) rfl hd rfl hn1 (cap := n.toNatClampNeg) (Nat.le_refl _) (by omega) hc hl
          have hcr : CR P Z h2 (ρ ++ [T.heap.size]) T.heap.size ((.inr (.inr (List.replicate n.toNatClampNeg 0)) : ACell)) := by
            refine ⟨_, A2, by simp [sz_new], by simp; omega, fun j x y => ?_⟩
            rw [List.getElem?_replicate] at y
            split at y
            · rename_i lt
              cases y
              simp [newA, lt, newarray.typeOf, defaultValue]
            · cases y
          exact ⟨T2, T.heap.size, _, X2, ⟨_, _, rfl, ⟨T.heap.size, top, rfl⟩, h1.mono⟩, (by rw [e2]; exact hH.push E2 hcr), st2⟩
        · cases h
    · cases h
  | _ => simp [xN] at h
end Step
end Jvm.Own
namespace Jvm.Own
open Jvm Jvm.ClassFile Sem Op Lib Jvm.Free Jvm.Stand Jvm.LawKit Jvm.RoadKit Bundle
theorem fetch_mem : ∀ {l : List (Nat × It)} {pc : Nat} {i : It}, fetch l pc = some i → (pc, i) ∈ l
  | [], _, _, h => by simp [fetch] at h
  | (q, j) :: r, pc, i, h => by
    unfold fetch at h
    split at h
    · rename_i e; cases h; subst e; exact List.mem_cons_self ..
    · exact List.mem_cons_of_mem _ (fetch_mem h)
theorem tgt_spec {pc q : Nat} {o : Int} (h : tgt pc o = some q) : 0 ≤ (pc : Int) + o ∧ ((pc : Int) + o).toNat = q := by
  unfold tgt at h
  split at h
  · rename_i z; cases h; exact ⟨z, rfl⟩
  · cases h
/-- the end of a method's run -/
def Done (P : PD) (Z : State) (n0 : Nat) (p : Program) (e : Env) (below : List Frame) (s : State) (ρ : List Addr) (v : Option Value) (H' : AHeap) (kc ks : Nat) (t0 : State) : Prop :=
  ∃ s₂ v' L' t, Steps p.tables e below t0 s₂ ∧ s₂.status = .running ∧ Ended s₂ below (.returned v') ∧ OV (ρ ++ t) v v' ∧ HR P Z n0 s₂.heap (ρ ++ t) H' ∧ Fr n0 L' ∧ FrameEnd s (.returned v') s₂ L' kc ks
def Cx (P : PD) (Z : State) (p : Program) (R : Room) (s : State) (m : MethodId) (meth : Method) (c : Code) (d : MD) : Prop :=
  p.tables.exec = Jvm.exec ∧ Z.Warmed39 s.vm ∧ c.code = d.bytes ∧ c.maxLocals = d.maxL ∧ s.vm.findClass d.name.cls = some m.cls ∧ meth.name = d.name.name ∧ meth.sig.returnType = d.ret ∧ meth.locks = false ∧ d.rf ≤ R.frames ∧ d.rw ≤ R.locals
/-- what the machine says of a run that has come to pc is what the model does -/
def Says (P : PD) (Z : State) (n0 : Nat) (l : Launch) (n : Nat) : Prop :=
  ∀ (mi pc : Nat) (L : List Slot) (S : List Value) (H : AHeap) (v : Option Value) (H' : AHeap) (kc ks : Nat), exe P n mi pc L S H = some (v, H', kc, ks) → ∀ d, P.mth[mi]? = some d →
    ∀ (p : Program) (e : Env) (R : Room) (s : State) (m : MethodId) (args : Array Value) (below : List Frame) (meth : Method) (c : Code) (T : State) (locs : List Loc) (cells slots : Nat),
      Stand p l e R s m args below meth c T locs cells slots → Cx P Z p R s m meth c d → cells + kc ≤ R.cells → slots + ks ≤ R.slots →
      ∀ (ρ : List Addr) (A : Array Slot) (Sc : List Value), LR ρ L A → L.length = d.maxL → SR ρ S Sc → HR P Z n0 T.heap ρ H → Fr n0 locs →
        Done P Z n0 p e below s ρ v H' (cells + kc) (slots + ks) (T.setTop (mkF m pc A Sc))
def QQ (P : PD) (Z : State) (n0 : Nat) (ρ : List Addr) (v : Option Value) (H1 : AHeap) (v' : Option Value) (h' : Heap) (L : List Loc) : Prop := Fr n0 L ∧ ∃ t, OV (ρ ++ t) v v' ∧ HR P Z n0 h' (ρ ++ t) H1
theorem met_of {P : PD} {Z : State} {n0 : Nat} {l : Launch} {n : Nat} (ih : Says P Z n0 l n) {j : Nat} {y : MD} (hy : P.mth[j]? = some y) (hpn : plainName y.name.cls = true) {as ws : List Value} {H H1 : AHeap} {v : Option Value} {kc ks : Nat} (he : exe P n j 0 (entL as y.maxL) [] H = some (v, H1, kc, ks)) {ρ : List Addr} (hS : SR ρ as ws) (hlen : (entA as).length ≤ y.maxL) {h : Heap} (hH : HR P Z n0 h ρ H) (w0 : List Jvm.Cond) (rm : Room) (r1 : y.rf ≤ rm.frames) (r2 : y.rw ≤ rm.locals) (r3 : kc ≤ rm.cells) (r4 : ks ≤ rm.slots) :
    MetFree l y.name (head1 (Jvm.Cond.code y.name y.bytes y.maxL y.ret :: w0) rm) (fun a U => a = ws.toArray ∧ Z.Warmed39 U.vm ∧ U.heap = h) (fun _ _ _ _ _ => True)
      (fun _ U o U' => ∃ v' L, o = .returned v' ∧ QQ P Z n0 ρ v H1 v' U'.heap L ∧ FrameEnd U o U' L kc ks) := by
  refine MetFree.of_bodySF (plainFor_of_name hpn) hisR ?_
  intro p e s m args below meth c s₁ Bd hml0 hP hK
  obtain ⟨rfl, hZ, hh⟩ := hP
  have X0 : Stand p l e rm s m ws.toArray below meth c s₁ [] 0 0 := Stand.of_body Bd
  have e0 : s₁.heap = h := by rw [← hh, Bd.state]; rfl
  obtain ⟨hL, hsz⟩ := LR.enter hS hlen
  have hLl : (entL as y.maxL).length = y.maxL := by rw [← hL.1]; exact hsz
  obtain ⟨s₂, v', L', t, h1, h2, h3, h4, h5, h6, h7⟩ := ih j 0 _ [] H v H1 kc ks he y hy p e _ s m ws.toArray below meth c s₁ [] 0 0 X0
    ⟨Bd.exec, hZ, Bd.bytes, hml0, findClass_of_methodNamed Bd.named, (name_of_methodNamed Bd.named Bd.method).1, Bd.returns, BodyLoose.notSynchronized Bd, r1, r2⟩
    (by rw [Nat.zero_add]; exact r3) (by rw [Nat.zero_add]; exact r4) ρ _ [] hL hLl rfl (by rw [e0]; exact hH) (Fr.nil n0)
  refine ⟨s₂, _, h1, h2, h3, v', L', rfl, ⟨h6, t, h4, h5⟩, ?_⟩
  rw [Nat.zero_add, Nat.zero_add] at h7
  exact h7
section Sound
variable {P : PD} {Z : State} {n0 : Nat} {a0 : Array Value} {l : Launch}
theorem Done.step {p : Program} {e : Env} {below : List Frame} {s : State} {ρ t : List Addr} {v : Option Value} {H' : AHeap} {kc ks : Nat} {t0 t1 : State} (h : Done P Z n0 p e below s (ρ ++ t) v H' kc ks t1) (k : ∀ target, Steps p.tables e below t1 target → Steps p.tables e below t0 target) : Done P Z n0 p e below s ρ v H' kc ks t0 := by
  obtain ⟨s₂, v', L', t', h1, h2, h3, h4, h5, h6, h7⟩ := h
  exact ⟨s₂, v', L', t ++ t', k _ h1, h2, h3, by rw [← List.append_assoc]; exact h4, by rw [← List.append_assoc]; exact h5, h6, h7⟩
theorem argsOf_spec {n : Nat} {S as rest : List Value} (h : argsOf n S = some (as, rest)) : n ≤ S.length ∧ as = (S.take n).reverse ∧ rest = S.drop n := by
  unfold argsOf at h
  split at h
  · rename_i z; cases h; exact ⟨z, rfl, rfl⟩
  · cases h
theorem res_ext {α : Type} {o : Option Res} {v : Option Value} {H' : AHeap} {kc ks c1 s1 : Nat} (h : (o.map fun r => addR r c1 s1) = some (v, H', kc, ks)) : ∃ kc' ks', o = some (v, H', kc', ks') ∧ kc = kc' + c1 ∧ ks = ks' + s1 := by
  obtain ⟨⟨v0, H0, c0, s0⟩, h1, h2⟩ := Option.map_eq_some_iff.mp h
  simp only [addR] at h2
  cases h2
  exact ⟨c0, s0, h1, rfl, rfl⟩
set_option maxHeartbeats 4000000 in
theorem sound (hP : chk P = true) (hW : ∀ w ∈ wordsOf P, w.before a0 Z = true) : ∀ n, Says P Z n0 l n
  | 0 => fun mi pc L S H v H' kc ks h => by simp [exe] at h
  | n + 1 => by
    have ih := sound hP hW n
    intro mi pc L S H v H' kc ks h d hmi
    unfold exe at h
    rw [hmi] at h
    simp only at h
    have hdm : d ∈ P.mth := List.mem_of_getElem? hmi
    split at h
    · cases h
    rename_i it i len er a b hft
    have hit := fetch_mem hft
    have hmc := mChk_of hP hdm
    simp only [mChk, Bool.and_eq_true] at hmc
    obtain ⟨⟨⟨⟨⟨⟨mc1, mc2⟩, mc3⟩, mc4⟩, mc5⟩, mc6⟩, mc7⟩ := hmc
    unfold codeChk at mc3
    rw [List.all_eq_true] at mc3
    have hci := mc3 _ hit
    simp only [Bool.and_eq_true, decide_eq_true_eq] at hci
    obtain ⟨hdec, hlenOk⟩ := hci
    -- a jump, or a fall through
    have jump : ∀ (q : Nat) (S1 : List Value) (h1 : exe P n mi q (forget er L) S1 H = some (v, H', kc, ks)),
        (∀ (p : Program) (e : Env) (R : Room) (s : State) (m : MethodId) (args : Array Value) (below : List Frame) (meth : Method) (c : Code) (T : State) (locs : List Loc) (cells slots : Nat),
          Stand p l e R s m args below meth c T locs cells slots → Cx P Z p R s m meth c d → ∀ (ρ : List Addr) (A : Array Slot) (Sc : List Value), LR ρ L A → SR ρ S Sc → ∃ Sc1, SR ρ S1 Sc1 ∧ ∀ target, Steps p.tables e below (T.setTop (mkF m q A Sc1)) target → Steps p.tables e below (T.setTop (mkF m pc A Sc)) target) →
        ∀ (p : Program) (e : Env) (R : Room) (s : State) (m : MethodId) (args : Array Value) (below : List Frame) (meth : Method) (c : Code) (T : State) (locs : List Loc) (cells slots : Nat),
          Stand p l e R s m args below meth c T locs cells slots → Cx P Z p R s m meth c d → cells + kc ≤ R.cells → slots + ks ≤ R.slots →
          ∀ (ρ : List Addr) (A : Array Slot) (Sc : List Value), LR ρ L A → L.length = d.maxL → SR ρ S Sc → HR P Z n0 T.heap ρ H → Fr n0 locs →
            Done P Z n0 p e below s ρ v H' (cells + kc) (slots + ks) (T.setTop (mkF m pc A Sc)) := by
      intro q S1 h1 st p e R s m args below meth c T locs cells slots X cx k1 k2 ρ A Sc hL hLl hS hH hF
      obtain ⟨Sc1, hS1, st1⟩ := st p e R s m args below meth c T locs cells slots X cx ρ A Sc hL hS
      have := ih mi q _ S1 H v H' kc ks h1 d hmi p e R s m args below meth c T locs cells slots X cx k1 k2 ρ A Sc1 (hL.forget er) (by rw [forget_len]; exact hLl) hS1 hH hF
      exact Done.step (t := []) (by rw [List.append_nil]; exact this) st1
    have dec : ∀ {c : Code}, c.code = d.bytes → decode c.code pc = .ok (i, len) := fun hc => by rw [hc]; exact hdec
    split at h
    · -- goto
      rename_i o
      split at h
      · rename_i q hq
        obtain ⟨t1, t2⟩ := tgt_spec hq
        have m3 := jump q S h
        obtain rfl : len = 3 := by simpa [lenOk] using hlenOk
        exact m3 fun p e R s m args below meth c T locs cells slots X cx ρ A Sc hL hS => ⟨Sc, hS, fun t z => XS.goto (g := mkF m pc A Sc) X.here cx.1 rfl (pc0 := pc) (pc' := q) rfl (dec cx.2.2.1) t1 t2 z⟩
      · cases h
    · -- if_icmp
      rename_i cd o
      split at h
      · rename_i y x S1
        obtain rfl : len = 3 := by simpa [lenOk] using hlenOk
        split at h
        · rename_i hc
          split at h
          · rename_i q hq
            obtain ⟨t1, t2⟩ := tgt_spec hq
            have m3 := jump q S1 h
            exact m3 fun p e R s m args below meth c T locs cells slots X cx ρ A Sc hL hS => by
              obtain ⟨Sa, rfl, ha⟩ := hS.int
              obtain ⟨Sb, rfl, hb⟩ := ha.int
              exact ⟨Sb, hb, fun t z => XS.icmpYes (g := mkF m pc A _) X.here cx.1 rfl (pc0 := pc) (pc' := q) rfl (dec cx.2.2.1) rfl hc t1 t2 z⟩
          · cases h
        · rename_i hc
          have m3 := jump (pc + 3) S1 h
          exact m3 fun p e R s m args below meth c T locs cells slots X cx ρ A Sc hL hS => by
            obtain ⟨Sa, rfl, ha⟩ := hS.int
            obtain ⟨Sb, rfl, hb⟩ := ha.int
            exact ⟨Sb, hb, fun t z => XS.icmpNo (g := mkF m pc A _) X.here cx.1 rfl (dec cx.2.2.1) rfl (by simpa using hc) z⟩
      · cases h
    · -- ifCond
      rename_i cd o
      split at h
      · rename_i x S1
        obtain rfl : len = 3 := by simpa [lenOk] using hlenOk
        split at h
        · rename_i hc
          split at h
          · rename_i q hq
            obtain ⟨t1, t2⟩ := tgt_spec hq
            have m3 := jump q S1 h
            exact m3 fun p e R s m args below meth c T locs cells slots X cx ρ A Sc hL hS => by
              obtain ⟨Sa, rfl, ha⟩ := hS.int
              exact ⟨Sa, ha, fun t z => XS.ifYes (g := mkF m pc A _) X.here cx.1 rfl (pc0 := pc) (pc' := q) rfl (dec cx.2.2.1) rfl hc t1 t2 z⟩
          · cases h
        · rename_i hc
          have m3 := jump (pc + 3) S1 h
          exact m3 fun p e R s m args below meth c T locs cells slots X cx ρ A Sc hL hS => by
            obtain ⟨Sa, rfl, ha⟩ := hS.int
            exact ⟨Sa, ha, fun t z => XS.ifNo (g := mkF m pc A _) X.here cx.1 rfl (dec cx.2.2.1) rfl (by simpa using hc) z⟩
      · cases h
    · -- ifnonnull
      rename_i o
      split at h
      · rename_i x S1
        split at h
        · rename_i q hq
          obtain ⟨t1, t2⟩ := tgt_spec hq
          have m3 := jump q S1 h
          obtain rfl : len = 3 := by simpa [lenOk] using hlenOk
          exact m3 fun p e R s m args below meth c T locs cells slots X cx ρ A Sc hL hS => by
            obtain ⟨ad, Sa, -, rfl, ha⟩ := hS.ref
            exact ⟨Sa, ha, fun t z => XT.ifnonnullYes (g := mkF m pc A _) X.here cx.1 rfl (pc0 := pc) (pc' := q) rfl (dec cx.2.2.1) rfl t1 t2 z⟩
        · cases h
      · cases h
    · -- ireturn
      split at h
      · rename_i x
        split at h
        · rename_i v0 hv0
          cases h
          obtain rfl : len = 1 := by simpa [lenOk] using hlenOk
          intro p e R s m args below meth c T locs cells slots X cx k1 k2 ρ A Sc hL hLl hS hH hF
          obtain ⟨hx, hZ, hby, hml, hown, hnm, hret, hlk, -, -⟩ := cx
          obtain ⟨Sa, rfl, ha⟩ := hS.int
          unfold retV at hv0
          split at hv0
          · rename_i hr0
            cases hv0
            obtain ⟨fs, hr, hrun, hended, hWm, hsame⟩ := X.leave (v := some (.int x)) (fun q => by rw [hret, hr0] at q; cases q) hlk
            exact ⟨_, _, locs, [], retI X hx (by rw [hret, hr0]) (dec hby) hr, hrun, hended, ⟨_, rfl, rfl⟩, by rw [List.append_nil]; exact hH, hF, ⟨_, rfl⟩, hWm, hsame⟩
          · rename_i hr0
            cases hv0
            obtain ⟨fs, hr, hrun, hended, hWm, hsame⟩ := X.leave (v := some (.int (x &&& 1))) (fun q => by rw [hret, hr0] at q; cases q) hlk
            exact ⟨_, _, locs, [], retN X hx (t := .boolean) (by rw [hret, hr0]) (by simp) (dec hby) hr, hrun, hended, ⟨_, rfl, rfl⟩, by rw [List.append_nil]; exact hH, hF, ⟨_, rfl⟩, hWm, hsame⟩
          · cases hv0
        · cases h
      · cases h
    · -- lreturn
      split at h
      · rename_i x
        split at h
        · rename_i hr0
          cases h
          obtain rfl : len = 1 := by simpa [lenOk] using hlenOk
          intro p e R s m args below meth c T locs cells slots X cx k1 k2 ρ A Sc hL hLl hS hH hF
          obtain ⟨hx, hZ, hby, hml, hown, hnm, hret, hlk, -, -⟩ := cx
          obtain ⟨Sa, rfl, ha⟩ := hS.long
          obtain rfl : Sa = [] := ha
          obtain ⟨fs, hr, hrun, hended, hWm, hsame⟩ := X.leave (v := some (.long x)) (fun q => by rw [hret, hr0] at q; cases q) hlk
          exact ⟨_, _, locs, [], X.lreturnOut hx (by rw [hret, hr0]) (dec hby) hr, hrun, hended, ⟨_, rfl, rfl⟩, by rw [List.append_nil]; exact hH, hF, ⟨_, rfl⟩, hWm, hsame⟩
        · cases h
      · cases h
    · -- return
      split at h
      · split at h
        · rename_i hr0
          cases h
          obtain rfl : len = 1 := by simpa [lenOk] using hlenOk
          intro p e R s m args below meth c T locs cells slots X cx k1 k2 ρ A Sc hL hLl hS hH hF
          obtain ⟨hx, hZ, hby, hml, hown, hnm, hret, hlk, -, -⟩ := cx
          obtain rfl : Sc = [] := hS
          obtain ⟨fs, hr, hrun, hended, hWm, hsame⟩ := X.leave (v := none) (fun _ => rfl) hlk
          exact ⟨_, _, locs, [], X.returnOut hx (by rw [hret, hr0]) (dec hby) hr, hrun, hended, rfl, by rw [List.append_nil]; exact hH, hF, ⟨_, rfl⟩, hWm, hsame⟩
        · cases h
      · cases h
    · -- a call, or a plain step
      split at h
      · rename_i hinv
        split at h
        · -- Object.<init>
          rename_i hb1
          subst hb1
          have hk : ∃ k x S1, i = .invokespecial k ∧ S = .ref x :: S1 ∧ (if 1 ≤ d.rf ∧ catSum S1 + 12 ≤ d.rw then exe P n mi (pc + 3) (forget er L) S1 H else none) = some (v, H', kc, ks) := by
            split at h
            · exact ⟨_, _, _, rfl, rfl, h⟩
            · cases h
          clear h
          obtain ⟨k, x, S1, rfl, rfl, h⟩ := hk
          · split at h
            · rename_i hroom
              have m3 := ih mi (pc + 3) _ S1 H v H' kc ks h d hmi
              obtain rfl : len = 3 := by simpa [lenOk] using hlenOk
              have hWi : ∀ w ∈ iWords P d (pc, .invokespecial k, 3, er, a, -1), w.before a0 Z = true := fun w q => hW w (in_wordsOf hdm hit q)
              have hWi' : ∀ w ∈ [Jvm.Cond.methodLink d.name.cls k Lib.objectInit, .instanceMethod Lib.objectInit, .code Lib.objectInit ⟨#[0xb1]⟩ 1 none], w.before a0 Z = true := hWi
              intro p e R s m args below meth c T locs cells slots X cx k1 k2 ρ A Sc hL hLl hS hH hF
              have cx0 := cx
              obtain ⟨hx, hZ, hby, hml, hown, hnm, hret, hlk, hrf, hrw⟩ := cx
              obtain ⟨ad, Sa, -, rfl, ha⟩ := hS.ref
              obtain ⟨T2, X2, e2, st2⟩ := initO X hx hZ hown (hWi' _ (by simp)) (hWi' _ (by simp)) (hWi' _ (by simp)) rfl (g := mkF m pc A (.ref ad :: Sa)) rfl (by rw [hml]; exact hL.1.trans hLl) rfl (dec hby) (by omega) (W := catSum S1) (by show 2 * 0 + _ ≤ _; rw [ha.cat]; omega) (by omega)
              have := m3 p e R s m args below meth c T2 locs cells slots X2 cx0 k1 k2 ρ A Sa (hL.forget er) (by rw [forget_len]; exact hLl) ha (by rw [e2]; exact hH) hF
              exact Done.step (t := []) (by rw [List.append_nil]; exact this) st2
            · cases h
        · rename_i hb1
          split at h
          · cases h
          rename_i y hy
          split at h
          · cases h
          rename_i as rest hao
          split at h
          · rename_i hcond
            simp only [Bool.and_eq_true, decide_eq_true_eq] at hcond
            obtain ⟨⟨⟨⟨hj, hik⟩, hrecv⟩, hroom⟩, hent⟩ := hcond
            split at h
            · rename_i v1 H1 c1 s1 hcal
              obtain ⟨c0, s0, hcon, rfl, rfl⟩ := res_ext (α := Unit) h
              have m3 := ih mi (pc + 3) _ _ H1 v H' c0 s0 hcon d hmi
              intro p e R s m args below meth c T locs cells slots X cx k1 k2 ρ A Sc hL hLl hS hH hF
              have cx0 := cx
              obtain ⟨hx, hZ, hby, hml, hown, hnm, hret, hlk, hrf, hrw⟩ := cx
              have hym : y ∈ P.mth := List.mem_of_getElem? hy
              have hyc := mChk_of hP hym
              simp only [mChk, Bool.and_eq_true, decide_eq_true_eq] at hyc
              obtain ⟨⟨⟨⟨⟨⟨yc1, yc2⟩, yc3⟩, yc4⟩, yc5⟩, yc6⟩, yc7⟩ := hyc
              simp only [fitsRoom, Bool.and_eq_true, decide_eq_true_eq] at hroom
              obtain ⟨hn, has, hrest⟩ := argsOf_spec hao
              have hnc : nargs y ≤ Sc.length := by rw [hS.len]; exact hn
              have hSa : SR ρ as (Sc.take (nargs y)).reverse := by rw [has]; exact (hS.take _).rev
              have hSr : SR ρ rest (Sc.drop (nargs y)) := by rw [hrest]; exact hS.drop _
              have hsplit : Sc = (Sc.take (nargs y)).reverse.reverse ++ Sc.drop (nargs y) := by rw [List.reverse_reverse, List.take_append_drop]
              obtain ⟨ws, hws⟩ : ∃ ws, ws = (Sc.take (nargs y)).reverse := ⟨_, rfl⟩
              obtain ⟨rc, hrc⟩ : ∃ rc, rc = Sc.drop (nargs y) := ⟨_, rfl⟩
              have hwl : ws.length = nargs y := by rw [hws]; simp; omega
              rw [← hws] at hSa hsplit
              rw [← hrc] at hSr hsplit
              have wcode := hW (.code y.name y.bytes y.maxL y.ret) (in_wordsM hy hj (List.mem_cons_self ..))
              have winit := hW (.initialized y.name.cls) (in_wordsM hy hj (List.mem_cons_of_mem _ (List.mem_cons_self ..)))
              have wmore : ∀ w ∈ (if y.kind = 0 then [Jvm.Cond.static y.name] else if y.kind = 1 then [.instanceMethod y.name] else if y.kind = 2 then [.instanceMethod y.name, .privateMethod y.name] else [.declares y.name, .selects y.name.cls y.name y.name, .instanceMethod y.name]), w.before a0 Z = true := fun w q => hW w (in_wordsM hy hj (List.mem_cons_of_mem _ (List.mem_cons_of_mem _ q)))
              have hMH : y.name.cls ≠ "java/lang/invoke/MethodHandle" ∧ y.name.cls ≠ "java/lang/invoke/VarHandle" := ⟨yc5, yc6⟩
              have back := backOf (W := catSum rest) (len := 3) (R := R) (p := p) (e := e) (below := below) (s := s) (args := args) (met_of ih hy yc1 hcal hSa hent hH [] ({ frames := y.rf, cells := c1, slots := s1, locals := y.rw } : Room) (Nat.le_refl _) (Nat.le_refl _) (Nat.le_refl _) (Nat.le_refl _)) hZ wcode winit (by show y.rf + 1 ≤ _; omega) (by show _ + y.rw ≤ _; omega)
              have hWW : 2 * (mkF m pc A Sc).monitorRoom + (rc.map fun v => v.category).sum ≤ catSum rest := by show 2 * 0 + _ ≤ _; rw [hSr.cat]; omega
              have hpar : ∀ sig, parseMethodDescriptor y.name.desc = some sig → sig.parameters.length = y.npar := fun sig q => by
                unfold sigChk at yc2
                rw [q] at yc2
                simpa using yc2
              have fin : ∀ (v1' : Option Value) (T2 : State) (Lc : List Loc), Stand p l e R s m args below meth c T2 (locs ++ Lc) (cells + c1) (slots + s1) → QQ P Z n0 ρ v1 H1 v1' T2.heap Lc →
                  (∀ target, Steps p.tables e below (T2.setTop (mkF m (pc + 3) A (v1'.toList ++ rc))) target → Steps p.tables e below (T.setTop (mkF m pc A Sc)) target) →
                  Done P Z n0 p e below s ρ v H' (cells + (c0 + c1)) (slots + (s0 + s1)) (T.setTop (mkF m pc A Sc)) := by
                intro v1' T2 Lc X2 hq st2
                obtain ⟨hF2, t, hov, hH2⟩ := hq
                have := m3 p e R s m args below meth c T2 (locs ++ Lc) _ _ X2 cx0 (by omega) (by omega) (ρ ++ t) A (v1'.toList ++ rc) (hL.forget er).mono (by rw [forget_len]; exact hLl) (hov.list.app hSr.mono) hH2 (hF.app hF2)
                have q1 : cells + c1 + c0 = cells + (c0 + c1) := by omega
                have q2 : slots + s1 + s0 = slots + (s0 + s1) := by omega
                rw [q1, q2] at this
                exact this.step st2
              have hcR : cells + c1 ≤ R.cells := by omega
              have hsR : slots + s1 ≤ R.slots := by omega
              cases i with
              | invokestatic k =>
                obtain rfl : len = 3 := by simpa [lenOk] using hlenOk
                have hk0 : y.kind = 0 := by simpa [invKind] using hik
                have wl := hW (.methodLink d.name.cls k y.name) (in_wordsOf hdm hit (by show _ ∈ mLink P d k a b; unfold mLink; rw [if_neg hb1, hy]; exact List.mem_singleton.mpr rfl))
                have wst := wmore (.static y.name) (by rw [if_pos hk0]; exact List.mem_singleton.mpr rfl)
                have hna : nargs y = y.npar := by simp [nargs, hk0]
                obtain ⟨v1', _, ⟨T2, L2, k2', n2⟩, -, X2, ⟨Lc, hQ, l2, y2, z2⟩, st2⟩ := Jvm.LawKit.callS X hx (y := y.name) hown (mvT hZ wl) (mvT hZ wst) (mvT hZ winit) (mvT hZ wcode) hMH back (g := mkF m pc A Sc) rfl (by rw [hml]; exact hL.1.trans hLl) (argsL := ws) (rest := rc) (fun sig q => by rw [hpar sig q, hwl, hna]) hsplit hWW (dec hby) (fun _ _ => ⟨rfl, rfl, hcR, hsR⟩)
                dsimp only [Pt.U, Pt.locs, Pt.cells, Pt.slots] at X2 l2 y2 z2 st2 hQ
                subst l2 y2 z2
                exact fin v1' T2 Lc X2 hQ st2
              | invokespecial k =>
                obtain rfl : len = 3 := by simpa [lenOk] using hlenOk
                have hk1 : y.kind = 1 := by simpa [invKind] using hik
                have wl := hW (.methodLink d.name.cls k y.name) (in_wordsOf hdm hit (by show _ ∈ mLink P d k a b; unfold mLink; rw [if_neg hb1, hy]; exact List.mem_singleton.mpr rfl))
                have wst := wmore (.instanceMethod y.name) (by rw [if_neg (by omega), if_pos hk1]; exact List.mem_singleton.mpr rfl)
                have hna : nargs y = y.npar + 1 := by simp [nargs, hk1]
                simp [hk1] at yc7
                have wcode' : (Jvm.Cond.code y.name y.bytes y.maxL none).before a0 Z = true := by rw [← yc7.2]; exact wcode
                unfold recvOk at hrecv
                rw [if_neg (by omega)] at hrecv
                split at hrecv
                · rename_i o as'
                  obtain ⟨ad, ws', g1, rfl, ha'⟩ := hSa.ref
                  have hst : Sc = ws'.reverse ++ .ref ad :: rc := by rw [hsplit]; simp
                  obtain ⟨v1', _, ⟨T2, L2, k2', n2⟩, -, X2, ⟨Lc, hQ, l2, y2, z2⟩, st2⟩ := X.specialBack hx (y := y.name) yc7.1 hown (mvT hZ wl) (mvT hZ wst) (mvT hZ wcode') hMH back (g := mkF m pc A Sc) rfl (by rw [hml]; exact hL.1.trans hLl) (Steps.refl _) (a := ad) (argsL := ws') (rest := rc) (fun sig q => by rw [hpar sig q]; simp [hna] at hwl; omega) hst hWW (dec hby) (fun _ _ => ⟨rfl, rfl, hcR, hsR⟩)
                  dsimp only [Pt.U, Pt.locs, Pt.cells, Pt.slots] at X2 l2 y2 z2 st2 hQ
                  subst l2 y2 z2
                  exact fin v1' T2 Lc X2 hQ fun t z => st2.trans z
                · cases hrecv
              | invokevirtual k =>
                obtain rfl : len = 3 := by simpa [lenOk] using hlenOk
                have wl := hW (.methodLink d.name.cls k y.name) (in_wordsOf hdm hit (by show _ ∈ mLink P d k a b; unfold mLink; rw [if_neg hb1, hy]; exact List.mem_singleton.mpr rfl))
                have hk23 : y.kind = 2 ∨ y.kind = 3 := by simpa [invKind] using hik
                have hk0 : ¬ y.kind = 0 := by omega
                have hk1 : ¬ y.kind = 1 := by omega
                have hna : nargs y = y.npar + 1 := by simp [nargs, hk0]
                unfold recvOk at hrecv
                rw [if_neg hk0] at hrecv
                split at hrecv
                · rename_i o as'
                  obtain ⟨ad, ws', g1, rfl, ha'⟩ := hSa.ref
                  have hst : Sc = ws'.reverse ++ .ref ad :: rc := by rw [hsplit]; simp
                  split at hrecv
                  · rename_i c0 fs hc0
                    obtain rfl : c0 = y.cid := by simpa using hrecv
                    obtain ⟨ad', g2, cd, q1, q2, q3, q4⟩ := hH.at hc0
                    rw [g1] at g2; cases g2
                    have hcd := cid_of hP hym q1
                    have hcm : cd ∈ P.cls := List.mem_of_getElem? q1
                    rw [hcd] at q2
                    by_cases hk2 : y.kind = 2
                    · have w1 := wmore (.instanceMethod y.name) (by rw [if_neg hk0, if_neg hk1, if_pos hk2]; simp)
                      have w2 := wmore (.privateMethod y.name) (by rw [if_neg hk0, if_neg hk1, if_pos hk2]; simp)
                      have w3 := hW (.instantiable cd.1 cd.2.1) (in_wordsC hcm (List.mem_cons_self ..))
                      rw [hcd] at w3
                      obtain ⟨cI, kI, i1, i2, i3, i4, -⟩ := Cond.instantiable_spec (mvT hZ w3 (args := args) : (Jvm.Cond.instantiable y.name.cls cd.2.1).before args s = true)
                      have hsel := selects_self_of_private (args := args) i1 i2 (by simp at i4; exact i4.1) (Cond.privateMethod_at (mvP hZ w2 (args := #[]))) (mvT hZ w1) hMH
                      obtain ⟨cq, hq1, hq2⟩ := q2.cell
                      obtain ⟨v1', _, ⟨T2, L2, k2', n2⟩, -, X2, ⟨Lc, hQ, l2, y2, z2⟩, st2⟩ := X.privateBack hx (y := y.name) hown (mvT hZ wl) (mvT hZ w1) hsel (Cond.privateMethod_at (mvP hZ w2 (args := #[]))) (mvT hZ wcode) hMH back (g := mkF m pc A Sc) rfl (by rw [hml]; exact hL.1.trans hLl) (Steps.refl _) (a := ad) hq1 hq2 (argsL := ws') (rest := rc) (fun sig q => by rw [hpar sig q]; simp [hna] at hwl; omega) hst hWW (dec hby) (fun _ _ => ⟨rfl, rfl, hcR, hsR⟩)
                      dsimp only [Pt.U, Pt.locs, Pt.cells, Pt.slots] at X2 l2 y2 z2 st2 hQ
                      subst l2 y2 z2
                      exact fin v1' T2 Lc X2 hQ fun t z => st2.trans z
                    · have w1 := wmore (.declares y.name) (by rw [if_neg hk0, if_neg hk1, if_neg hk2]; simp)
                      have w2 := wmore (.selects y.name.cls y.name y.name) (by rw [if_neg hk0, if_neg hk1, if_neg hk2]; simp)
                      have w3 := wmore (.instanceMethod y.name) (by rw [if_neg hk0, if_neg hk1, if_neg hk2]; simp)
                      obtain ⟨cq, kq, qa, qb, qc⟩ := isOf hZ rfl q2
                      obtain ⟨v1', _, ⟨T2, L2, k2', n2⟩, -, X2, ⟨Lc, hQ, l2, y2, z2⟩, st2⟩ := X.virtualBack hx (y := y.name) (z := y.name) hown (mvT hZ wl) (mvT hZ w1) (notFace_of_selects (args := #[]) (mvT hZ w2)) (mvT hZ w2) (mvT hZ w3) hMH back qa qc (g := mkF m pc A Sc) rfl (by rw [hml]; exact hL.1.trans hLl) (Steps.refl _) (argsL := ws') (rest := rc) (fun sig q => by rw [hpar sig q]; simp [hna] at hwl; omega) hst hWW (dec hby) (fun _ _ => ⟨rfl, rfl, hcR, hsR⟩)
                      dsimp only [Pt.U, Pt.locs, Pt.cells, Pt.slots] at X2 l2 y2 z2 st2 hQ
                      subst l2 y2 z2
                      exact fin v1' T2 Lc X2 hQ fun t z => st2.trans z
                  · cases hrecv
                · cases hrecv
              | _ => simp [isInv] at hinv
            · cases h
          · cases h
      · split at h
        · split at h
          · rename_i S1 H1 k1' hxN
            obtain ⟨c0, s0, hcon, rfl, rfl⟩ := res_ext (α := Unit) h
            have m3 := ih mi (pc + len) _ S1 H1 v H' c0 s0 hcon d hmi
            intro p e R s m args below meth c T locs cells slots X cx k1 k2 ρ A Sc hL hLl hS hH hF
            have cx0 := cx
            obtain ⟨hx, hZ, hby, hml, hown, hnm, hret, hlk, hrf, hrw⟩ := cx
            obtain ⟨T2, ad, Sc2, X2, hS2, hH2, st2⟩ := stepN (A := A) X hx hZ hown hP hW hdm hit (dec hby) hlenOk hS hH hxN (by omega) (by omega)
            have := m3 p e R s m args below meth c T2 locs _ _ X2 cx0 (by omega) (by omega) (ρ ++ [ad]) A Sc2 (hL.forget er).mono (by rw [forget_len]; exact hLl) hS2 hH2 hF
            have q1 : cells + 1 + c0 = cells + (c0 + 1) := by omega
            have q2 : slots + k1' + s0 = slots + (s0 + k1') := by omega
            rw [q1, q2] at this
            exact this.step st2
          · cases h
        · split at h
          · rename_i L1 S1 H1 hxI
            have m3 := ih mi (pc + len) L1 S1 H1 v H' kc ks h d hmi
            intro p e R s m args below meth c T locs cells slots X cx k1 k2 ρ A Sc hL hLl hS hH hF
            have cx0 := cx
            obtain ⟨hx, hZ, hby, hml, hown, hnm, hret, hlk, hrf, hrw⟩ := cx
            obtain ⟨T2, locs2, A2, Sc2, X2, x3, hL2, hS2, hH2, hF2, st2⟩ := stepX X hx hZ hown hnm hP hW hdm hit (dec hby) hlenOk (hL.forget er) hS hH hF hxI
            have := m3 p e R s m args below meth c T2 locs2 cells slots X2 cx0 k1 k2 ρ A2 Sc2 hL2 (by rw [x3, forget_len]; exact hLl) hS2 hH2 hF2
            exact Done.step (t := []) (by rw [List.append_nil]; exact this) st2
          · cases h
end Sound
end Jvm.Own
namespace Jvm.Own
open Jvm Jvm.ClassFile Sem Op Lib Jvm.Free Jvm.Stand Jvm.LawKit Jvm.RoadKit Bundle
/-! Runs of the plain machine, rule by rule -/
def OEnds (P : PD) (mi pc : Nat) (L : List Slot) (S : List Value) (H : AHeap) (r : Res) : Prop := ∃ n0, ∀ n, n0 ≤ n → exe P n mi pc L S H = some r
def plainI : Instr → Bool
  | .goto _ => false
  | .if_icmp _ _ => false
  | .ifCond _ _ => false
  | .ifnonnull _ => false
  | .ireturn => false
  | .lreturn => false
  | .return_ => false
  | .invokestatic _ => false
  | .invokespecial _ => false
  | .invokevirtual _ => false
  | .new _ => false
  | .newarray _ => false
  | _ => true
section Rules
variable {P : PD} {mi pc len a q : Nat} {er : List Bool} {b : Int} {i : Instr} {d y : MD} {L L' : List Slot} {S S' as rest : List Value} {H H' H1 : AHeap} {r : Res} {kc ks : Nat} {v : Option Value}
theorem OEnds.up (h : ∀ n, exe P n mi q L' S' H' = some r → exe P (n + 1) mi pc L S H = some r) (E : OEnds P mi q L' S' H' r) : OEnds P mi pc L S H r := by
  obtain ⟨n0, E⟩ := E
  refine ⟨n0 + 1, fun n hn => ?_⟩
  obtain ⟨k, rfl⟩ : ∃ k, n = k + 1 := ⟨n - 1, by omega⟩
  exact h k (E k (by omega))
theorem OEnds.plain (hm : P.mth[mi]? = some d) (hf : fetch d.code pc = some (i, len, er, a, b)) (hp : plainI i = true) (hx : xI P (d.name.name == "<init>") d.cid i a b (forget er L) S H = some (L', S', H')) (E : OEnds P mi (pc + len) L' S' H' r) : OEnds P mi pc L S H r := by
  refine E.up fun n h => ?_
  unfold exe
  rw [hm]
  simp only
  rw [hf]
  simp only
  split
  all_goals first | (simp [plainI] at hp; done) | skip
  have h1 : ¬ isInv i = true := by
    cases i <;> first | (simp [plainI] at hp; done) | simp [isInv]
  have h2 : ¬ isNew i = true := by
    cases i <;> first | (simp [plainI] at hp; done) | simp [isNew]
  rw [if_neg h1, if_neg h2, hx]
  exact h
theorem OEnds.goto {o : Int} (hm : P.mth[mi]? = some d) (hf : fetch d.code pc = some (.goto o, len, er, a, b)) (ht : tgt pc o = some q) (E : OEnds P mi q (forget er L) S H r) : OEnds P mi pc L S H r := by
  refine E.up fun n h => ?_
  unfold exe
  rw [hm]
  simp only
  rw [hf]
  simp only
  rw [ht]
  exact h
theorem OEnds.icmpT {o : Int} {cd : ClassFile.Cond} {x z : Int32} (hm : P.mth[mi]? = some d) (hf : fetch d.code pc = some (.if_icmp cd o, len, er, a, b)) (ht : tgt pc o = some q) (hc : if_icmp.holds cd x z = true) (E : OEnds P mi q (forget er L) S H r) : OEnds P mi pc L (.int z :: .int x :: S) H r := by
  refine E.up fun n h => ?_
  unfold exe
  rw [hm]
  simp only
  rw [hf]
  simp only
  rw [if_pos hc, ht]
  exact h
theorem OEnds.icmpF {o : Int} {cd : ClassFile.Cond} {x z : Int32} (hm : P.mth[mi]? = some d) (hf : fetch d.code pc = some (.if_icmp cd o, len, er, a, b)) (hc : if_icmp.holds cd x z = false) (E : OEnds P mi (pc + 3) (forget er L) S H r) : OEnds P mi pc L (.int z :: .int x :: S) H r := by
  refine E.up fun n h => ?_
  unfold exe
  rw [hm]
  simp only
  rw [hf]
  simp only
  rw [if_neg (by rw [hc]; exact Bool.false_ne_true)]
  exact h
theorem OEnds.ifT {o : Int} {cd : ClassFile.Cond} {x : Int32} (hm : P.mth[mi]? = some d) (hf : fetch d.code pc = some (.ifCond cd o, len, er, a, b)) (ht : tgt pc o = some q) (hc : if_icmp.holds cd x 0 = true) (E : OEnds P mi q (forget er L) S H r) : OEnds P mi pc L (.int x :: S) H r := by
  refine E.up fun n h => ?_
  unfold exe
  rw [hm]
  simp only
  rw [hf]
  simp only
  rw [if_pos ((if0 cd x).trans hc), ht]
  exact h
theorem OEnds.ifF {o : Int} {cd : ClassFile.Cond} {x : Int32} (hm : P.mth[mi]? = some d) (hf : fetch d.code pc = some (.ifCond cd o, len, er, a, b)) (hc : if_icmp.holds cd x 0 = false) (E : OEnds P mi (pc + 3) (forget er L) S H r) : OEnds P mi pc L (.int x :: S) H r := by
  refine E.up fun n h => ?_
  unfold exe
  rw [hm]
  simp only
  rw [hf]
  simp only
  rw [if_neg (by rw [if0 cd x, hc]; exact Bool.false_ne_true)]
  exact h
theorem OEnds.nonnull {o : Int} {x : Nat} (hm : P.mth[mi]? = some d) (hf : fetch d.code pc = some (.ifnonnull o, len, er, a, b)) (ht : tgt pc o = some q) (E : OEnds P mi q (forget er L) S H r) : OEnds P mi pc L (.ref x :: S) H r := by
  refine E.up fun n h => ?_
  unfold exe
  rw [hm]
  simp only
  rw [hf]
  simp only
  rw [ht]
  exact h
theorem OEnds.iret {x : Int32} {u : Value} (hm : P.mth[mi]? = some d) (hf : fetch d.code pc = some (.ireturn, len, er, a, b)) (hv : retV d.ret x = some u) : OEnds P mi pc L [.int x] H (some u, H, 0, 0) := by
  refine ⟨1, fun n hn => ?_⟩
  obtain ⟨k, rfl⟩ : ∃ k, n = k + 1 := ⟨n - 1, by omega⟩
  unfold exe
  rw [hm]
  simp only
  rw [hf]
  simp only
  rw [hv]
theorem OEnds.lret {x : Int64} (hm : P.mth[mi]? = some d) (hf : fetch d.code pc = some (.lreturn, len, er, a, b)) (hv : d.ret = some .long) : OEnds P mi pc L [.long x] H (some (.long x), H, 0, 0) := by
  refine ⟨1, fun n hn => ?_⟩
  obtain ⟨k, rfl⟩ : ∃ k, n = k + 1 := ⟨n - 1, by omega⟩
  unfold exe
  rw [hm]
  simp only
  rw [hf]
  simp only
  rw [if_pos hv]
theorem OEnds.vret (hm : P.mth[mi]? = some d) (hf : fetch d.code pc = some (.return_, len, er, a, b)) (hv : d.ret = none) : OEnds P mi pc L [] H (none, H, 0, 0) := by
  refine ⟨1, fun n hn => ?_⟩
  obtain ⟨k, rfl⟩ : ∃ k, n = k + 1 := ⟨n - 1, by omega⟩
  unfold exe
  rw [hm]
  simp only
  rw [hf]
  simp only
  rw [if_pos hv]
theorem OEnds.oinit {k x : Nat} (hm : P.mth[mi]? = some d) (hf : fetch d.code pc = some (.invokespecial k, len, er, a, -1)) (hr : 1 ≤ d.rf ∧ catSum S + 12 ≤ d.rw) (E : OEnds P mi (pc + 3) (forget er L) S H r) : OEnds P mi pc L (.ref x :: S) H r := by
  refine E.up fun n h => ?_
  unfold exe
  rw [hm]
  simp only
  rw [hf]
  simp only [isInv, if_true]
  rw [if_pos hr]
  exact h
theorem OEnds.call (hm : P.mth[mi]? = some d) (hf : fetch d.code pc = some (i, len, er, a, b)) (hi : isInv i = true) (hb : ¬ b = -1) (hy : P.mth[a]? = some y) (hao : argsOf (nargs y) S = some (as, rest))
    (hc : (decide (0 < a) && invKind i y.kind && recvOk P H y as && fitsRoom d y rest && decide ((entA as).length ≤ y.maxL)) = true) (E1 : OEnds P a 0 (entL as y.maxL) [] H (v, H1, kc, ks)) (E2 : OEnds P mi (pc + 3) (forget er L) (v.toList ++ rest) H1 r) : OEnds P mi pc L S H (addR r kc ks) := by
  obtain ⟨n1, E1⟩ := E1
  obtain ⟨n2, E2⟩ := E2
  refine ⟨n1 + n2 + 1, fun n hn => ?_⟩
  obtain ⟨k, rfl⟩ : ∃ k, n = k + 1 := ⟨n - 1, by omega⟩
  have e1 := E1 k (by omega)
  have e2 := E2 k (by omega)
  unfold exe
  rw [hm]
  simp only
  rw [hf]
  simp only
  split
  all_goals first | (simp [isInv] at hi; done) | skip
  rw [if_pos hi, if_neg hb, hy]
  simp only
  rw [hao]
  simp only
  rw [if_pos hc, e1]
  simp only
  rw [e2]
  rfl
theorem OEnds.call0 (hm : P.mth[mi]? = some d) (hf : fetch d.code pc = some (i, len, er, a, b)) (hi : isInv i = true) (hb : ¬ b = -1) (hy : P.mth[a]? = some y) (hao : argsOf (nargs y) S = some (as, rest))
    (hc : (decide (0 < a) && invKind i y.kind && recvOk P H y as && fitsRoom d y rest && decide ((entA as).length ≤ y.maxL)) = true) (E1 : OEnds P a 0 (entL as y.maxL) [] H (v, H1, 0, 0)) (E2 : OEnds P mi (pc + 3) (forget er L) (v.toList ++ rest) H1 r) : OEnds P mi pc L S H r :=
  OEnds.call (r := r) hm hf hi hb hy hao hc E1 E2
theorem OEnds.made (hm : P.mth[mi]? = some d) (hf : fetch d.code pc = some (i, len, er, a, b)) (hi : isNew i = true) (hx : xN P i a S H = some (S', H', ks)) (E : OEnds P mi (pc + len) (forget er L) S' H' r) : OEnds P mi pc L S H (addR r 1 ks) := by
  obtain ⟨n0, E⟩ := E
  refine ⟨n0 + 1, fun n hn => ?_⟩
  obtain ⟨k, rfl⟩ : ∃ k, n = k + 1 := ⟨n - 1, by omega⟩
  have e1 := E k (by omega)
  unfold exe
  rw [hm]
  simp only
  rw [hf]
  simp only
  split
  all_goals first | (simp [isNew] at hi; done) | skip
  have h1 : ¬ isInv i = true := by
    cases i <;> first | (simp [isNew] at hi; done) | simp [isInv]
  rw [if_neg h1, if_pos hi, hx]
  simp only
  rw [e1]
  rfl
end Rules
/-- k plain instructions and jumps in one go -/
def adv (P : PD) (d : MD) : Nat → Nat → List Slot → List Value → AHeap → Option (Nat × List Slot × List Value × AHeap)
  | 0, pc, L, S, H => some (pc, L, S, H)
  | k + 1, pc, L, S, H => match fetch d.code pc with
    | some (i, len, er, a, b) => match i with
      | .goto o => match tgt pc o with
        | some q => adv P d k q (forget er L) S H
        | none => none
      | i => if plainI i = true then match xI P (d.name.name == "<init>") d.cid i a b (forget er L) S H with
          | some (L', S', H') => adv P d k (pc + len) L' S' H'
          | none => none
        else none
    | none => none
theorem OEnds.adv {P : PD} {mi : Nat} {d : MD} (hm : P.mth[mi]? = some d) {r : Res} : ∀ (k : Nat) {pc pc' : Nat} {L L' : List Slot} {S S' : List Value} {H H' : AHeap}, adv P d k pc L S H = some (pc', L', S', H') → OEnds P mi pc' L' S' H' r → OEnds P mi pc L S H r
  | 0, _, _, _, _, _, _, _, _, h, E => by
    unfold Own.adv at h
    cases h
    exact E
  | k + 1, pc, pc', L, L', S, S', H, H', h, E => by
    unfold Own.adv at h
    split at h
    · rename_i it i len er a b hf
      split at h
      · rename_i o
        split at h
        · rename_i q hq
          exact OEnds.goto hm hf hq (OEnds.adv hm k h E)
        · cases h
      · split at h
        · rename_i hp
          split at h
          · rename_i L1 S1 H1 hx
            exact OEnds.plain hm hf hp hx (OEnds.adv hm k h E)
          · cases h
        · cases h
    · cases h
theorem x_iaload {P : PD} {ini : Bool} {cid a o : Nat} {b : Int} {L : List Slot} {S : List Value} {H : AHeap} {A : List Int32} {j x : Int32} (h : H[o]? = some (.inr (.inl (false, A)))) (hx : rdA A j = some x) : xI P ini cid .iaload a b L (.int j :: .ref o :: S) H = some (L, .int x :: S, H) := by simp [xI, h, hx]
theorem x_baload {P : PD} {ini : Bool} {cid a o : Nat} {b : Int} {L : List Slot} {S : List Value} {H : AHeap} {A : List Int32} {j x : Int32} (h : H[o]? = some (.inr (.inl (true, A)))) (hx : rdA A j = some x) : xI P ini cid .baload a b L (.int j :: .ref o :: S) H = some (L, .int x :: S, H) := by simp [xI, h, hx]
theorem x_laload {P : PD} {ini : Bool} {cid a o : Nat} {b : Int} {L : List Slot} {S : List Value} {H : AHeap} {A : List Int64} {j : Int32} {x : Int64} (h : H[o]? = some (.inr (.inr A))) (hx : rdA A j = some x) : xI P ini cid .laload a b L (.int j :: .ref o :: S) H = some (L, .long x :: S, H) := by simp [xI, h, hx]
theorem x_iastore {P : PD} {ini : Bool} {cid a o : Nat} {b : Int} {L : List Slot} {S : List Value} {H : AHeap} {A A' : List Int32} {j x : Int32} (h : H[o]? = some (.inr (.inl (false, A)))) (hn : P.nr ≤ o) (hx : wrA A j x = some A') : xI P ini cid .iastore a b L (.int x :: .int j :: .ref o :: S) H = some (L, S, H.set o (.inr (.inl (false, A')))) := by simp [xI, h, hx, hn]
theorem x_bastore {P : PD} {ini : Bool} {cid a o : Nat} {b : Int} {L : List Slot} {S : List Value} {H : AHeap} {A A' : List Int32} {j x : Int32} (h : H[o]? = some (.inr (.inl (true, A)))) (hn : P.nr ≤ o) (hx : wrA A j (x &&& 1) = some A') : xI P ini cid .bastore a b L (.int x :: .int j :: .ref o :: S) H = some (L, S, H.set o (.inr (.inl (true, A')))) := by simp [xI, h, hx, hn]
theorem x_lastore {P : PD} {ini : Bool} {cid a o : Nat} {b : Int} {L : List Slot} {S : List Value} {H : AHeap} {A A' : List Int64} {j : Int32} {x : Int64} (h : H[o]? = some (.inr (.inr A))) (hn : P.nr ≤ o) (hx : wrA A j x = some A') : xI P ini cid .lastore a b L (.long x :: .int j :: .ref o :: S) H = some (L, S, H.set o (.inr (.inr A'))) := by simp [xI, h, hx, hn]
theorem x_irem {P : PD} {ini : Bool} {cid a : Nat} {b : Int} {L : List Slot} {S : List Value} {H : AHeap} {x y : Int32} (h : ¬ y = 0) : xI P ini cid .irem a b L (.int y :: .int x :: S) H = some (L, .int (x % y) :: S, H) := by simp [xI, h]
theorem x_idiv {P : PD} {ini : Bool} {cid a : Nat} {b : Int} {L : List Slot} {S : List Value} {H : AHeap} {x y : Int32} (h : ¬ y = 0) : xI P ini cid .idiv a b L (.int y :: .int x :: S) H = some (L, .int (x / y) :: S, H) := by simp [xI, h]
theorem x_lrem {P : PD} {ini : Bool} {cid a : Nat} {b : Int} {L : List Slot} {S : List Value} {H : AHeap} {x y : Int64} (h : ¬ y = 0) : xI P ini cid .lrem a b L (.long y :: .long x :: S) H = some (L, .long (x % y) :: S, H) := by simp [xI, h]
theorem x_ldiv {P : PD} {ini : Bool} {cid a : Nat} {b : Int} {L : List Slot} {S : List Value} {H : AHeap} {x y : Int64} (h : ¬ y = 0) : xI P ini cid .ldiv a b L (.long y :: .long x :: S) H = some (L, .long (x / y) :: S, H) := by simp [xI, h]
theorem c_lt {x y : Int64} : XT.cmpL x y < 0 ↔ x < y := by
  unfold XT.cmpL; split <;> (try split) <;> simp_all [Int64.lt_iff_toInt_lt, ← Int64.toInt_inj] <;> omega
theorem c_gt {x y : Int64} : 0 < XT.cmpL x y ↔ y < x := by
  unfold XT.cmpL; split <;> (try split) <;> simp_all [Int64.lt_iff_toInt_lt, ← Int64.toInt_inj] <;> omega
theorem c_eq {x y : Int64} : XT.cmpL x y = 0 ↔ x = y := by
  unfold XT.cmpL; split <;> (try split) <;> simp_all [Int64.lt_iff_toInt_lt, ← Int64.toInt_inj] <;> omega
end Jvm.Own
namespace Jvm.Own
open Jvm Jvm.ClassFile Sem Op Lib Jvm.Free Jvm.Stand Jvm.LawKit Jvm.RoadKit Bundle
theorem bnd {α β : Type} {o : Option α} {f : α → Option β} {b : β} (h : o.bind f = some b) : ∃ a, o = some a ∧ f a = some b := Option.bind_eq_some_iff.mp h
theorem x_putZ {P : PD} {ini : Bool} {k cid a o : Nat} {b : Int} {L : List Slot} {S : List Value} {H : AHeap} {fs : List Value} {nm ds : String} {x : Int32} (h : H[o]? = some (.inl (cid, fs))) (hn : P.nr ≤ o) (hf : ((P.cls[cid]?).bind fun cd => cd.2.2[a]?) = some (nm, ds, .boolean, false)) (hx : x = 0 ∨ x = 1) :
    xI P ini cid (.putfield k) a b L (.int x :: .ref o :: S) H = some (L, S, H.set o (.inl (cid, fs.set a (.int x)))) := by
  rcases hx with rfl | rfl <;> simp [xI, h, hn, hf, putOk]
section Rules
variable {P : PD} {mi pc len a q : Nat} {er : List Bool} {b : Int} {i : Instr} {d y : MD} {L L' : List Slot} {S S' as rest : List Value} {H H' H1 : AHeap} {r : Res} {kc ks : Nat} {v : Option Value}
theorem OEnds.made1 {w : Option Value} {Hf : AHeap} (hm : P.mth[mi]? = some d) (hf : fetch d.code pc = some (i, len, er, a, b)) (hi : isNew i = true) (hx : xN P i a S H = some (S', H', ks)) {c0 s0 c1 s1 : Nat} (hr : (c1, s1) = (c0 + 1, s0 + ks)) (E : OEnds P mi (pc + len) (forget er L) S' H' (w, Hf, c0, s0)) : OEnds P mi pc L S H (w, Hf, c1, s1) := by
  cases hr
  exact OEnds.made (r := (w, Hf, c0, s0)) hm hf hi hx E
/-! The same, of a run whose end is told by a property -/
def OEndsQ (P : PD) (mi pc : Nat) (L : List Slot) (S : List Value) (H : AHeap) (Q : Res → Prop) : Prop := ∃ r, OEnds P mi pc L S H r ∧ Q r
variable {Q : Res → Prop}
theorem OEndsQ.plain (hm : P.mth[mi]? = some d) (hf : fetch d.code pc = some (i, len, er, a, b)) (hp : plainI i = true) (hx : xI P (d.name.name == "<init>") d.cid i a b (forget er L) S H = some (L', S', H')) (E : OEndsQ P mi (pc + len) L' S' H' Q) : OEndsQ P mi pc L S H Q := by
  obtain ⟨r, E, hq⟩ := E; exact ⟨r, OEnds.plain hm hf hp hx E, hq⟩
theorem OEndsQ.icmpT {o : Int} {cd : ClassFile.Cond} {x z : Int32} (hm : P.mth[mi]? = some d) (hf : fetch d.code pc = some (.if_icmp cd o, len, er, a, b)) (ht : tgt pc o = some q) (hc : if_icmp.holds cd x z = true) (E : OEndsQ P mi q (forget er L) S H Q) : OEndsQ P mi pc L (.int z :: .int x :: S) H Q := by
  obtain ⟨r, E, hq⟩ := E; exact ⟨r, OEnds.icmpT hm hf ht hc E, hq⟩
theorem OEndsQ.icmpF {o : Int} {cd : ClassFile.Cond} {x z : Int32} (hm : P.mth[mi]? = some d) (hf : fetch d.code pc = some (.if_icmp cd o, len, er, a, b)) (hc : if_icmp.holds cd x z = false) (E : OEndsQ P mi (pc + 3) (forget er L) S H Q) : OEndsQ P mi pc L (.int z :: .int x :: S) H Q := by
  obtain ⟨r, E, hq⟩ := E; exact ⟨r, OEnds.icmpF hm hf hc E, hq⟩
theorem OEndsQ.ifT {o : Int} {cd : ClassFile.Cond} {x : Int32} (hm : P.mth[mi]? = some d) (hf : fetch d.code pc = some (.ifCond cd o, len, er, a, b)) (ht : tgt pc o = some q) (hc : if_icmp.holds cd x 0 = true) (E : OEndsQ P mi q (forget er L) S H Q) : OEndsQ P mi pc L (.int x :: S) H Q := by
  obtain ⟨r, E, hq⟩ := E; exact ⟨r, OEnds.ifT hm hf ht hc E, hq⟩
theorem OEndsQ.ifF {o : Int} {cd : ClassFile.Cond} {x : Int32} (hm : P.mth[mi]? = some d) (hf : fetch d.code pc = some (.ifCond cd o, len, er, a, b)) (hc : if_icmp.holds cd x 0 = false) (E : OEndsQ P mi (pc + 3) (forget er L) S H Q) : OEndsQ P mi pc L (.int x :: S) H Q := by
  obtain ⟨r, E, hq⟩ := E; exact ⟨r, OEnds.ifF hm hf hc E, hq⟩
theorem OEndsQ.nonnull {o : Int} {x : Nat} (hm : P.mth[mi]? = some d) (hf : fetch d.code pc = some (.ifnonnull o, len, er, a, b)) (ht : tgt pc o = some q) (E : OEndsQ P mi q (forget er L) S H Q) : OEndsQ P mi pc L (.ref x :: S) H Q := by
  obtain ⟨r, E, hq⟩ := E; exact ⟨r, OEnds.nonnull hm hf ht E, hq⟩
theorem OEndsQ.call0 (hm : P.mth[mi]? = some d) (hf : fetch d.code pc = some (i, len, er, a, b)) (hi : isInv i = true) (hb : ¬ b = -1) (hy : P.mth[a]? = some y) (hao : argsOf (nargs y) S = some (as, rest))
    (hc : (decide (0 < a) && invKind i y.kind && recvOk P H y as && fitsRoom d y rest && decide ((entA as).length ≤ y.maxL)) = true) (E1 : OEnds P a 0 (entL as y.maxL) [] H (v, H1, 0, 0)) (E2 : OEndsQ P mi (pc + 3) (forget er L) (v.toList ++ rest) H1 Q) : OEndsQ P mi pc L S H Q := by
  obtain ⟨r, E, hq⟩ := E2; exact ⟨r, OEnds.call0 hm hf hi hb hy hao hc E1 E, hq⟩
theorem OEndsQ.adv (hm : P.mth[mi]? = some d) (k : Nat) {pc' : Nat} (h : adv P d k pc L S H = some (pc', L', S', H')) (E : OEndsQ P mi pc' L' S' H' Q) : OEndsQ P mi pc L S H Q := by
  obtain ⟨r, E, hq⟩ := E; exact ⟨r, OEnds.adv hm k h E, hq⟩
/-- what a law's run ends with: its answer, and at the most so many cells and slots made -/
def LawQ (x : Int32) (kc ks : Nat) (r : Res) : Prop := r.1 = some (.int x) ∧ r.2.2.1 ≤ kc ∧ r.2.2.2 ≤ ks
theorem OEndsQ.iret {x u : Int32} (hm : P.mth[mi]? = some d) (hf : fetch d.code pc = some (.ireturn, len, er, a, b)) (hv : retV d.ret x = some (.int u)) : OEndsQ P mi pc L [.int x] H (LawQ u kc ks) :=
  ⟨_, OEnds.iret hm hf hv, rfl, Nat.zero_le _, Nat.zero_le _⟩
theorem OEndsQ.weak {x : Int32} {c0 s0 : Nat} (h1 : c0 ≤ kc) (h2 : s0 ≤ ks) (E : OEndsQ P mi pc L S H (LawQ x c0 s0)) : OEndsQ P mi pc L S H (LawQ x kc ks) := by
  obtain ⟨r, E, q1, q2, q3⟩ := E; exact ⟨r, E, q1, Nat.le_trans q2 h1, Nat.le_trans q3 h2⟩
theorem OEndsQ.made {x : Int32} {c0 s0 c1 s1 : Nat} (hm : P.mth[mi]? = some d) (hf : fetch d.code pc = some (i, len, er, a, b)) (hi : isNew i = true) (hx : xN P i a S H = some (S', H', ks)) (h1 : c0 + 1 ≤ c1) (h2 : s0 + ks ≤ s1) (E : OEndsQ P mi (pc + len) (forget er L) S' H' (LawQ x c0 s0)) : OEndsQ P mi pc L S H (LawQ x c1 s1) := by
  obtain ⟨⟨v, Hf, k, n⟩, E, q1, q2, q3⟩ := E
  dsimp only at q1 q2 q3
  exact ⟨_, OEnds.made hm hf hi hx E, q1, by show k + 1 ≤ c1; omega, by show n + ks ≤ s1; omega⟩
theorem OEndsQ.callN {x : Int32} {c0 s0 c1 s1 : Nat} (hm : P.mth[mi]? = some d) (hf : fetch d.code pc = some (i, len, er, a, b)) (hi : isInv i = true) (hb : ¬ b = -1) (hy : P.mth[a]? = some y) (hao : argsOf (nargs y) S = some (as, rest))
    (hc : (decide (0 < a) && invKind i y.kind && recvOk P H y as && fitsRoom d y rest && decide ((entA as).length ≤ y.maxL)) = true) (E1 : OEnds P a 0 (entL as y.maxL) [] H (v, H1, kc, ks)) (h1 : c0 + kc ≤ c1) (h2 : s0 + ks ≤ s1) (E2 : OEndsQ P mi (pc + 3) (forget er L) (v.toList ++ rest) H1 (LawQ x c0 s0)) : OEndsQ P mi pc L S H (LawQ x c1 s1) := by
  obtain ⟨⟨v, Hf, k, n⟩, E, q1, q2, q3⟩ := E2
  dsimp only at q1 q2 q3
  exact ⟨_, OEnds.call hm hf hi hb hy hao hc E1 E, q1, by show k + kc ≤ c1; omega, by show n + ks ≤ s1; omega⟩
end Rules
/-! From the machine to the claim -/
theorem law_met {P : PD} {Z : State} {a0 : Array Value} {l : Launch} {y : MD} {as ws : List Value} {H : AHeap} {ρ : List Addr} {n0 kc ks : Nat} {h : Heap} (hP : chk P = true) (hW : ∀ w ∈ wordsOf P, w.before a0 Z = true) (hy : P.mth[0]? = some y)
    (E : OEndsQ P 0 0 (entL as y.maxL) [] H (LawQ 1 kc ks)) (hS : SR ρ as ws) (hlen : (entA as).length ≤ y.maxL) (hH : HR P Z n0 h ρ H) (w0 : List Jvm.Cond) (rm : Room) (r1 : y.rf ≤ rm.frames) (r2 : y.rw ≤ rm.locals) (r3 : kc ≤ rm.cells) (r4 : ks ≤ rm.slots) :
    MetFree l y.name (head1 (Jvm.Cond.code y.name y.bytes y.maxL y.ret :: w0) rm) (fun a U => a = ws.toArray ∧ Z.Warmed39 U.vm ∧ U.heap = h) (fun _ _ _ _ _ => True)
      (fun _ U o U' => ∃ L, o = .returned (some (.int 1)) ∧ Fr n0 L ∧ FrameEnd U o U' L kc ks) := by
  obtain ⟨⟨v, H1, c1, s1⟩, ⟨n, E⟩, q1, q2, q3⟩ := E
  dsimp only at q1 q2 q3
  subst q1
  have hpn : plainName y.name.cls = true := by
    have := mChk_of hP (List.mem_of_getElem? hy)
    simp only [mChk, Bool.and_eq_true] at this
    exact this.1.1.1.1.1.1
  have M := met_of (l := l) (n := n) (sound hP hW n) hy hpn (E n (Nat.le_refl _)) hS hlen hH w0 rm r1 r2 (Nat.le_trans q2 r3) (Nat.le_trans q3 r4)
  intro p e ha hc hk s m args below hf happ hp hK
  obtain ⟨n', o, h1, h2, h3, v', L, rfl, ⟨hF, t, ⟨u, rfl, hu⟩, -⟩, hq⟩ := M p e ha hc hk s m args below hf happ hp hK
  obtain rfl : u = .int 1 := hu
  exact ⟨n', _, h1, h2, h3, L, rfl, hF, hq.1, hq.2.1, hq.2.2.mono q2 q3⟩
end Jvm.Own
namespace Jvm.Own
open Jvm Jvm.ClassFile Sem Op Lib Jvm.Free Jvm.Stand Jvm.LawKit Jvm.RoadKit Bundle
/-- the law's script: an int array of at most 260 -/
theorem script_of {s : State} {ad : Addr} {cl : Cell} (hf : Fit s) (A : Arr s s.heap ad cl .int) (e0 : (Term.arg 0).eval #[.ref ad] s none [] s = some (.ref ad)) (hn : (Jvm.Cond.le (.length (.arg 0)) (.int 260)).value #[.ref ad] s none s [] = some true) :
    ∃ scr : List Int32, cl.slots.size = scr.length ∧ scr.length ≤ 260 ∧ ∀ (i : Nat) x, scr[i]? = some x → cl.slots[i]? = some (.int x) := by
  obtain ⟨u, v, g1, g2, -, -⟩ := cmp_v (Or.inr (Or.inr hn))
  obtain ⟨a', cl', z1, z2, z3⟩ := Term.length_spec g1
  have hat := A.fin (Vm.Alike.refl _)
  rw [e0] at z1
  cases z1
  rw [hat] at z2
  cases z2
  have hsz : cl.slots.size < 2 ^ 31 := by
    rcases Nat.lt_or_ge cl.slots.size (2 ^ 31) with q | q
    · exact q
    · exfalso
      simp [Term.eval, hat] at g1
      omega
  subst z3
  have hv : v = .int 260 := by simpa [Term.eval] using g2.symm
  subst hv
  have hle : cl.slots.size.toInt32 ≤ 260 := by
    simpa [Cond.value, g1, g2] using hn
  have hle' : cl.slots.size ≤ 260 := by
    rw [Int32.le_iff_toInt_le, len_toInt hsz] at hle
    have : (260 : Int32).toInt = 260 := rfl
    rw [this] at hle
    omega
  have key : ∀ i, i < cl.slots.size → ∃ x, cl.slots[i]? = some (.int x) := fun i hi => by
    have hj := idx_in hi hsz
    obtain ⟨v, e1, e2⟩ := elem_fit hf A hj
    have : i.toInt32.toNatClampNeg = i := by
      have h1 : i.toInt32.toInt = i := len_toInt (by omega)
      simp [Int32.toNatClampNeg, h1]
    rw [this] at e1
    obtain ⟨x, rfl⟩ := fit_I e2 (Or.inl rfl)
    exact ⟨x, e1⟩
  refine ⟨cl.slots.toList.map fun v => match v with | .int x => x | _ => 0, by simp, by simpa using hle', fun i x hx => ?_⟩
  rw [List.getElem?_map] at hx
  obtain ⟨v, h1, h2⟩ := Option.map_eq_some_iff.mp hx
  have h1' : cl.slots[i]? = some v := by simpa using h1
  obtain ⟨y, hy⟩ := key i (Array.getElem?_eq_some_iff.mp h1').1
  rw [h1'] at hy
  cases hy
  rw [h1']
  simp at h2
  rw [h2]
theorem hr_script {P : PD} {s : State} {ad : Addr} {cl : Cell} {scr : List Int32} (hnr : P.nr = 1) (A : Arr s s.heap ad cl .int) (h1 : cl.slots.size = scr.length) (h2 : scr.length ≤ 260) (h3 : ∀ (i : Nat) x, scr[i]? = some x → cl.slots[i]? = some (.int x)) : HR P s s.heap.size s.heap [ad] [.inr (.inl (false, scr))] := by
  refine ⟨Nat.le_refl _, rfl, fun i j a g1 g2 => ?_, fun k a g1 g2 => ?_, fun k a c g1 g2 => ?_⟩
  · match i, j, g1, g2 with
    | 0, 0, _, _ => rfl
    | i + 1, _, g1, _ => simp at g1
    | 0, j + 1, _, g2 => simp at g2
  · match k, g1, g2 with
    | 0, _, g2 => rw [hnr] at g2; omega
    | k + 1, g1, _ => simp at g1
  · match k, g1, g2 with
    | 0, g1, g2 =>
      simp at g1 g2
      subst g1 g2
      exact ⟨cl, A, h1, by omega, h3⟩
    | k + 1, g1, _ => simp at g1
end Jvm.Own
namespace Jvm.Own
open Jvm
/-! Ints in range, arrays -/
theorem ilt {a b : Int32} : a < b ↔ a.toInt < b.toInt := Int32.lt_iff_toInt_lt
theorem ile {a b : Int32} : a ≤ b ↔ a.toInt ≤ b.toInt := Int32.le_iff_toInt_le
theorem ieq {a b : Int32} : a = b ↔ a.toInt = b.toInt := Int32.toInt_inj.symm
theorem irng (a : Int32) : -2147483648 ≤ a.toInt ∧ a.toInt < 2147483648 := ⟨Int32.le_toInt a, Int32.toInt_lt a⟩
theorem iadd_i {a b : Int32} (h1 : -2147483648 ≤ a.toInt + b.toInt) (h2 : a.toInt + b.toInt < 2147483648) : (a + b).toInt = a.toInt + b.toInt := by
  rw [Int32.toInt_add]; exact Int.bmod_eq_of_le (by omega) (by omega)
theorem isub_i {a b : Int32} (h1 : -2147483648 ≤ a.toInt - b.toInt) (h2 : a.toInt - b.toInt < 2147483648) : (a - b).toInt = a.toInt - b.toInt := by
  rw [Int32.toInt_sub]; exact Int.bmod_eq_of_le (by omega) (by omega)
theorem imul_i {a b : Int32} (h1 : -2147483648 ≤ a.toInt * b.toInt) (h2 : a.toInt * b.toInt < 2147483648) : (a * b).toInt = a.toInt * b.toInt := by
  rw [Int32.toInt_mul]; exact Int.bmod_eq_of_le (by omega) (by omega)
theorem rdA_nn {α : Type} {L : List α} {j : Int32} (h0 : 0 ≤ j.toInt) : rdA L j = L[j.toInt.toNat]? := by
  unfold rdA
  rw [if_neg (by rw [ilt]; exact Int.not_lt.mpr h0)]
  rfl
theorem rdA_in {α : Type} {L : List α} {j : Int32} (h0 : 0 ≤ j.toInt) (h1 : j.toInt.toNat < L.length) : rdA L j = some L[j.toInt.toNat] := by
  rw [rdA_nn h0, List.getElem?_eq_getElem h1]
theorem wrA_in {α : Type} {L : List α} {j : Int32} {x : α} (h0 : 0 ≤ j.toInt) (h1 : j.toInt.toNat < L.length) : wrA L j x = some (L.set j.toInt.toNat x) := by
  unfold wrA
  rw [if_neg (by rw [ilt]; exact Int.not_lt.mpr h0)]
  exact if_pos h1
theorem rdA_rep {α : Type} {n : Nat} {x : α} {j : Int32} (h0 : 0 ≤ j.toInt) (h1 : j.toInt < n) : rdA (List.replicate n x) j = some x := by
  rw [rdA_nn h0, List.getElem?_replicate, if_pos (by omega)]
end Jvm.Own
namespace Jvm.Own
open Jvm
/-! Sums of ints with their wrap, for omega; runs that answer, and what they answer -/
theorem bmod32 (x : Int) : x.bmod (2 ^ 32) = (x + 2147483648) % 4294967296 - 2147483648 := by
  rw [Int.bmod_def]
  split <;> omega
theorem iadd_e (a b : Int32) : (a + b).toInt = (a.toInt + b.toInt + 2147483648) % 4294967296 - 2147483648 := by
  rw [Int32.toInt_add, bmod32]
theorem isub_e (a b : Int32) : (a - b).toInt = (a.toInt - b.toInt + 2147483648) % 4294967296 - 2147483648 := by
  rw [Int32.toInt_sub, bmod32]
theorem imul_e (a b : Int32) : (a * b).toInt = (a.toInt * b.toInt + 2147483648) % 4294967296 - 2147483648 := by
  rw [Int32.toInt_mul, bmod32]
theorem iscr {n : Nat} (h : n ≤ 260) : (n.toInt32).toInt = n := Int32.toInt_ofNat_of_lt (by omega)
def Tot {α : Type} (x : Option α) (P : α → Prop) : Prop := ∃ r, x = some r ∧ P r
theorem Tot.mk {α : Type} {P : α → Prop} {a : α} (h : P a) : Tot (some a) P := ⟨a, rfl, h⟩
theorem Tot.bind {α β : Type} {x : Option α} {f : α → Option β} {P : α → Prop} {Q : β → Prop} (h : Tot x P) (g : ∀ a, P a → Tot (f a) Q) : Tot (x.bind f) Q := by
  obtain ⟨r, e, p⟩ := h
  rw [e]
  exact g r p
theorem Tot.mono {α : Type} {x : Option α} {P Q : α → Prop} (h : Tot x P) (g : ∀ a, P a → Q a) : Tot x Q := by
  obtain ⟨r, e, p⟩ := h
  exact ⟨r, e, g r p⟩
theorem Tot.ite {α : Type} {c : Prop} [Decidable c] {a b : Option α} {Q : α → Prop} (h1 : c → Tot a Q) (h2 : ¬ c → Tot b Q) : Tot (if c then a else b) Q := by
  by_cases h : c
  · rw [if_pos h]; exact h1 h
  · rw [if_neg h]; exact h2 h
theorem Tot.rd {α β : Type} {L : List α} {j : Int32} {f : α → Option β} {Q : β → Prop} (h0 : 0 ≤ j.toInt) (h1 : j.toInt < L.length) (g : ∀ a, L[j.toInt.toNat]? = some a → Tot (f a) Q) : Tot ((rdA L j).bind f) Q := by
  have h2 : j.toInt.toNat < L.length := by omega
  rw [rdA_in h0 h2]
  exact g _ (List.getElem?_eq_getElem h2)
theorem Tot.wr {α β : Type} {L : List α} {j : Int32} {x : α} {f : List α → Option β} {Q : β → Prop} (h0 : 0 ≤ j.toInt) (h1 : j.toInt < L.length) (g : ∀ L' : List α, L' = L.set j.toInt.toNat x → L'.length = L.length → Tot (f L') Q) : Tot ((wrA L j x).bind f) Q := by
  rw [wrA_in h0 (by omega)]
  exact g _ rfl (by simp)
theorem Tot.eq {α : Type} {x : Option α} {a : α} (h : Tot x (fun r => r = a)) : x = some a := by
  obtain ⟨r, e, p⟩ := h
  rw [e, p]
theorem Tot.of {α : Type} {x : Option α} {a : α} {P : α → Prop} (e : x = some a) (p : P a) : Tot x P := ⟨a, e, p⟩
/-- a bit mask at 15, 31 .. -/
theorem iand_rng (x : Int32) (m : Int32) (h : 0 ≤ m.toInt) : 0 ≤ (x &&& m).toInt ∧ (x &&& m).toInt ≤ m.toInt := by
  have hm : m.toBitVec.msb = false := by
    rw [BitVec.msb_eq_toInt]; simpa using h
  have hx : (x &&& m).toBitVec.msb = false := by
    rw [Int32.toBitVec_and, BitVec.msb_and, hm, Bool.and_false]
  have e1 : m.toInt = (m.toBitVec.toNat : Int) := BitVec.toInt_eq_toNat_of_msb hm
  have e2 : (x &&& m).toInt = (((x &&& m).toBitVec).toNat : Int) := BitVec.toInt_eq_toNat_of_msb hx
  have e3 : ((x &&& m).toBitVec).toNat ≤ m.toBitVec.toNat := by
    rw [Int32.toBitVec_and, BitVec.toNat_and]; exact Nat.and_le_right
  omega
def gI (L : List Int32) (j : Int32) : Int32 := (rdA L j).getD 0
theorem rdg {L : List Int32} {j : Int32} (h0 : 0 ≤ j.toInt) (h1 : j.toInt < L.length) : rdA L j = some (gI L j) := by
  have h2 : j.toInt.toNat < L.length := by omega
  unfold gI
  rw [rdA_in h0 h2]
  (first | done | rfl | simp)
theorem gset {L : List Int32} {i j : Int32} {x : Int32} (hi : 0 ≤ i.toInt) (hl : i.toInt < L.length) (hj : 0 ≤ j.toInt) : gI (L.set i.toInt.toNat x) j = if i = j then x else gI L j := by
  unfold gI
  rw [rdA_nn hj, rdA_nn hj]
  by_cases h : i = j
  · subst h
    rw [if_pos rfl, List.getElem?_set_self (by omega)]
    (first | done | rfl | simp)
  · rw [if_neg h, List.getElem?_set_ne (by rw [ieq] at h; omega)]
theorem gext {A B : List Int32} (hl : A.length < 100000) (ha : A.length = B.length) (h : ∀ i : Int32, 0 ≤ i.toInt → i.toInt < A.length → gI A i = gI B i) : A = B := by
  apply List.ext_getElem ha
  intro k h1 h2
  have e : (Int32.ofNat k).toInt = k := Int32.toInt_ofNat_of_lt (by omega)
  have q := h (Int32.ofNat k) (by omega) (by omega)
  unfold gI at q
  rw [rdA_nn (by omega), rdA_nn (by omega), e] at q
  simpa [h1, h2] using q
theorem Tot.rdI {β : Type} {L : List Int32} {j : Int32} {f : Int32 → Option β} {Q : β → Prop} (h0 : 0 ≤ j.toInt) (h1 : j.toInt < L.length) (g : Tot (f (gI L j)) Q) : Tot ((rdA L j).bind f) Q := by
  rw [rdg h0 h1]
  exact g
theorem gI_rep {n : Nat} {x : Int32} {j : Int32} (h0 : 0 ≤ j.toInt) (h1 : j.toInt < n) : gI (List.replicate n x) j = x := by
  unfold gI
  rw [rdA_rep h0 h1]
  (first | done | rfl | simp)
/-! Longs -/
theorem lltI {a b : Int64} : a < b ↔ a.toInt < b.toInt := Int64.lt_iff_toInt_lt
theorem leqI {a b : Int64} : a = b ↔ a.toInt = b.toInt := Int64.toInt_inj.symm
theorem lrng (a : Int64) : -9223372036854775808 ≤ a.toInt ∧ a.toInt < 9223372036854775808 := ⟨Int64.le_toInt a, Int64.toInt_lt a⟩
theorem ladd_i {a b : Int64} (h1 : -9223372036854775808 ≤ a.toInt + b.toInt) (h2 : a.toInt + b.toInt < 9223372036854775808) : (a + b).toInt = a.toInt + b.toInt := by
  rw [Int64.toInt_add]; exact Int.bmod_eq_of_le (by omega) (by omega)
theorem lsub_i {a b : Int64} (h1 : -9223372036854775808 ≤ a.toInt - b.toInt) (h2 : a.toInt - b.toInt < 9223372036854775808) : (a - b).toInt = a.toInt - b.toInt := by
  rw [Int64.toInt_sub]; exact Int.bmod_eq_of_le (by omega) (by omega)
theorem lmul_i {a b : Int64} (h1 : -9223372036854775808 ≤ a.toInt * b.toInt) (h2 : a.toInt * b.toInt < 9223372036854775808) : (a * b).toInt = a.toInt * b.toInt := by
  rw [Int64.toInt_mul]; exact Int.bmod_eq_of_le (by omega) (by omega)
theorem lmod_i {a b : Int64} (h : 0 ≤ a.toInt) : (a % b).toInt = a.toInt % b.toInt := by
  rw [Int64.toInt_mod, Int.tmod_eq_emod_of_nonneg h]
theorem lback {a : Int64} (h1 : -2147483648 ≤ a.toInt) (h2 : a.toInt < 2147483648) : a.toInt32.toInt64 = a := by
  rw [leqI, Int32.toInt_toInt64, Int64.toInt_toInt32, bmod32]
  omega
theorem mulb {a b M : Int} (h0 : 0 ≤ a) (h1 : a ≤ M) (h2 : 0 ≤ b) (h3 : b ≤ M) : 0 ≤ a * b ∧ a * b ≤ M * M :=
  ⟨Int.mul_nonneg h0 h2, Int.mul_le_mul h1 h3 h2 (by omega)⟩
end Jvm.Own
namespace Jvm.Pilot.@@N@@
open Jvm Jvm.ClassFile Sem Op Lib Jvm.Free Jvm.Stand Jvm.LawKit Jvm.RoadKit Bundle Jvm.Own Jvm.Pilot.@@N@@.Jvm.D
def d_0 : MD := (x, code, maxLocals, ret, 0, 1, 999, 5, 94, [(0, .new 8, 3, [], 0, 0), (3, .dup, 1, [], 0, 0), (4, .iconst 1, 1, [], 0, 0), (5, .aload_n 0, 1, [], 0, 0), (6, .iconst 0, 1, [], 0, 0), (7, .invokestatic 13, 3, [], 1, 0), (10, .bipush 7, 2, [], 0, 0), (12, .iand, 1, [], 0, 0), (13, .iadd, 1, [], 0, 0), (14, .aload_n 0, 1, [], 0, 0), (15, .iconst 1, 1, [], 0, 0), (16, .invokestatic 13, 3, [], 1, 0), (19, .bipush 31, 2, [], 0, 0), (21, .iand, 1, [], 0, 0), (22, .invokespecial 19, 3, [], 2, 0), (25, .astore_n 1, 1, [], 0, 0), (26, .iconst 0, 1, [], 0, 0), (27, .istore_n 2, 1, [], 0, 0), (28, .aload_n 0, 1, [], 0, 0), (29, .arraylength, 1, [], 0, 0), (30, .iconst 3, 1, [], 0, 0), (31, .idiv, 1, [], 0, 0), (32, .istore_n 3, 1, [], 0, 0), (33, .iconst 0, 1, [], 0, 0), (34, .istore 4, 2, [], 0, 0), (36, .iload 4, 2, [false, false, false, false, false, true, true, true, true, true, true, true, true, true, true, true, true, true, true, true, true, true, true, true, true, true, true, true, true, true], 0, 0), (38, .iload_n 3, 1, [], 0, 0), (39, .if_icmp .ge 938, 3, [], 0, 0), (42, .aload_n 0, 1, [], 0, 0), (43, .iconst 2, 1, [], 0, 0), (44, .iconst 3, 1, [], 0, 0), (45, .iload 4, 2, [], 0, 0), (47, .imul, 1, [], 0, 0), (48, .iadd, 1, [], 0, 0), (49, .invokestatic 13, 3, [], 1, 0), (52, .ldc 22, 2, [], 0, 2147483647), (54, .iand, 1, [], 0, 0), (55, .istore 5, 2, [], 0, 0), (57, .aload_n 0, 1, [], 0, 0), (58, .iconst 3, 1, [], 0, 0), (59, .iconst 3, 1, [], 0, 0), (60, .iload 4, 2, [], 0, 0), (62, .imul, 1, [], 0, 0), (63, .iadd, 1, [], 0, 0), (64, .invokestatic 13, 3, [], 1, 0), (67, .ldc 22, 2, [], 0, 2147483647), (69, .iand, 1, [], 0, 0), (70, .istore 6, 2, [], 0, 0), (72, .aload_n 0, 1, [], 0, 0), (73, .iconst 4, 1, [], 0, 0), (74, .iconst 3, 1, [], 0, 0), (75, .iload 4, 2, [], 0, 0), (77, .imul, 1, [], 0, 0), (78, .iadd, 1, [], 0, 0), (79, .invokestatic 13, 3, [], 1, 0), (82, .ldc 22, 2, [], 0, 2147483647), (84, .iand, 1, [], 0, 0), (85, .istore 7, 2, [], 0, 0), (87, .iload 5, 2, [], 0, 0), (89, .bipush 8, 2, [], 0, 0), (91, .irem, 1, [], 0, 0), (92, .istore 8, 2, [], 0, 0), (94, .aload_n 1, 1, [], 0, 0), (95, .iconst 0, 1, [], 0, 0), (96, .invokestatic 23, 3, [], 3, 0), (99, .lstore 9, 2, [], 0, 0), (101, .aload_n 1, 1, [], 0, 0), (102, .iconst 1, 1, [], 0, 0), (103, .invokestatic 23, 3, [], 3, 0), (106, .lstore 11, 2, [], 0, 0), (108, .iload 8, 2, [], 0, 0), (110, .iconst 5, 1, [], 0, 0), (111, .if_icmp .eq 10, 3, [], 0, 0), (114, .iload 8, 2, [], 0, 0), (116, .bipush 6, 2, [], 0, 0), (118, .if_icmp .ne 259, 3, [], 0, 0), (121, .iconst 1, 1, [false, false, false, false, false, true, false, false, false, false, false, false, false, true, true, true, true, true, true, true, true, true, true, true, true, true, true, true, true, true], 0, 0), (122, .iload 6, 2, [], 0, 0), (124, .iload_n 2, 1, [], 0, 0), (125, .iconst 1, 1, [], 0, 0), (126, .iadd, 1, [], 0, 0), (127, .irem, 1, [], 0, 0), (128, .iadd, 1, [], 0, 0), (129, .istore 13, 2, [], 0, 0), (131, .aload_n 1, 1, [], 0, 0), (132, .iload 13, 2, [], 0, 0), (134, .invokevirtual 27, 3, [], 12, 0), (137, .istore 14, 2, [], 0, 0), (139, .aload_n 1, 1, [], 0, 0), (140, .iload 13, 2, [], 0, 0), (142, .invokevirtual 31, 3, [], 13, 0), (145, .istore 15, 2, [], 0, 0), (147, .iload 14, 2, [], 0, 0), (149, .iconst 1, 1, [], 0, 0), (150, .if_icmp .ne 7, 3, [], 0, 0), (153, .iconst 1, 1, [], 0, 0), (154, .goto 4, 3, [], 0, 0), (157, .iconst 0, 1, [], 0, 0), (158, .istore 16, 2, [false, false, false, false, false, true, true, false, false, false, false, false, false, false, true, false, true, true, true, true, true, true, true, true, true, true, true, true, true, true], 0, 0), (160, .iload 8, 2, [], 0, 0), (162, .iconst 5, 1, [], 0, 0), (163, .if_icmp .ne 100, 3, [], 0, 0), (166, .aload_n 1, 1, [], 0, 0), (167, .iload 13, 2, [], 0, 0), (169, .invokevirtual 34, 3, [], 28, 0), (172, .istore 17, 2, [], 0, 0), (174, .iload 16, 2, [], 0, 0), (176, .ifCond .eq 53, 3, [], 0, 0), (179, .iload 17, 2, [], 0, 0), (181, .ifCond .ne 46, 3, [], 0, 0), (184, .aload_n 1, 1, [], 0, 0), (185, .iload 13, 2, [], 0, 0), (187, .invokevirtual 27, 3, [], 12, 0), (190, .iconst 3, 1, [], 0, 0), (191, .if_icmp .ne 36, 3, [], 0, 0), (194, .aload_n 1, 1, [], 0, 0), (195, .iload 13, 2, [], 0, 0), (197, .invokevirtual 31, 3, [], 13, 0), (200, .ifCond .ne 27, 3, [], 0, 0), (203, .aload_n 1, 1, [], 0, 0), (204, .iconst 0, 1, [], 0, 0), (205, .invokestatic 23, 3, [], 3, 0), (208, .aload_n 1, 1, [], 0, 0), (209, .iconst 1, 1, [], 0, 0), (210, .invokestatic 23, 3, [], 3, 0), (213, .ladd, 1, [], 0, 0), (214, .lload 9, 2, [], 0, 0), (216, .lload 11, 2, [], 0, 0), (218, .ladd, 1, [], 0, 0), (219, .iload 15, 2, [], 0, 0), (221, .i2l, 1, [], 0, 0), (222, .lsub, 1, [], 0, 0), (223, .lcmp, 1, [], 0, 0), (224, .ifCond .eq 36, 3, [], 0, 0), (227, .iconst 0, 1, [], 0, 0), (228, .ireturn, 1, [], 0, 0), (229, .iload 17, 2, [], 0, 0), (231, .bipush (-6), 2, [], 0, 0), (233, .if_icmp .ne 25, 3, [], 0, 0), (236, .aload_n 1, 1, [], 0, 0), (237, .iconst 0, 1, [], 0, 0), (238, .invokestatic 23, 3, [], 3, 0), (241, .lload 9, 2, [], 0, 0), (243, .lcmp, 1, [], 0, 0), (244, .ifCond .ne 14, 3, [], 0, 0), (247, .aload_n 1, 1, [], 0, 0), (248, .iconst 1, 1, [], 0, 0), (249, .invokestatic 23, 3, [], 3, 0), (252, .lload 11, 2, [], 0, 0), (254, .lcmp, 1, [], 0, 0), (255, .ifCond .eq 5, 3, [], 0, 0), (258, .iconst 0, 1, [], 0, 0), (259, .ireturn, 1, [], 0, 0), (260, .goto 711, 3, [], 0, 0), (263, .iconst 1, 1, [], 0, 0), (264, .iload 7, 2, [], 0, 0), (266, .bipush 64, 2, [], 0, 0), (268, .irem, 1, [], 0, 0), (269, .iadd, 1, [], 0, 0), (270, .istore 17, 2, [], 0, 0), (272, .aload_n 1, 1, [], 0, 0), (273, .iload 13, 2, [], 0, 0), (275, .iload 17, 2, [], 0, 0), (277, .invokevirtual 37, 3, [], 31, 0), (280, .istore 18, 2, [], 0, 0), (282, .iload 16, 2, [], 0, 0), (284, .ifCond .eq 59, 3, [], 0, 0), (287, .iload 18, 2, [], 0, 0), (289, .ifCond .ne 52, 3, [], 0, 0), (292, .aload_n 1, 1, [], 0, 0), (293, .iload 13, 2, [], 0, 0), (295, .invokevirtual 27, 3, [], 12, 0), (298, .iconst 1, 1, [], 0, 0), (299, .if_icmp .ne 42, 3, [], 0, 0), (302, .aload_n 1, 1, [], 0, 0), (303, .iload 13, 2, [], 0, 0), (305, .invokevirtual 31, 3, [], 13, 0), (308, .iload 17, 2, [], 0, 0), (310, .if_icmp .ne 31, 3, [], 0, 0), (313, .aload_n 1, 1, [], 0, 0), (314, .iconst 0, 1, [], 0, 0), (315, .invokestatic 23, 3, [], 3, 0), (318, .aload_n 1, 1, [], 0, 0), (319, .iconst 1, 1, [], 0, 0), (320, .invokestatic 23, 3, [], 3, 0), (323, .ladd, 1, [], 0, 0), (324, .lload 9, 2, [], 0, 0), (326, .lload 11, 2, [], 0, 0), (328, .ladd, 1, [], 0, 0), (329, .iload 15, 2, [], 0, 0), (331, .i2l, 1, [], 0, 0), (332, .lsub, 1, [], 0, 0), (333, .iload 17, 2, [], 0, 0), (335, .i2l, 1, [], 0, 0), (336, .ladd, 1, [], 0, 0), (337, .lcmp, 1, [], 0, 0), (338, .ifCond .eq 36, 3, [], 0, 0), (341, .iconst 0, 1, [], 0, 0), (342, .ireturn, 1, [], 0, 0), (343, .iload 18, 2, [], 0, 0), (345, .bipush (-6), 2, [], 0, 0), (347, .if_icmp .ne 25, 3, [], 0, 0), (350, .aload_n 1, 1, [], 0, 0), (351, .iconst 0, 1, [], 0, 0), (352, .invokestatic 23, 3, [], 3, 0), (355, .lload 9, 2, [], 0, 0), (357, .lcmp, 1, [], 0, 0), (358, .ifCond .ne 14, 3, [], 0, 0), (361, .aload_n 1, 1, [], 0, 0), (362, .iconst 1, 1, [], 0, 0), (363, .invokestatic 23, 3, [], 3, 0), (366, .lload 11, 2, [], 0, 0), (368, .lcmp, 1, [], 0, 0), (369, .ifCond .eq 5, 3, [], 0, 0), (372, .iconst 0, 1, [], 0, 0), (373, .ireturn, 1, [], 0, 0), (374, .goto 597, 3, [], 0, 0), (377, .iload 5, 2, [], 0, 0), (379, .iconst 3, 1, [], 0, 0), (380, .ishr, 1, [], 0, 0), (381, .iconst 1, 1, [], 0, 0), (382, .iand, 1, [], 0, 0), (383, .istore 13, 2, [], 0, 0), (385, .iconst 1, 1, [], 0, 0), (386, .iload 13, 2, [], 0, 0), (388, .isub, 1, [], 0, 0), (389, .istore 14, 2, [], 0, 0), (391, .iload 8, 2, [], 0, 0), (393, .bipush 7, 2, [], 0, 0), (395, .if_icmp .ne 7, 3, [], 0, 0), (398, .iconst 1, 1, [], 0, 0), (399, .goto 4, 3, [], 0, 0), (402, .iconst 0, 1, [], 0, 0), (403, .istore 15, 2, [false, false, false, false, false, true, false, false, true, false, false, false, false, false, false, true, true, true, true, true, true, true, true, true, true, true, true, true, true, true], 0, 0), (405, .bipush 100, 2, [], 0, 0), (407, .iload 6, 2, [], 0, 0), (409, .bipush 8, 2, [], 0, 0), (411, .irem, 1, [], 0, 0), (412, .iadd, 1, [], 0, 0), (413, .istore 16, 2, [], 0, 0), (415, .iconst 1, 1, [], 0, 0), (416, .iload 7, 2, [], 0, 0), (418, .bipush 100, 2, [], 0, 0), (420, .irem, 1, [], 0, 0), (421, .iadd, 1, [], 0, 0), (422, .istore 17, 2, [], 0, 0), (424, .aload_n 1, 1, [], 0, 0), (425, .invokevirtual 40, 3, [], 5, 0), (428, .istore 18, 2, [], 0, 0), (430, .aload_n 1, 1, [], 0, 0), (431, .iload 13, 2, [], 0, 0), (433, .iload 16, 2, [], 0, 0), (435, .iload 17, 2, [], 0, 0), (437, .iload 15, 2, [], 0, 0), (439, .invokevirtual 44, 3, [], 6, 0), (442, .istore 19, 2, [], 0, 0), (444, .iload_n 2, 1, [], 0, 0), (445, .sipush 255, 3, [], 0, 0), (448, .if_icmp .ne 43, 3, [], 0, 0), (451, .iload 19, 2, [], 0, 0), (453, .bipush (-5), 2, [], 0, 0), (455, .if_icmp .ne 34, 3, [], 0, 0), (458, .aload_n 1, 1, [], 0, 0), (459, .iconst 0, 1, [], 0, 0), (460, .invokestatic 23, 3, [], 3, 0), (463, .lload 9, 2, [], 0, 0), (465, .lcmp, 1, [], 0, 0), (466, .ifCond .ne 23, 3, [], 0, 0), (469, .aload_n 1, 1, [], 0, 0), (470, .iconst 1, 1, [], 0, 0), (471, .invokestatic 23, 3, [], 3, 0), (474, .lload 11, 2, [], 0, 0), (476, .lcmp, 1, [], 0, 0), (477, .ifCond .ne 12, 3, [], 0, 0), (480, .aload_n 1, 1, [], 0, 0), (481, .invokevirtual 40, 3, [], 5, 0), (484, .iload 18, 2, [], 0, 0), (486, .if_icmp .eq 485, 3, [], 0, 0), (489, .iconst 0, 1, [], 0, 0), (490, .ireturn, 1, [], 0, 0), (491, .iinc 2 1, 3, [], 0, 0), (494, .iload 19, 2, [], 0, 0), (496, .iload_n 2, 1, [], 0, 0), (497, .if_icmp .eq 5, 3, [], 0, 0), (500, .iconst 0, 1, [], 0, 0), (501, .ireturn, 1, [], 0, 0), (502, .aload_n 1, 1, [], 0, 0), (503, .iload 19, 2, [], 0, 0), (505, .invokevirtual 48, 3, [], 11, 0), (508, .istore 20, 2, [], 0, 0), (510, .aload_n 1, 1, [], 0, 0), (511, .invokevirtual 40, 3, [], 5, 0), (514, .istore 21, 2, [], 0, 0), (516, .lconst 0, 1, [], 0, 0), (517, .lstore 22, 2, [], 0, 0), (519, .iconst 0, 1, [], 0, 0), (520, .istore 24, 2, [], 0, 0), (522, .iload 24, 2, [false, false, false, false, false, true, true, true, true, false, false, false, false, false, false, false, false, false, true, false, false, false, false, false, false, true, true, true, true, true], 0, 0), (524, .iload 21, 2, [], 0, 0), (526, .if_icmp .ge 251, 3, [], 0, 0), (529, .aload_n 1, 1, [], 0, 0), (530, .iload 24, 2, [], 0, 0), (532, .invokevirtual 51, 3, [], 25, 0), (535, .istore 25, 2, [], 0, 0), (537, .aload_n 1, 1, [], 0, 0), (538, .iload 24, 2, [], 0, 0), (540, .invokevirtual 54, 3, [], 26, 0), (543, .istore 26, 2, [], 0, 0), (545, .aload_n 1, 1, [], 0, 0), (546, .iload 24, 2, [], 0, 0), (548, .invokevirtual 57, 3, [], 27, 0), (551, .istore 27, 2, [], 0, 0), (553, .iload 26, 2, [], 0, 0), (555, .iconst 1, 1, [], 0, 0), (556, .if_icmp .lt 16, 3, [], 0, 0), (559, .iload 25, 2, [], 0, 0), (561, .iconst 1, 1, [], 0, 0), (562, .if_icmp .lt 10, 3, [], 0, 0), (565, .iload 25, 2, [], 0, 0), (567, .iload 19, 2, [], 0, 0), (569, .if_icmp .lt 5, 3, [], 0, 0), (572, .iconst 0, 1, [], 0, 0), (573, .ireturn, 1, [], 0, 0), (574, .iload 13, 2, [], 0, 0), (576, .ifCond .ne 13, 3, [], 0, 0), (579, .iload 27, 2, [], 0, 0), (581, .iload 16, 2, [], 0, 0), (583, .if_icmp .le 15, 3, [], 0, 0), (586, .goto 10, 3, [], 0, 0), (589, .iload 27, 2, [], 0, 0), (591, .iload 16, 2, [], 0, 0), (593, .if_icmp .ge 5, 3, [], 0, 0), (596, .iconst 0, 1, [], 0, 0), (597, .ireturn, 1, [], 0, 0), (598, .iload 24, 2, [false, false, false, false, false, true, true, true, true, false, false, false, false, false, false, false, false, false, true, false, false, false, false, false, false, false, false, false, true, true], 0, 0), (600, .ifCond .le 37, 3, [], 0, 0), (603, .aload_n 1, 1, [], 0, 0), (604, .iload 24, 2, [], 0, 0), (606, .iconst 1, 1, [], 0, 0), (607, .isub, 1, [], 0, 0), (608, .invokevirtual 57, 3, [], 27, 0), (611, .istore 28, 2, [], 0, 0), (613, .iload 13, 2, [], 0, 0), (615, .ifCond .ne 13, 3, [], 0, 0), (618, .iload 27, 2, [], 0, 0), (620, .iload 28, 2, [], 0, 0), (622, .if_icmp .ge 15, 3, [], 0, 0), (625, .goto 10, 3, [], 0, 0), (628, .iload 27, 2, [], 0, 0), (630, .iload 28, 2, [], 0, 0), (632, .if_icmp .le 5, 3, [], 0, 0), (635, .iconst 0, 1, [], 0, 0), (636, .ireturn, 1, [], 0, 0), (637, .iconst 0, 1, [], 0, 0), (638, .istore 28, 2, [], 0, 0), (640, .iload 28, 2, [false, false, false, false, false, true, true, true, true, false, false, false, false, false, false, false, false, false, true, false, false, false, false, false, false, false, false, false, false, true], 0, 0), (642, .iload 24, 2, [], 0, 0), (644, .if_icmp .ge 22, 3, [], 0, 0), (647, .aload_n 1, 1, [], 0, 0), (648, .iload 28, 2, [], 0, 0), (650, .invokevirtual 51, 3, [], 25, 0), (653, .iload 25, 2, [], 0, 0), (655, .if_icmp .ne 5, 3, [], 0, 0), (658, .iconst 0, 1, [], 0, 0), (659, .ireturn, 1, [], 0, 0), (660, .iinc 28 1, 3, [], 0, 0), (663, .goto (-23), 3, [], 0, 0), (666, .aload_n 1, 1, [false, false, false, false, false, true, true, true, true, false, false, false, false, false, false, false, false, false, true, false, false, false, false, false, false, false, false, false, true, true], 0, 0), (667, .iload 25, 2, [], 0, 0), (669, .invokevirtual 27, 3, [], 12, 0), (672, .istore 28, 2, [], 0, 0), (674, .aload_n 1, 1, [], 0, 0), (675, .iload 25, 2, [], 0, 0), (677, .invokevirtual 31, 3, [], 13, 0), (680, .ifCond .ne 12, 3, [], 0, 0), (683, .iload 28, 2, [], 0, 0), (685, .iconst 2, 1, [], 0, 0), (686, .if_icmp .eq 14, 3, [], 0, 0), (689, .goto 9, 3, [], 0, 0), (692, .iload 28, 2, [], 0, 0), (694, .iconst 1, 1, [], 0, 0), (695, .if_icmp .eq 5, 3, [], 0, 0), (698, .iconst 0, 1, [], 0, 0), (699, .ireturn, 1, [], 0, 0), (700, .iload 24, 2, [false, false, false, false, false, true, true, true, true, false, false, false, false, false, false, false, false, false, true, false, false, false, false, false, false, true, false, false, true, true], 0, 0), (702, .iload 21, 2, [], 0, 0), (704, .iconst 1, 1, [], 0, 0), (705, .isub, 1, [], 0, 0), (706, .if_icmp .eq 16, 3, [], 0, 0), (709, .aload_n 1, 1, [], 0, 0), (710, .iload 24, 2, [], 0, 0), (712, .iconst 1, 1, [], 0, 0), (713, .iadd, 1, [], 0, 0), (714, .invokevirtual 57, 3, [], 27, 0), (717, .iload 27, 2, [], 0, 0), (719, .if_icmp .eq 7, 3, [], 0, 0), (722, .iconst 1, 1, [], 0, 0), (723, .goto 4, 3, [], 0, 0), (726, .iconst 0, 1, [], 0, 0), (727, .istore 29, 2, [false, false, false, false, false, true, true, true, true, false, false, false, false, false, false, false, false, false, true, false, false, false, false, false, false, true, false, false, true, true], 0, 0), (729, .iload 29, 2, [], 0, 0), (731, .ifCond .eq 32, 3, [], 0, 0), (734, .aload_n 1, 1, [], 0, 0), (735, .iload 14, 2, [], 0, 0), (737, .iload 27, 2, [], 0, 0), (739, .invokevirtual 7, 3, [], 4, 0), (742, .ifCond .eq 21, 3, [], 0, 0), (745, .iload 24, 2, [], 0, 0), (747, .iload 21, 2, [], 0, 0), (749, .iconst 1, 1, [], 0, 0), (750, .isub, 1, [], 0, 0), (751, .if_icmp .ne 10, 3, [], 0, 0), (754, .iload 20, 2, [], 0, 0), (756, .iload 17, 2, [], 0, 0), (758, .if_icmp .eq 5, 3, [], 0, 0), (761, .iconst 0, 1, [], 0, 0), (762, .ireturn, 1, [], 0, 0), (763, .lload 22, 2, [false, false, false, false, false, true, true, true, true, false, false, false, false, false, false, false, false, false, true, false, false, false, false, false, false, true, false, true, true, true], 0, 0), (765, .iload 26, 2, [], 0, 0), (767, .i2l, 1, [], 0, 0), (768, .ladd, 1, [], 0, 0), (769, .lstore 22, 2, [], 0, 0), (771, .iinc 24 1, 3, [], 0, 0), (774, .goto (-252), 3, [], 0, 0), (777, .lload 22, 2, [false, false, false, false, false, true, true, true, true, false, false, false, false, false, false, false, false, false, true, false, false, true, false, false, true, true, true, true, true, true], 0, 0), (779, .iload 20, 2, [], 0, 0), (781, .i2l, 1, [], 0, 0), (782, .lcmp, 1, [], 0, 0), (783, .ifCond .ne 10, 3, [], 0, 0), (786, .iload 20, 2, [], 0, 0), (788, .iload 17, 2, [], 0, 0), (790, .if_icmp .le 5, 3, [], 0, 0), (793, .iconst 0, 1, [], 0, 0), (794, .ireturn, 1, [], 0, 0), (795, .aload_n 1, 1, [], 0, 0), (796, .iload 19, 2, [], 0, 0), (798, .invokevirtual 27, 3, [], 12, 0), (801, .istore 24, 2, [], 0, 0), (803, .aload_n 1, 1, [], 0, 0), (804, .iload 19, 2, [], 0, 0), (806, .invokevirtual 31, 3, [], 13, 0), (809, .istore 25, 2, [], 0, 0), (811, .iload 20, 2, [], 0, 0), (813, .iload 17, 2, [], 0, 0), (815, .if_icmp .ne 16, 3, [], 0, 0), (818, .iload 24, 2, [], 0, 0), (820, .iconst 2, 1, [], 0, 0), (821, .if_icmp .ne 8, 3, [], 0, 0), (824, .iload 25, 2, [], 0, 0), (826, .ifCond .eq 90, 3, [], 0, 0), (829, .iconst 0, 1, [], 0, 0), (830, .ireturn, 1, [], 0, 0), (831, .aload_n 1, 1, [], 0, 0), (832, .iload 14, 2, [], 0, 0), (834, .invokevirtual 60, 3, [], 15, 0), (837, .istore 26, 2, [], 0, 0), (839, .iload 26, 2, [], 0, 0), (841, .ifCond .eq 27, 3, [], 0, 0), (844, .iload 13, 2, [], 0, 0), (846, .ifCond .ne 13, 3, [], 0, 0), (849, .iload 26, 2, [], 0, 0), (851, .iload 16, 2, [], 0, 0), (853, .if_icmp .gt 15, 3, [], 0, 0), (856, .goto 10, 3, [], 0, 0), (859, .iload 26, 2, [], 0, 0), (861, .iload 16, 2, [], 0, 0), (863, .if_icmp .lt 5, 3, [], 0, 0), (866, .iconst 0, 1, [], 0, 0), (867, .ireturn, 1, [], 0, 0), (868, .iload 15, 2, [false, false, false, false, false, true, true, true, true, false, false, false, false, false, false, false, true, false, true, true, false, true, false, false, false, false, true, true, true, true], 0, 0), (870, .iconst 1, 1, [], 0, 0), (871, .if_icmp .ne 16, 3, [], 0, 0), (874, .iload 24, 2, [], 0, 0), (876, .iconst 4, 1, [], 0, 0), (877, .if_icmp .ne 8, 3, [], 0, 0), (880, .iload 25, 2, [], 0, 0), (882, .ifCond .eq 34, 3, [], 0, 0), (885, .iconst 0, 1, [], 0, 0), (886, .ireturn, 1, [], 0, 0), (887, .iload 24, 2, [], 0, 0), (889, .iconst 1, 1, [], 0, 0), (890, .if_icmp .ne 13, 3, [], 0, 0), (893, .iload 25, 2, [], 0, 0), (895, .iload 17, 2, [], 0, 0), (897, .iload 20, 2, [], 0, 0), (899, .isub, 1, [], 0, 0), (900, .if_icmp .eq 16, 3, [], 0, 0), (903, .iload 24, 2, [false, false, false, false, false, true, true, true, true, false, false, false, false, false, false, true, true, true, true, true, true, true, false, false, false, false, true, true, true, true], 0, 0), (905, .iconst 4, 1, [], 0, 0), (906, .if_icmp .ne 8, 3, [], 0, 0), (909, .iload 25, 2, [], 0, 0), (911, .ifCond .eq 5, 3, [], 0, 0), (914, .iconst 0, 1, [], 0, 0), (915, .ireturn, 1, [], 0, 0), (916, .aload_n 1, 1, [false, false, false, false, false, true, true, true, true, false, false, false, false, false, false, true, true, true, true, true, true, true, false, false, true, false, true, true, true, true], 0, 0), (917, .iload 14, 2, [], 0, 0), (919, .invokestatic 23, 3, [], 3, 0), (922, .iload 14, 2, [], 0, 0), (924, .ifCond .ne 8, 3, [], 0, 0), (927, .lload 9, 2, [], 0, 0), (929, .goto 5, 3, [], 0, 0), (932, .lload 11, 2, [], 0, 0), (934, .lload 22, 2, [false, false, false, false, false, true, true, true, true, false, false, false, false, false, true, true, true, true, true, true, true, true, false, false, true, false, true, true, true, true], 0, 0), (936, .lsub, 1, [], 0, 0), (937, .lcmp, 1, [], 0, 0), (938, .ifCond .eq 5, 3, [], 0, 0), (941, .iconst 0, 1, [], 0, 0), (942, .ireturn, 1, [], 0, 0), (943, .aload_n 1, 1, [], 0, 0), (944, .iload 13, 2, [], 0, 0), (946, .invokestatic 23, 3, [], 3, 0), (949, .iload 13, 2, [], 0, 0), (951, .ifCond .ne 8, 3, [], 0, 0), (954, .lload 9, 2, [], 0, 0), (956, .goto 5, 3, [], 0, 0), (959, .lload 11, 2, [], 0, 0), (961, .iload 25, 2, [false, false, false, false, false, true, true, true, true, true, true, true, true, true, true, true, true, true, true, true, true, true, true, true, true, false, true, true, true, true], 0, 0), (963, .i2l, 1, [], 0, 0), (964, .ladd, 1, [], 0, 0), (965, .lcmp, 1, [], 0, 0), (966, .ifCond .eq 5, 3, [], 0, 0), (969, .iconst 0, 1, [], 0, 0), (970, .ireturn, 1, [], 0, 0), (971, .iinc 4 1, 3, [], 0, 0), (974, .goto (-938), 3, [], 0, 0), (977, .iconst 1, 1, [], 0, 0), (978, .ireturn, 1, [], 0, 0)])
def d_1 : MD := (⟨"ProRataBookOwnLaw", "cell", "([II)I"⟩, method_2_code, 2, some .int, 0, 2, 999, 0, 0, [(0, .iload_n 1, 1, [], 0, 0), (1, .aload_n 0, 1, [], 0, 0), (2, .arraylength, 1, [], 0, 0), (3, .if_icmp .ge 9, 3, [], 0, 0), (6, .aload_n 0, 1, [], 0, 0), (7, .iload_n 1, 1, [], 0, 0), (8, .iaload, 1, [], 0, 0), (9, .goto 4, 3, [], 0, 0), (12, .iconst 0, 1, [], 0, 0), (13, .ireturn, 1, [], 0, 0)])
def d_2 : MD := (⟨"ProRataBook", "<init>", "(II)V"⟩, prog_1_method_1_code, 5, none, 1, 2, 0, 1, 12, [(0, .aload_n 0, 1, [], 0, 0), (1, .invokespecial 1, 3, [], 0, -1), (4, .aload_n 0, 1, [], 0, 0), (5, .sipush 256, 3, [], 0, 0), (8, .newarray .int, 2, [], 0, 0), (10, .putfield 7, 3, [], 0, 0), (13, .aload_n 0, 1, [], 0, 0), (14, .sipush 256, 3, [], 0, 0), (17, .newarray .int, 2, [], 0, 0), (19, .putfield 13, 3, [], 1, 0), (22, .aload_n 0, 1, [], 0, 0), (23, .sipush 256, 3, [], 0, 0), (26, .newarray .int, 2, [], 0, 0), (28, .putfield 16, 3, [], 2, 0), (31, .aload_n 0, 1, [], 0, 0), (32, .sipush 256, 3, [], 0, 0), (35, .newarray .int, 2, [], 0, 0), (37, .putfield 19, 3, [], 3, 0), (40, .aload_n 0, 1, [], 0, 0), (41, .sipush 256, 3, [], 0, 0), (44, .newarray .int, 2, [], 0, 0), (46, .putfield 22, 3, [], 4, 0), (49, .aload_n 0, 1, [], 0, 0), (50, .sipush 256, 3, [], 0, 0), (53, .newarray .long, 2, [], 0, 0), (55, .putfield 25, 3, [], 5, 0), (58, .aload_n 0, 1, [], 0, 0), (59, .sipush 256, 3, [], 0, 0), (62, .newarray .boolean, 2, [], 0, 0), (64, .putfield 29, 3, [], 6, 0), (67, .aload_n 0, 1, [], 0, 0), (68, .bipush 64, 2, [], 0, 0), (70, .newarray .int, 2, [], 0, 0), (72, .putfield 33, 3, [], 7, 0), (75, .aload_n 0, 1, [], 0, 0), (76, .bipush 64, 2, [], 0, 0), (78, .newarray .int, 2, [], 0, 0), (80, .putfield 36, 3, [], 8, 0), (83, .aload_n 0, 1, [], 0, 0), (84, .bipush 64, 2, [], 0, 0), (86, .newarray .int, 2, [], 0, 0), (88, .putfield 39, 3, [], 9, 0), (91, .aload_n 0, 1, [], 0, 0), (92, .bipush 64, 2, [], 0, 0), (94, .newarray .int, 2, [], 0, 0), (96, .putfield 42, 3, [], 10, 0), (99, .aload_n 0, 1, [], 0, 0), (100, .bipush 64, 2, [], 0, 0), (102, .newarray .int, 2, [], 0, 0), (104, .putfield 45, 3, [], 11, 0), (107, .aload_n 0, 1, [], 0, 0), (108, .bipush 64, 2, [], 0, 0), (110, .newarray .int, 2, [], 0, 0), (112, .putfield 48, 3, [], 12, 0), (115, .aload_n 0, 1, [], 0, 0), (116, .bipush 64, 2, [], 0, 0), (118, .newarray .int, 2, [], 0, 0), (120, .putfield 51, 3, [], 13, 0), (123, .iload_n 1, 1, [], 0, 0), (124, .istore_n 3, 1, [], 0, 0), (125, .iload_n 3, 1, [], 0, 0), (126, .iconst 1, 1, [], 0, 0), (127, .if_icmp .ge 5, 3, [], 0, 0), (130, .iconst 1, 1, [], 0, 0), (131, .istore_n 3, 1, [], 0, 0), (132, .iload_n 3, 1, [false, true, false, false, true], 0, 0), (133, .bipush 100, 2, [], 0, 0), (135, .if_icmp .le 6, 3, [], 0, 0), (138, .bipush 100, 2, [], 0, 0), (140, .istore_n 3, 1, [], 0, 0), (141, .iload_n 2, 1, [false, true, false, false, true], 0, 0), (142, .istore 4, 2, [], 0, 0), (144, .iload 4, 2, [], 0, 0), (146, .ifCond .ge 6, 3, [], 0, 0), (149, .iconst 0, 1, [], 0, 0), (150, .istore 4, 2, [], 0, 0), (152, .iload 4, 2, [false, true, true], 0, 0), (154, .sipush 10000, 3, [], 0, 0), (157, .if_icmp .le 8, 3, [], 0, 0), (160, .sipush 10000, 3, [], 0, 0), (163, .istore 4, 2, [], 0, 0), (165, .aload_n 0, 1, [false, true, true], 0, 0), (166, .iload_n 3, 1, [], 0, 0), (167, .putfield 54, 3, [], 14, 0), (170, .aload_n 0, 1, [], 0, 0), (171, .iload 4, 2, [], 0, 0), (173, .putfield 58, 3, [], 15, 0), (176, .aload_n 0, 1, [], 0, 0), (177, .iconst 0, 1, [], 0, 0), (178, .putfield 61, 3, [], 16, 0), (181, .aload_n 0, 1, [], 0, 0), (182, .lconst 0, 1, [], 0, 0), (183, .putfield 64, 3, [], 17, 0), (186, .aload_n 0, 1, [], 0, 0), (187, .iconst 0, 1, [], 0, 0), (188, .putfield 68, 3, [], 18, 0), (191, .aload_n 0, 1, [], 0, 0), (192, .iconst 0, 1, [], 0, 0), (193, .putfield 71, 3, [], 19, 0), (196, .aload_n 0, 1, [], 0, 0), (197, .iconst 0, 1, [], 0, 0), (198, .putfield 74, 3, [], 20, 0), (201, .return_, 1, [], 0, 0)])
def d_3 : MD := (⟨"ProRataBookOwnLaw", "depth", "(LProRataBook;I)J"⟩, method_3_code, 5, some .long, 0, 2, 999, 1, 19, [(0, .lconst 0, 1, [], 0, 0), (1, .lstore_n 2, 1, [], 0, 0), (2, .bipush 100, 2, [], 0, 0), (4, .istore 4, 2, [], 0, 0), (6, .iload 4, 2, [], 0, 0), (8, .bipush 107, 2, [], 0, 0), (10, .if_icmp .gt 20, 3, [], 0, 0), (13, .lload_n 2, 1, [], 0, 0), (14, .aload_n 0, 1, [], 0, 0), (15, .iload_n 1, 1, [], 0, 0), (16, .iload 4, 2, [], 0, 0), (18, .invokevirtual 7, 3, [], 4, 0), (21, .i2l, 1, [], 0, 0), (22, .ladd, 1, [], 0, 0), (23, .lstore_n 2, 1, [], 0, 0), (24, .iinc 4 1, 3, [], 0, 0), (27, .goto (-21), 3, [], 0, 0), (30, .lload_n 2, 1, [], 0, 0), (31, .lreturn, 1, [], 0, 0)])
def d_4 : MD := (⟨"ProRataBook", "depthAt", "(II)I"⟩, prog_1_method_27_code, 6, some .int, 3, 2, 0, 0, 0, [(0, .iload_n 1, 1, [], 0, 0), (1, .ifCond .eq 10, 3, [], 0, 0), (4, .iload_n 1, 1, [], 0, 0), (5, .iconst 1, 1, [], 0, 0), (6, .if_icmp .eq 5, 3, [], 0, 0), (9, .iconst 0, 1, [], 0, 0), (10, .ireturn, 1, [], 0, 0), (11, .iload_n 2, 1, [false, false, false, true, true, true], 0, 0), (12, .iconst 1, 1, [], 0, 0), (13, .if_icmp .lt 10, 3, [], 0, 0), (16, .iload_n 2, 1, [], 0, 0), (17, .sipush 1000, 3, [], 0, 0), (20, .if_icmp .le 5, 3, [], 0, 0), (23, .iconst 0, 1, [], 0, 0), (24, .ireturn, 1, [], 0, 0), (25, .iconst 0, 1, [], 0, 0), (26, .istore_n 3, 1, [], 0, 0), (27, .iconst 0, 1, [], 0, 0), (28, .istore 4, 2, [], 0, 0), (30, .iload 4, 2, [false, false, false, false, false, true], 0, 0), (32, .aload_n 0, 1, [], 0, 0), (33, .getfield 68, 3, [], 18, 0), (36, .if_icmp .ge 50, 3, [], 0, 0), (39, .aload_n 0, 1, [], 0, 0), (40, .getfield 33, 3, [], 7, 0), (43, .iload 4, 2, [], 0, 0), (45, .iaload, 1, [], 0, 0), (46, .istore 5, 2, [], 0, 0), (48, .aload_n 0, 1, [], 0, 0), (49, .getfield 7, 3, [], 0, 0), (52, .iload 5, 2, [], 0, 0), (54, .iaload, 1, [], 0, 0), (55, .iload_n 1, 1, [], 0, 0), (56, .if_icmp .ne 24, 3, [], 0, 0), (59, .aload_n 0, 1, [], 0, 0), (60, .getfield 13, 3, [], 1, 0), (63, .iload 5, 2, [], 0, 0), (65, .iaload, 1, [], 0, 0), (66, .iload_n 2, 1, [], 0, 0), (67, .if_icmp .ne 13, 3, [], 0, 0), (70, .iload_n 3, 1, [], 0, 0), (71, .aload_n 0, 1, [], 0, 0), (72, .getfield 16, 3, [], 2, 0), (75, .iload 5, 2, [], 0, 0), (77, .iaload, 1, [], 0, 0), (78, .iadd, 1, [], 0, 0), (79, .istore_n 3, 1, [], 0, 0), (80, .iinc 4 1, 3, [], 0, 0), (83, .goto (-53), 3, [], 0, 0), (86, .iload_n 3, 1, [], 0, 0), (87, .ireturn, 1, [], 0, 0)])
def d_5 : MD := (⟨"ProRataBook", "fillCount", "()I"⟩, prog_1_method_30_code, 1, some .int, 3, 0, 0, 0, 0, [(0, .aload_n 0, 1, [], 0, 0), (1, .getfield 71, 3, [], 19, 0), (4, .ireturn, 1, [], 0, 0)])
def d_6 : MD := (⟨"ProRataBook", "submit", "(IIII)I"⟩, prog_1_method_2_code, 7, some .int, 3, 4, 0, 4, 76, [(0, .iload_n 1, 1, [], 0, 0), (1, .ifCond .eq 10, 3, [], 0, 0), (4, .iload_n 1, 1, [], 0, 0), (5, .iconst 1, 1, [], 0, 0), (6, .if_icmp .eq 5, 3, [], 0, 0), (9, .iconst (-1), 1, [], 0, 0), (10, .ireturn, 1, [], 0, 0), (11, .iload_n 2, 1, [false, false, false, false, false, true, true], 0, 0), (12, .iconst 1, 1, [], 0, 0), (13, .if_icmp .lt 10, 3, [], 0, 0), (16, .iload_n 2, 1, [], 0, 0), (17, .sipush 1000, 3, [], 0, 0), (20, .if_icmp .le 6, 3, [], 0, 0), (23, .bipush (-2), 2, [], 0, 0), (25, .ireturn, 1, [], 0, 0), (26, .iload_n 3, 1, [], 0, 0), (27, .iconst 1, 1, [], 0, 0), (28, .if_icmp .lt 10, 3, [], 0, 0), (31, .iload_n 3, 1, [], 0, 0), (32, .sipush 10000, 3, [], 0, 0), (35, .if_icmp .le 6, 3, [], 0, 0), (38, .bipush (-3), 2, [], 0, 0), (40, .ireturn, 1, [], 0, 0), (41, .iload 4, 2, [], 0, 0), (43, .ifCond .eq 12, 3, [], 0, 0), (46, .iload 4, 2, [], 0, 0), (48, .iconst 1, 1, [], 0, 0), (49, .if_icmp .eq 6, 3, [], 0, 0), (52, .bipush (-4), 2, [], 0, 0), (54, .ireturn, 1, [], 0, 0), (55, .aload_n 0, 1, [false, false, false, false, false, true, true], 0, 0), (56, .getfield 61, 3, [], 16, 0), (59, .sipush 255, 3, [], 0, 0), (62, .if_icmp .lt 6, 3, [], 0, 0), (65, .bipush (-5), 2, [], 0, 0), (67, .ireturn, 1, [], 0, 0), (68, .aload_n 0, 1, [], 0, 0), (69, .dup, 1, [], 0, 0), (70, .getfield 61, 3, [], 16, 0), (73, .iconst 1, 1, [], 0, 0), (74, .iadd, 1, [], 0, 0), (75, .putfield 61, 3, [], 16, 0), (78, .aload_n 0, 1, [], 0, 0), (79, .getfield 61, 3, [], 16, 0), (82, .istore 5, 2, [], 0, 0), (84, .aload_n 0, 1, [], 0, 0), (85, .iconst 0, 1, [], 0, 0), (86, .putfield 71, 3, [], 19, 0), (89, .aload_n 0, 1, [], 0, 0), (90, .getfield 7, 3, [], 0, 0), (93, .iload 5, 2, [], 0, 0), (95, .iload_n 1, 1, [], 0, 0), (96, .iastore, 1, [], 0, 0), (97, .aload_n 0, 1, [], 0, 0), (98, .getfield 13, 3, [], 1, 0), (101, .iload 5, 2, [], 0, 0), (103, .iload_n 2, 1, [], 0, 0), (104, .iastore, 1, [], 0, 0), (105, .aload_n 0, 1, [], 0, 0), (106, .getfield 16, 3, [], 2, 0), (109, .iload 5, 2, [], 0, 0), (111, .iconst 0, 1, [], 0, 0), (112, .iastore, 1, [], 0, 0), (113, .aload_n 0, 1, [], 0, 0), (114, .getfield 19, 3, [], 3, 0), (117, .iload 5, 2, [], 0, 0), (119, .iconst 0, 1, [], 0, 0), (120, .iastore, 1, [], 0, 0), (121, .aload_n 0, 1, [], 0, 0), (122, .getfield 29, 3, [], 6, 0), (125, .iload 5, 2, [], 0, 0), (127, .iconst 0, 1, [], 0, 0), (128, .bastore, 1, [], 0, 0), (129, .aload_n 0, 1, [], 0, 0), (130, .getfield 25, 3, [], 5, 0), (133, .iload 5, 2, [], 0, 0), (135, .lconst 0, 1, [], 0, 0), (136, .lastore, 1, [], 0, 0), (137, .aload_n 0, 1, [], 0, 0), (138, .iload 5, 2, [], 0, 0), (140, .iload_n 1, 1, [], 0, 0), (141, .iload_n 2, 1, [], 0, 0), (142, .iload_n 3, 1, [], 0, 0), (143, .invokevirtual 77, 3, [], 7, 0), (146, .istore 6, 2, [], 0, 0), (148, .aload_n 0, 1, [], 0, 0), (149, .iload 5, 2, [], 0, 0), (151, .iload_n 1, 1, [], 0, 0), (152, .iload_n 2, 1, [], 0, 0), (153, .iload 6, 2, [], 0, 0), (155, .iload 4, 2, [], 0, 0), (157, .invokevirtual 81, 3, [], 9, 0), (160, .iload 5, 2, [], 0, 0), (162, .ireturn, 1, [], 0, 0)])
def d_7 : MD := (⟨"ProRataBook", "matchIncoming", "(IIII)I"⟩, prog_1_method_3_code, 10, some .int, 2, 4, 0, 3, 55, [(0, .iload 4, 2, [], 0, 0), (2, .istore 5, 2, [], 0, 0), (4, .iconst 1, 1, [], 0, 0), (5, .iload_n 2, 1, [], 0, 0), (6, .isub, 1, [], 0, 0), (7, .istore 6, 2, [], 0, 0), (9, .iconst 0, 1, [], 0, 0), (10, .istore 7, 2, [], 0, 0), (12, .iload 7, 2, [false, false, false, false, true, false, false, false, true, true], 0, 0), (14, .bipush 64, 2, [], 0, 0), (16, .if_icmp .gt 82, 3, [], 0, 0), (19, .iload 5, 2, [], 0, 0), (21, .ifCond .le 77, 3, [], 0, 0), (24, .aload_n 0, 1, [], 0, 0), (25, .iload 6, 2, [], 0, 0), (27, .invokevirtual 85, 3, [], 8, 0), (30, .istore 8, 2, [], 0, 0), (32, .iload 8, 2, [], 0, 0), (34, .ifCond .ne 6, 3, [], 0, 0), (37, .goto 61, 3, [], 0, 0), (40, .aload_n 0, 1, [], 0, 0), (41, .iload_n 2, 1, [], 0, 0), (42, .iload_n 3, 1, [], 0, 0), (43, .iload 8, 2, [], 0, 0), (45, .invokevirtual 89, 3, [], 17, 0), (48, .ifCond .ne 6, 3, [], 0, 0), (51, .goto 47, 3, [], 0, 0), (54, .aload_n 0, 1, [], 0, 0), (55, .iload 6, 2, [], 0, 0), (57, .iload 8, 2, [], 0, 0), (59, .iload 5, 2, [], 0, 0), (61, .invokevirtual 93, 3, [], 18, 0), (64, .istore 9, 2, [], 0, 0), (66, .iload 9, 2, [], 0, 0), (68, .ifCond .gt 6, 3, [], 0, 0), (71, .goto 27, 3, [], 0, 0), (74, .iload 5, 2, [], 0, 0), (76, .iload 9, 2, [], 0, 0), (78, .isub, 1, [], 0, 0), (79, .istore 5, 2, [], 0, 0), (81, .aload_n 0, 1, [], 0, 0), (82, .getfield 19, 3, [], 3, 0), (85, .iload_n 1, 1, [], 0, 0), (86, .dup2, 1, [], 0, 0), (87, .iaload, 1, [], 0, 0), (88, .iload 9, 2, [], 0, 0), (90, .iadd, 1, [], 0, 0), (91, .iastore, 1, [], 0, 0), (92, .iinc 7 1, 3, [], 0, 0), (95, .goto (-83), 3, [], 0, 0), (98, .iload 5, 2, [], 0, 0), (100, .ireturn, 1, [], 0, 0)])
def d_8 : MD := (⟨"ProRataBook", "bestOf", "(I)I"⟩, prog_1_method_18_code, 6, some .int, 2, 1, 0, 1, 15, [(0, .iconst 0, 1, [], 0, 0), (1, .istore_n 2, 1, [], 0, 0), (2, .iconst 0, 1, [], 0, 0), (3, .istore_n 3, 1, [], 0, 0), (4, .iload_n 3, 1, [false, false, false, false, true, true], 0, 0), (5, .aload_n 0, 1, [], 0, 0), (6, .getfield 68, 3, [], 18, 0), (9, .if_icmp .ge 58, 3, [], 0, 0), (12, .aload_n 0, 1, [], 0, 0), (13, .getfield 33, 3, [], 7, 0), (16, .iload_n 3, 1, [], 0, 0), (17, .iaload, 1, [], 0, 0), (18, .istore 4, 2, [], 0, 0), (20, .aload_n 0, 1, [], 0, 0), (21, .getfield 7, 3, [], 0, 0), (24, .iload 4, 2, [], 0, 0), (26, .iaload, 1, [], 0, 0), (27, .iload_n 1, 1, [], 0, 0), (28, .if_icmp .eq 6, 3, [], 0, 0), (31, .goto 30, 3, [], 0, 0), (34, .aload_n 0, 1, [], 0, 0), (35, .getfield 13, 3, [], 1, 0), (38, .iload 4, 2, [], 0, 0), (40, .iaload, 1, [], 0, 0), (41, .istore 5, 2, [], 0, 0), (43, .iload_n 2, 1, [], 0, 0), (44, .ifCond .eq 14, 3, [], 0, 0), (47, .aload_n 0, 1, [], 0, 0), (48, .iload_n 1, 1, [], 0, 0), (49, .iload 5, 2, [], 0, 0), (51, .iload_n 2, 1, [], 0, 0), (52, .invokevirtual 97, 3, [], 16, 0), (55, .ifCond .eq 6, 3, [], 0, 0), (58, .iload 5, 2, [], 0, 0), (60, .istore_n 2, 1, [], 0, 0), (61, .iinc 3 1, 3, [], 0, 0), (64, .goto (-60), 3, [], 0, 0), (67, .iload_n 2, 1, [], 0, 0), (68, .ireturn, 1, [], 0, 0)])
def d_9 : MD := (⟨"ProRataBook", "finishIncoming", "(IIIII)V"⟩, prog_1_method_4_code, 8, none, 2, 5, 0, 2, 32, [(0, .iload 4, 2, [], 0, 0), (2, .ifCond .ne 18, 3, [], 0, 0), (5, .aload_n 0, 1, [], 0, 0), (6, .getfield 22, 3, [], 4, 0), (9, .iload_n 1, 1, [], 0, 0), (10, .iconst 2, 1, [], 0, 0), (11, .iastore, 1, [], 0, 0), (12, .aload_n 0, 1, [], 0, 0), (13, .getfield 16, 3, [], 2, 0), (16, .iload_n 1, 1, [], 0, 0), (17, .iconst 0, 1, [], 0, 0), (18, .iastore, 1, [], 0, 0), (19, .return_, 1, [], 0, 0), (20, .iload 5, 2, [], 0, 0), (22, .iconst 1, 1, [], 0, 0), (23, .if_icmp .eq 12, 3, [], 0, 0), (26, .aload_n 0, 1, [], 0, 0), (27, .getfield 68, 3, [], 18, 0), (30, .bipush 64, 2, [], 0, 0), (32, .if_icmp .lt 18, 3, [], 0, 0), (35, .aload_n 0, 1, [false, false, true, true, true, true, true, true], 0, 0), (36, .getfield 22, 3, [], 4, 0), (39, .iload_n 1, 1, [], 0, 0), (40, .iconst 4, 1, [], 0, 0), (41, .iastore, 1, [], 0, 0), (42, .aload_n 0, 1, [], 0, 0), (43, .getfield 16, 3, [], 2, 0), (46, .iload_n 1, 1, [], 0, 0), (47, .iconst 0, 1, [], 0, 0), (48, .iastore, 1, [], 0, 0), (49, .return_, 1, [], 0, 0), (50, .aload_n 0, 1, [], 0, 0), (51, .iload_n 2, 1, [], 0, 0), (52, .invokevirtual 85, 3, [], 8, 0), (55, .istore 6, 2, [], 0, 0), (57, .iload 6, 2, [], 0, 0), (59, .ifCond .eq 14, 3, [], 0, 0), (62, .aload_n 0, 1, [], 0, 0), (63, .iload_n 2, 1, [], 0, 0), (64, .iload_n 3, 1, [], 0, 0), (65, .iload 6, 2, [], 0, 0), (67, .invokevirtual 97, 3, [], 16, 0), (70, .ifCond .eq 7, 3, [], 0, 0), (73, .iconst 1, 1, [], 0, 0), (74, .goto 4, 3, [], 0, 0), (77, .iconst 0, 1, [], 0, 0), (78, .istore 7, 2, [false, false, false, true, false, true, true, true], 0, 0), (80, .iload 7, 2, [], 0, 0), (82, .ifCond .eq 8, 3, [], 0, 0), (85, .aload_n 0, 1, [], 0, 0), (86, .iload_n 2, 1, [], 0, 0), (87, .invokevirtual 100, 3, [], 10, 0), (90, .aload_n 0, 1, [false, false, true, true, false, true, true], 0, 0), (91, .dup, 1, [], 0, 0), (92, .getfield 64, 3, [], 17, 0), (95, .lconst 1, 1, [], 0, 0), (96, .ladd, 1, [], 0, 0), (97, .putfield 64, 3, [], 17, 0), (100, .aload_n 0, 1, [], 0, 0), (101, .getfield 25, 3, [], 5, 0), (104, .iload_n 1, 1, [], 0, 0), (105, .aload_n 0, 1, [], 0, 0), (106, .getfield 64, 3, [], 17, 0), (109, .lastore, 1, [], 0, 0), (110, .aload_n 0, 1, [], 0, 0), (111, .getfield 16, 3, [], 2, 0), (114, .iload_n 1, 1, [], 0, 0), (115, .iload 4, 2, [], 0, 0), (117, .iastore, 1, [], 0, 0), (118, .aload_n 0, 1, [], 0, 0), (119, .getfield 22, 3, [], 4, 0), (122, .iload_n 1, 1, [], 0, 0), (123, .iconst 1, 1, [], 0, 0), (124, .iastore, 1, [], 0, 0), (125, .aload_n 0, 1, [], 0, 0), (126, .getfield 29, 3, [], 6, 0), (129, .iload_n 1, 1, [], 0, 0), (130, .iload 7, 2, [], 0, 0), (132, .bastore, 1, [], 0, 0), (133, .aload_n 0, 1, [], 0, 0), (134, .getfield 33, 3, [], 7, 0), (137, .aload_n 0, 1, [], 0, 0), (138, .getfield 68, 3, [], 18, 0), (141, .iload_n 1, 1, [], 0, 0), (142, .iastore, 1, [], 0, 0), (143, .aload_n 0, 1, [], 0, 0), (144, .dup, 1, [], 0, 0), (145, .getfield 68, 3, [], 18, 0), (148, .iconst 1, 1, [], 0, 0), (149, .iadd, 1, [], 0, 0), (150, .putfield 68, 3, [], 18, 0), (153, .return_, 1, [], 0, 0)])
def d_10 : MD := (⟨"ProRataBook", "clearFlags", "(I)V"⟩, prog_1_method_5_code, 4, none, 2, 1, 0, 0, 0, [(0, .iconst 0, 1, [], 0, 0), (1, .istore_n 2, 1, [], 0, 0), (2, .iload_n 2, 1, [false, false, false, true], 0, 0), (3, .aload_n 0, 1, [], 0, 0), (4, .getfield 68, 3, [], 18, 0), (7, .if_icmp .ge 33, 3, [], 0, 0), (10, .aload_n 0, 1, [], 0, 0), (11, .getfield 33, 3, [], 7, 0), (14, .iload_n 2, 1, [], 0, 0), (15, .iaload, 1, [], 0, 0), (16, .istore_n 3, 1, [], 0, 0), (17, .aload_n 0, 1, [], 0, 0), (18, .getfield 7, 3, [], 0, 0), (21, .iload_n 3, 1, [], 0, 0), (22, .iaload, 1, [], 0, 0), (23, .iload_n 1, 1, [], 0, 0), (24, .if_icmp .ne 10, 3, [], 0, 0), (27, .aload_n 0, 1, [], 0, 0), (28, .getfield 29, 3, [], 6, 0), (31, .iload_n 3, 1, [], 0, 0), (32, .iconst 0, 1, [], 0, 0), (33, .bastore, 1, [], 0, 0), (34, .iinc 2 1, 3, [], 0, 0), (37, .goto (-35), 3, [], 0, 0), (40, .return_, 1, [], 0, 0)])
def d_11 : MD := (⟨"ProRataBook", "filled", "(I)I"⟩, prog_1_method_23_code, 2, some .int, 3, 1, 0, 0, 0, [(0, .iload_n 1, 1, [], 0, 0), (1, .iconst 1, 1, [], 0, 0), (2, .if_icmp .lt 11, 3, [], 0, 0), (5, .iload_n 1, 1, [], 0, 0), (6, .aload_n 0, 1, [], 0, 0), (7, .getfield 61, 3, [], 16, 0), (10, .if_icmp .le 5, 3, [], 0, 0), (13, .iconst 0, 1, [], 0, 0), (14, .ireturn, 1, [], 0, 0), (15, .aload_n 0, 1, [], 0, 0), (16, .getfield 19, 3, [], 3, 0), (19, .iload_n 1, 1, [], 0, 0), (20, .iaload, 1, [], 0, 0), (21, .ireturn, 1, [], 0, 0)])
def d_12 : MD := (⟨"ProRataBook", "status", "(I)I"⟩, prog_1_method_21_code, 2, some .int, 3, 1, 0, 0, 0, [(0, .iload_n 1, 1, [], 0, 0), (1, .iconst 1, 1, [], 0, 0), (2, .if_icmp .lt 11, 3, [], 0, 0), (5, .iload_n 1, 1, [], 0, 0), (6, .aload_n 0, 1, [], 0, 0), (7, .getfield 61, 3, [], 16, 0), (10, .if_icmp .le 5, 3, [], 0, 0), (13, .iconst 0, 1, [], 0, 0), (14, .ireturn, 1, [], 0, 0), (15, .aload_n 0, 1, [], 0, 0), (16, .getfield 22, 3, [], 4, 0), (19, .iload_n 1, 1, [], 0, 0), (20, .iaload, 1, [], 0, 0), (21, .ireturn, 1, [], 0, 0)])
def d_13 : MD := (⟨"ProRataBook", "remaining", "(I)I"⟩, prog_1_method_22_code, 2, some .int, 3, 1, 0, 1, 13, [(0, .aload_n 0, 1, [], 0, 0), (1, .iload_n 1, 1, [], 0, 0), (2, .invokevirtual 129, 3, [], 14, 0), (5, .ifCond .ne 5, 3, [], 0, 0), (8, .iconst 0, 1, [], 0, 0), (9, .ireturn, 1, [], 0, 0), (10, .aload_n 0, 1, [], 0, 0), (11, .getfield 16, 3, [], 2, 0), (14, .iload_n 1, 1, [], 0, 0), (15, .iaload, 1, [], 0, 0), (16, .ireturn, 1, [], 0, 0)])
def d_14 : MD := (⟨"ProRataBook", "isResting", "(I)Z"⟩, prog_1_method_17_code, 2, some .boolean, 2, 1, 0, 0, 0, [(0, .iload_n 1, 1, [], 0, 0), (1, .iconst 1, 1, [], 0, 0), (2, .if_icmp .lt 25, 3, [], 0, 0), (5, .iload_n 1, 1, [], 0, 0), (6, .aload_n 0, 1, [], 0, 0), (7, .getfield 61, 3, [], 16, 0), (10, .if_icmp .gt 17, 3, [], 0, 0), (13, .aload_n 0, 1, [], 0, 0), (14, .getfield 22, 3, [], 4, 0), (17, .iload_n 1, 1, [], 0, 0), (18, .iaload, 1, [], 0, 0), (19, .iconst 1, 1, [], 0, 0), (20, .if_icmp .ne 7, 3, [], 0, 0), (23, .iconst 1, 1, [], 0, 0), (24, .goto 4, 3, [], 0, 0), (27, .iconst 0, 1, [], 0, 0), (28, .ireturn, 1, [], 0, 0)])
def d_15 : MD := (⟨"ProRataBook", "bestPrice", "(I)I"⟩, prog_1_method_26_code, 2, some .int, 3, 1, 0, 2, 32, [(0, .iload_n 1, 1, [], 0, 0), (1, .ifCond .eq 10, 3, [], 0, 0), (4, .iload_n 1, 1, [], 0, 0), (5, .iconst 1, 1, [], 0, 0), (6, .if_icmp .eq 5, 3, [], 0, 0), (9, .iconst 0, 1, [], 0, 0), (10, .ireturn, 1, [], 0, 0), (11, .aload_n 0, 1, [], 0, 0), (12, .iload_n 1, 1, [], 0, 0), (13, .invokevirtual 85, 3, [], 8, 0), (16, .ireturn, 1, [], 0, 0)])
def d_16 : MD := (⟨"ProRataBook", "better", "(III)Z"⟩, prog_1_method_7_code, 4, some .boolean, 2, 3, 0, 0, 0, [(0, .iload_n 1, 1, [], 0, 0), (1, .ifCond .ne 14, 3, [], 0, 0), (4, .iload_n 2, 1, [], 0, 0), (5, .iload_n 3, 1, [], 0, 0), (6, .if_icmp .le 7, 3, [], 0, 0), (9, .iconst 1, 1, [], 0, 0), (10, .goto 4, 3, [], 0, 0), (13, .iconst 0, 1, [], 0, 0), (14, .ireturn, 1, [], 0, 0), (15, .iload_n 2, 1, [], 0, 0), (16, .iload_n 3, 1, [], 0, 0), (17, .if_icmp .ge 7, 3, [], 0, 0), (20, .iconst 1, 1, [], 0, 0), (21, .goto 4, 3, [], 0, 0), (24, .iconst 0, 1, [], 0, 0), (25, .ireturn, 1, [], 0, 0)])
def d_17 : MD := (⟨"ProRataBook", "crosses", "(III)Z"⟩, prog_1_method_6_code, 4, some .boolean, 2, 3, 0, 0, 0, [(0, .iload_n 1, 1, [], 0, 0), (1, .ifCond .ne 14, 3, [], 0, 0), (4, .iload_n 3, 1, [], 0, 0), (5, .iload_n 2, 1, [], 0, 0), (6, .if_icmp .gt 7, 3, [], 0, 0), (9, .iconst 1, 1, [], 0, 0), (10, .goto 4, 3, [], 0, 0), (13, .iconst 0, 1, [], 0, 0), (14, .ireturn, 1, [], 0, 0), (15, .iload_n 3, 1, [], 0, 0), (16, .iload_n 2, 1, [], 0, 0), (17, .if_icmp .lt 7, 3, [], 0, 0), (20, .iconst 1, 1, [], 0, 0), (21, .goto 4, 3, [], 0, 0), (24, .iconst 0, 1, [], 0, 0), (25, .ireturn, 1, [], 0, 0)])
def d_18 : MD := (⟨"ProRataBook", "matchLevel", "(III)I"⟩, prog_1_method_8_code, 6, some .int, 2, 3, 0, 2, 38, [(0, .aload_n 0, 1, [], 0, 0), (1, .iload_n 1, 1, [], 0, 0), (2, .iload_n 2, 1, [], 0, 0), (3, .invokevirtual 104, 3, [], 19, 0), (6, .aload_n 0, 1, [], 0, 0), (7, .invokevirtual 108, 3, [], 20, 0), (10, .iconst 0, 1, [], 0, 0), (11, .istore 4, 2, [], 0, 0), (13, .iload 4, 2, [false, true, false, false, false, true], 0, 0), (15, .aload_n 0, 1, [], 0, 0), (16, .getfield 74, 3, [], 20, 0), (19, .if_icmp .ge 40, 3, [], 0, 0), (22, .aload_n 0, 1, [], 0, 0), (23, .getfield 45, 3, [], 11, 0), (26, .iload 4, 2, [], 0, 0), (28, .iaload, 1, [], 0, 0), (29, .istore 5, 2, [], 0, 0), (31, .aload_n 0, 1, [], 0, 0), (32, .getfield 48, 3, [], 12, 0), (35, .iload 4, 2, [], 0, 0), (37, .aload_n 0, 1, [], 0, 0), (38, .getfield 16, 3, [], 2, 0), (41, .iload 5, 2, [], 0, 0), (43, .iaload, 1, [], 0, 0), (44, .iastore, 1, [], 0, 0), (45, .aload_n 0, 1, [], 0, 0), (46, .getfield 51, 3, [], 13, 0), (49, .iload 4, 2, [], 0, 0), (51, .iconst 0, 1, [], 0, 0), (52, .iastore, 1, [], 0, 0), (53, .iinc 4 1, 3, [], 0, 0), (56, .goto (-43), 3, [], 0, 0), (59, .aload_n 0, 1, [false, true, false, false, true, true], 0, 0), (60, .iload_n 3, 1, [], 0, 0), (61, .invokevirtual 111, 3, [], 21, 0), (64, .istore 4, 2, [], 0, 0), (66, .aload_n 0, 1, [], 0, 0), (67, .iload_n 2, 1, [], 0, 0), (68, .invokevirtual 114, 3, [], 24, 0), (71, .iload 4, 2, [], 0, 0), (73, .ireturn, 1, [], 0, 0)])
def d_19 : MD := (⟨"ProRataBook", "gatherLevel", "(II)V"⟩, prog_1_method_9_code, 5, none, 2, 2, 0, 0, 0, [(0, .aload_n 0, 1, [], 0, 0), (1, .iconst 0, 1, [], 0, 0), (2, .putfield 74, 3, [], 20, 0), (5, .iconst 0, 1, [], 0, 0), (6, .istore_n 3, 1, [], 0, 0), (7, .iload_n 3, 1, [false, false, false, false, true], 0, 0), (8, .aload_n 0, 1, [], 0, 0), (9, .getfield 68, 3, [], 18, 0), (12, .if_icmp .ge 69, 3, [], 0, 0), (15, .aload_n 0, 1, [], 0, 0), (16, .getfield 33, 3, [], 7, 0), (19, .iload_n 3, 1, [], 0, 0), (20, .iaload, 1, [], 0, 0), (21, .istore 4, 2, [], 0, 0), (23, .aload_n 0, 1, [], 0, 0), (24, .getfield 7, 3, [], 0, 0), (27, .iload 4, 2, [], 0, 0), (29, .iaload, 1, [], 0, 0), (30, .iload_n 1, 1, [], 0, 0), (31, .if_icmp .ne 44, 3, [], 0, 0), (34, .aload_n 0, 1, [], 0, 0), (35, .getfield 13, 3, [], 1, 0), (38, .iload 4, 2, [], 0, 0), (40, .iaload, 1, [], 0, 0), (41, .iload_n 2, 1, [], 0, 0), (42, .if_icmp .ne 33, 3, [], 0, 0), (45, .aload_n 0, 1, [], 0, 0), (46, .getfield 74, 3, [], 20, 0), (49, .bipush 64, 2, [], 0, 0), (51, .if_icmp .ge 24, 3, [], 0, 0), (54, .aload_n 0, 1, [], 0, 0), (55, .getfield 45, 3, [], 11, 0), (58, .aload_n 0, 1, [], 0, 0), (59, .getfield 74, 3, [], 20, 0), (62, .iload 4, 2, [], 0, 0), (64, .iastore, 1, [], 0, 0), (65, .aload_n 0, 1, [], 0, 0), (66, .dup, 1, [], 0, 0), (67, .getfield 74, 3, [], 20, 0), (70, .iconst 1, 1, [], 0, 0), (71, .iadd, 1, [], 0, 0), (72, .putfield 74, 3, [], 20, 0), (75, .iinc 3 1, 3, [], 0, 0), (78, .goto (-71), 3, [], 0, 0), (81, .return_, 1, [], 0, 0)])
def d_20 : MD := (⟨"ProRataBook", "sortLevel", "()V"⟩, prog_1_method_10_code, 6, none, 2, 0, 0, 0, 0, [(0, .iconst 1, 1, [], 0, 0), (1, .istore_n 1, 1, [], 0, 0), (2, .iload_n 1, 1, [false, false, true, true, true, true], 0, 0), (3, .aload_n 0, 1, [], 0, 0), (4, .getfield 74, 3, [], 20, 0), (7, .if_icmp .ge 80, 3, [], 0, 0), (10, .aload_n 0, 1, [], 0, 0), (11, .getfield 45, 3, [], 11, 0), (14, .iload_n 1, 1, [], 0, 0), (15, .iaload, 1, [], 0, 0), (16, .istore_n 2, 1, [], 0, 0), (17, .aload_n 0, 1, [], 0, 0), (18, .getfield 25, 3, [], 5, 0), (21, .iload_n 2, 1, [], 0, 0), (22, .laload, 1, [], 0, 0), (23, .lstore_n 3, 1, [], 0, 0), (24, .iload_n 1, 1, [], 0, 0), (25, .istore 5, 2, [], 0, 0), (27, .iload 5, 2, [], 0, 0), (29, .ifCond .le 44, 3, [], 0, 0), (32, .aload_n 0, 1, [], 0, 0), (33, .getfield 25, 3, [], 5, 0), (36, .aload_n 0, 1, [], 0, 0), (37, .getfield 45, 3, [], 11, 0), (40, .iload 5, 2, [], 0, 0), (42, .iconst 1, 1, [], 0, 0), (43, .isub, 1, [], 0, 0), (44, .iaload, 1, [], 0, 0), (45, .laload, 1, [], 0, 0), (46, .lload_n 3, 1, [], 0, 0), (47, .lcmp, 1, [], 0, 0), (48, .ifCond .le 25, 3, [], 0, 0), (51, .aload_n 0, 1, [], 0, 0), (52, .getfield 45, 3, [], 11, 0), (55, .iload 5, 2, [], 0, 0), (57, .aload_n 0, 1, [], 0, 0), (58, .getfield 45, 3, [], 11, 0), (61, .iload 5, 2, [], 0, 0), (63, .iconst 1, 1, [], 0, 0), (64, .isub, 1, [], 0, 0), (65, .iaload, 1, [], 0, 0), (66, .iastore, 1, [], 0, 0), (67, .iinc 5 (-1), 3, [], 0, 0), (70, .goto (-43), 3, [], 0, 0), (73, .aload_n 0, 1, [false, false, false, true, true], 0, 0), (74, .getfield 45, 3, [], 11, 0), (77, .iload 5, 2, [], 0, 0), (79, .iload_n 2, 1, [], 0, 0), (80, .iastore, 1, [], 0, 0), (81, .iinc 1 1, 3, [], 0, 0), (84, .goto (-82), 3, [], 0, 0), (87, .return_, 1, [], 0, 0)])
def d_21 : MD := (⟨"ProRataBook", "allocate", "(I)I"⟩, prog_1_method_11_code, 7, some .int, 2, 1, 0, 1, 20, [(0, .iconst 0, 1, [], 0, 0), (1, .istore_n 2, 1, [], 0, 0), (2, .iconst 0, 1, [], 0, 0), (3, .istore_n 3, 1, [], 0, 0), (4, .iload_n 3, 1, [false, false, false, false, true, true, true], 0, 0), (5, .aload_n 0, 1, [], 0, 0), (6, .getfield 74, 3, [], 20, 0), (9, .if_icmp .ge 18, 3, [], 0, 0), (12, .iload_n 2, 1, [], 0, 0), (13, .aload_n 0, 1, [], 0, 0), (14, .getfield 48, 3, [], 12, 0), (17, .iload_n 3, 1, [], 0, 0), (18, .iaload, 1, [], 0, 0), (19, .iadd, 1, [], 0, 0), (20, .istore_n 2, 1, [], 0, 0), (21, .iinc 3 1, 3, [], 0, 0), (24, .goto (-20), 3, [], 0, 0), (27, .iload_n 1, 1, [false, false, false, true, true, true, true], 0, 0), (28, .iload_n 2, 1, [], 0, 0), (29, .if_icmp .ge 7, 3, [], 0, 0), (32, .iload_n 1, 1, [], 0, 0), (33, .goto 4, 3, [], 0, 0), (36, .iload_n 2, 1, [], 0, 0), (37, .istore_n 3, 1, [false, true, true, true, true, true, true], 0, 0), (38, .aload_n 0, 1, [], 0, 0), (39, .iload_n 3, 1, [], 0, 0), (40, .invokevirtual 117, 3, [], 22, 0), (43, .istore 4, 2, [], 0, 0), (45, .iload_n 3, 1, [], 0, 0), (46, .iload 4, 2, [], 0, 0), (48, .isub, 1, [], 0, 0), (49, .istore 5, 2, [], 0, 0), (51, .iconst 0, 1, [], 0, 0), (52, .istore 6, 2, [], 0, 0), (54, .iload 5, 2, [], 0, 0), (56, .ifCond .le 11, 3, [], 0, 0), (59, .aload_n 0, 1, [], 0, 0), (60, .iload 5, 2, [], 0, 0), (62, .invokevirtual 120, 3, [], 30, 0), (65, .istore 6, 2, [], 0, 0), (67, .aload_n 0, 1, [false, true, true, false, true], 0, 0), (68, .iload 5, 2, [], 0, 0), (70, .iload 6, 2, [], 0, 0), (72, .isub, 1, [], 0, 0), (73, .invokevirtual 123, 3, [], 23, 0), (76, .iload_n 3, 1, [], 0, 0), (77, .ireturn, 1, [], 0, 0)])
def d_22 : MD := (⟨"ProRataBook", "topStep", "(I)I"⟩, prog_1_method_12_code, 5, some .int, 2, 1, 0, 0, 0, [(0, .aload_n 0, 1, [], 0, 0), (1, .getfield 58, 3, [], 15, 0), (4, .ifCond .gt 5, 3, [], 0, 0), (7, .iconst 0, 1, [], 0, 0), (8, .ireturn, 1, [], 0, 0), (9, .iconst 0, 1, [], 0, 0), (10, .istore_n 2, 1, [], 0, 0), (11, .iload_n 2, 1, [false, false, false, true, true], 0, 0), (12, .aload_n 0, 1, [], 0, 0), (13, .getfield 74, 3, [], 20, 0), (16, .if_icmp .ge 84, 3, [], 0, 0), (19, .aload_n 0, 1, [], 0, 0), (20, .getfield 45, 3, [], 11, 0), (23, .iload_n 2, 1, [], 0, 0), (24, .iaload, 1, [], 0, 0), (25, .istore_n 3, 1, [], 0, 0), (26, .aload_n 0, 1, [], 0, 0), (27, .getfield 29, 3, [], 6, 0), (30, .iload_n 3, 1, [], 0, 0), (31, .baload, 1, [], 0, 0), (32, .ifCond .eq 62, 3, [], 0, 0), (35, .iload_n 1, 1, [false, false, false, true, true], 0, 0), (36, .istore 4, 2, [], 0, 0), (38, .aload_n 0, 1, [], 0, 0), (39, .getfield 48, 3, [], 12, 0), (42, .iload_n 2, 1, [], 0, 0), (43, .iaload, 1, [], 0, 0), (44, .iload 4, 2, [], 0, 0), (46, .if_icmp .ge 11, 3, [], 0, 0), (49, .aload_n 0, 1, [], 0, 0), (50, .getfield 48, 3, [], 12, 0), (53, .iload_n 2, 1, [], 0, 0), (54, .iaload, 1, [], 0, 0), (55, .istore 4, 2, [], 0, 0), (57, .aload_n 0, 1, [false, true, false, true], 0, 0), (58, .getfield 58, 3, [], 15, 0), (61, .iload 4, 2, [], 0, 0), (63, .if_icmp .ge 9, 3, [], 0, 0), (66, .aload_n 0, 1, [], 0, 0), (67, .getfield 58, 3, [], 15, 0), (70, .istore 4, 2, [], 0, 0), (72, .iload 4, 2, [false, true, false, true], 0, 0), (74, .ifCond .ge 6, 3, [], 0, 0), (77, .iconst 0, 1, [], 0, 0), (78, .istore 4, 2, [], 0, 0), (80, .aload_n 0, 1, [false, true, false, true], 0, 0), (81, .getfield 51, 3, [], 13, 0), (84, .iload_n 2, 1, [], 0, 0), (85, .dup2, 1, [], 0, 0), (86, .iaload, 1, [], 0, 0), (87, .iload 4, 2, [], 0, 0), (89, .iadd, 1, [], 0, 0), (90, .iastore, 1, [], 0, 0), (91, .iload 4, 2, [], 0, 0), (93, .ireturn, 1, [], 0, 0), (94, .iinc 2 1, 3, [], 0, 0), (97, .goto (-86), 3, [], 0, 0), (100, .iconst 0, 1, [], 0, 0), (101, .ireturn, 1, [], 0, 0)])
def d_23 : MD := (⟨"ProRataBook", "timeStep", "(I)V"⟩, prog_1_method_14_code, 6, none, 2, 1, 0, 0, 0, [(0, .iload_n 1, 1, [], 0, 0), (1, .istore_n 2, 1, [], 0, 0), (2, .iconst 0, 1, [], 0, 0), (3, .istore_n 3, 1, [], 0, 0), (4, .iload_n 3, 1, [false, true, false, false, true, true], 0, 0), (5, .aload_n 0, 1, [], 0, 0), (6, .getfield 74, 3, [], 20, 0), (9, .if_icmp .ge 63, 3, [], 0, 0), (12, .iload_n 2, 1, [], 0, 0), (13, .ifCond .le 59, 3, [], 0, 0), (16, .aload_n 0, 1, [], 0, 0), (17, .getfield 48, 3, [], 12, 0), (20, .iload_n 3, 1, [], 0, 0), (21, .iaload, 1, [], 0, 0), (22, .aload_n 0, 1, [], 0, 0), (23, .getfield 51, 3, [], 13, 0), (26, .iload_n 3, 1, [], 0, 0), (27, .iaload, 1, [], 0, 0), (28, .isub, 1, [], 0, 0), (29, .istore 4, 2, [], 0, 0), (31, .iload_n 2, 1, [], 0, 0), (32, .iload 4, 2, [], 0, 0), (34, .if_icmp .ge 7, 3, [], 0, 0), (37, .iload_n 2, 1, [], 0, 0), (38, .goto 5, 3, [], 0, 0), (41, .iload 4, 2, [], 0, 0), (43, .istore 5, 2, [false, true, false, false, true, true], 0, 0), (45, .iload 5, 2, [], 0, 0), (47, .ifCond .le 19, 3, [], 0, 0), (50, .aload_n 0, 1, [], 0, 0), (51, .getfield 51, 3, [], 13, 0), (54, .iload_n 3, 1, [], 0, 0), (55, .dup2, 1, [], 0, 0), (56, .iaload, 1, [], 0, 0), (57, .iload 5, 2, [], 0, 0), (59, .iadd, 1, [], 0, 0), (60, .iastore, 1, [], 0, 0), (61, .iload_n 2, 1, [], 0, 0), (62, .iload 5, 2, [], 0, 0), (64, .isub, 1, [], 0, 0), (65, .istore_n 2, 1, [], 0, 0), (66, .iinc 3 1, 3, [], 0, 0), (69, .goto (-65), 3, [], 0, 0), (72, .return_, 1, [], 0, 0)])
def d_24 : MD := (⟨"ProRataBook", "applyLevel", "(I)V"⟩, prog_1_method_15_code, 5, none, 2, 1, 0, 1, 14, [(0, .iconst 0, 1, [], 0, 0), (1, .istore_n 2, 1, [], 0, 0), (2, .iload_n 2, 1, [false, false, false, true, true], 0, 0), (3, .aload_n 0, 1, [], 0, 0), (4, .getfield 74, 3, [], 20, 0), (7, .if_icmp .ge 143, 3, [], 0, 0), (10, .aload_n 0, 1, [], 0, 0), (11, .getfield 51, 3, [], 13, 0), (14, .iload_n 2, 1, [], 0, 0), (15, .iaload, 1, [], 0, 0), (16, .istore_n 3, 1, [], 0, 0), (17, .iload_n 3, 1, [], 0, 0), (18, .ifCond .gt 6, 3, [], 0, 0), (21, .goto 123, 3, [], 0, 0), (24, .aload_n 0, 1, [], 0, 0), (25, .getfield 45, 3, [], 11, 0), (28, .iload_n 2, 1, [], 0, 0), (29, .iaload, 1, [], 0, 0), (30, .istore 4, 2, [], 0, 0), (32, .aload_n 0, 1, [], 0, 0), (33, .getfield 71, 3, [], 19, 0), (36, .bipush 64, 2, [], 0, 0), (38, .if_icmp .ge 44, 3, [], 0, 0), (41, .aload_n 0, 1, [], 0, 0), (42, .getfield 36, 3, [], 8, 0), (45, .aload_n 0, 1, [], 0, 0), (46, .getfield 71, 3, [], 19, 0), (49, .iload 4, 2, [], 0, 0), (51, .iastore, 1, [], 0, 0), (52, .aload_n 0, 1, [], 0, 0), (53, .getfield 42, 3, [], 10, 0), (56, .aload_n 0, 1, [], 0, 0), (57, .getfield 71, 3, [], 19, 0), (60, .iload_n 1, 1, [], 0, 0), (61, .iastore, 1, [], 0, 0), (62, .aload_n 0, 1, [], 0, 0), (63, .getfield 39, 3, [], 9, 0), (66, .aload_n 0, 1, [], 0, 0), (67, .getfield 71, 3, [], 19, 0), (70, .iload_n 3, 1, [], 0, 0), (71, .iastore, 1, [], 0, 0), (72, .aload_n 0, 1, [], 0, 0), (73, .dup, 1, [], 0, 0), (74, .getfield 71, 3, [], 19, 0), (77, .iconst 1, 1, [], 0, 0), (78, .iadd, 1, [], 0, 0), (79, .putfield 71, 3, [], 19, 0), (82, .aload_n 0, 1, [], 0, 0), (83, .getfield 16, 3, [], 2, 0), (86, .iload 4, 2, [], 0, 0), (88, .dup2, 1, [], 0, 0), (89, .iaload, 1, [], 0, 0), (90, .iload_n 3, 1, [], 0, 0), (91, .isub, 1, [], 0, 0), (92, .iastore, 1, [], 0, 0), (93, .aload_n 0, 1, [], 0, 0), (94, .getfield 19, 3, [], 3, 0), (97, .iload 4, 2, [], 0, 0), (99, .dup2, 1, [], 0, 0), (100, .iaload, 1, [], 0, 0), (101, .iload_n 3, 1, [], 0, 0), (102, .iadd, 1, [], 0, 0), (103, .iastore, 1, [], 0, 0), (104, .aload_n 0, 1, [], 0, 0), (105, .getfield 16, 3, [], 2, 0), (108, .iload 4, 2, [], 0, 0), (110, .iaload, 1, [], 0, 0), (111, .ifCond .gt 33, 3, [], 0, 0), (114, .aload_n 0, 1, [], 0, 0), (115, .getfield 16, 3, [], 2, 0), (118, .iload 4, 2, [], 0, 0), (120, .iconst 0, 1, [], 0, 0), (121, .iastore, 1, [], 0, 0), (122, .aload_n 0, 1, [], 0, 0), (123, .getfield 22, 3, [], 4, 0), (126, .iload 4, 2, [], 0, 0), (128, .iconst 2, 1, [], 0, 0), (129, .iastore, 1, [], 0, 0), (130, .aload_n 0, 1, [], 0, 0), (131, .getfield 29, 3, [], 6, 0), (134, .iload 4, 2, [], 0, 0), (136, .iconst 0, 1, [], 0, 0), (137, .bastore, 1, [], 0, 0), (138, .aload_n 0, 1, [], 0, 0), (139, .iload 4, 2, [], 0, 0), (141, .invokevirtual 126, 3, [], 29, 0), (144, .iinc 2 1, 3, [], 0, 0), (147, .goto (-145), 3, [], 0, 0), (150, .return_, 1, [], 0, 0)])
def d_25 : MD := (⟨"ProRataBook", "fillId", "(I)I"⟩, prog_1_method_31_code, 2, some .int, 3, 1, 0, 0, 0, [(0, .iload_n 1, 1, [], 0, 0), (1, .ifCond .lt 11, 3, [], 0, 0), (4, .iload_n 1, 1, [], 0, 0), (5, .aload_n 0, 1, [], 0, 0), (6, .getfield 71, 3, [], 19, 0), (9, .if_icmp .lt 5, 3, [], 0, 0), (12, .iconst 0, 1, [], 0, 0), (13, .ireturn, 1, [], 0, 0), (14, .aload_n 0, 1, [], 0, 0), (15, .getfield 36, 3, [], 8, 0), (18, .iload_n 1, 1, [], 0, 0), (19, .iaload, 1, [], 0, 0), (20, .ireturn, 1, [], 0, 0)])
def d_26 : MD := (⟨"ProRataBook", "fillQty", "(I)I"⟩, prog_1_method_32_code, 2, some .int, 3, 1, 0, 0, 0, [(0, .iload_n 1, 1, [], 0, 0), (1, .ifCond .lt 11, 3, [], 0, 0), (4, .iload_n 1, 1, [], 0, 0), (5, .aload_n 0, 1, [], 0, 0), (6, .getfield 71, 3, [], 19, 0), (9, .if_icmp .lt 5, 3, [], 0, 0), (12, .iconst 0, 1, [], 0, 0), (13, .ireturn, 1, [], 0, 0), (14, .aload_n 0, 1, [], 0, 0), (15, .getfield 39, 3, [], 9, 0), (18, .iload_n 1, 1, [], 0, 0), (19, .iaload, 1, [], 0, 0), (20, .ireturn, 1, [], 0, 0)])
def d_27 : MD := (⟨"ProRataBook", "fillPrice", "(I)I"⟩, prog_1_method_33_code, 2, some .int, 3, 1, 0, 0, 0, [(0, .iload_n 1, 1, [], 0, 0), (1, .ifCond .lt 11, 3, [], 0, 0), (4, .iload_n 1, 1, [], 0, 0), (5, .aload_n 0, 1, [], 0, 0), (6, .getfield 71, 3, [], 19, 0), (9, .if_icmp .lt 5, 3, [], 0, 0), (12, .iconst 0, 1, [], 0, 0), (13, .ireturn, 1, [], 0, 0), (14, .aload_n 0, 1, [], 0, 0), (15, .getfield 42, 3, [], 10, 0), (18, .iload_n 1, 1, [], 0, 0), (19, .iaload, 1, [], 0, 0), (20, .ireturn, 1, [], 0, 0)])
def d_28 : MD := (⟨"ProRataBook", "cancel", "(I)I"⟩, prog_1_method_19_code, 2, some .int, 3, 1, 0, 1, 14, [(0, .aload_n 0, 1, [], 0, 0), (1, .iload_n 1, 1, [], 0, 0), (2, .invokevirtual 129, 3, [], 14, 0), (5, .ifCond .ne 6, 3, [], 0, 0), (8, .bipush (-6), 2, [], 0, 0), (10, .ireturn, 1, [], 0, 0), (11, .aload_n 0, 1, [], 0, 0), (12, .getfield 22, 3, [], 4, 0), (15, .iload_n 1, 1, [], 0, 0), (16, .iconst 3, 1, [], 0, 0), (17, .iastore, 1, [], 0, 0), (18, .aload_n 0, 1, [], 0, 0), (19, .getfield 16, 3, [], 2, 0), (22, .iload_n 1, 1, [], 0, 0), (23, .iconst 0, 1, [], 0, 0), (24, .iastore, 1, [], 0, 0), (25, .aload_n 0, 1, [], 0, 0), (26, .getfield 29, 3, [], 6, 0), (29, .iload_n 1, 1, [], 0, 0), (30, .iconst 0, 1, [], 0, 0), (31, .bastore, 1, [], 0, 0), (32, .aload_n 0, 1, [], 0, 0), (33, .iload_n 1, 1, [], 0, 0), (34, .invokevirtual 126, 3, [], 29, 0), (37, .iconst 0, 1, [], 0, 0), (38, .ireturn, 1, [], 0, 0)])
def d_29 : MD := (⟨"ProRataBook", "removeResting", "(I)V"⟩, prog_1_method_16_code, 3, none, 2, 1, 0, 0, 0, [(0, .iconst 0, 1, [], 0, 0), (1, .istore_n 2, 1, [], 0, 0), (2, .iload_n 2, 1, [], 0, 0), (3, .aload_n 0, 1, [], 0, 0), (4, .getfield 68, 3, [], 18, 0), (7, .if_icmp .ge 47, 3, [], 0, 0), (10, .aload_n 0, 1, [], 0, 0), (11, .getfield 33, 3, [], 7, 0), (14, .iload_n 2, 1, [], 0, 0), (15, .iaload, 1, [], 0, 0), (16, .iload_n 1, 1, [], 0, 0), (17, .if_icmp .ne 31, 3, [], 0, 0), (20, .aload_n 0, 1, [false, true], 0, 0), (21, .getfield 33, 3, [], 7, 0), (24, .iload_n 2, 1, [], 0, 0), (25, .aload_n 0, 1, [], 0, 0), (26, .getfield 33, 3, [], 7, 0), (29, .aload_n 0, 1, [], 0, 0), (30, .getfield 68, 3, [], 18, 0), (33, .iconst 1, 1, [], 0, 0), (34, .isub, 1, [], 0, 0), (35, .iaload, 1, [], 0, 0), (36, .iastore, 1, [], 0, 0), (37, .aload_n 0, 1, [], 0, 0), (38, .dup, 1, [], 0, 0), (39, .getfield 68, 3, [], 18, 0), (42, .iconst 1, 1, [], 0, 0), (43, .isub, 1, [], 0, 0), (44, .putfield 68, 3, [], 18, 0), (47, .return_, 1, [], 0, 0), (48, .iinc 2 1, 3, [], 0, 0), (51, .goto (-49), 3, [], 0, 0), (54, .return_, 1, [], 0, 0)])
def d_30 : MD := (⟨"ProRataBook", "proRataStep", "(I)I"⟩, prog_1_method_13_code, 9, some .int, 2, 1, 0, 0, 0, [(0, .lconst 0, 1, [], 0, 0), (1, .lstore_n 2, 1, [], 0, 0), (2, .iconst 0, 1, [], 0, 0), (3, .istore 4, 2, [], 0, 0), (5, .iload 4, 2, [false, false, false, false, false, true, true, true, true], 0, 0), (7, .aload_n 0, 1, [], 0, 0), (8, .getfield 74, 3, [], 20, 0), (11, .if_icmp .ge 28, 3, [], 0, 0), (14, .lload_n 2, 1, [], 0, 0), (15, .aload_n 0, 1, [], 0, 0), (16, .getfield 48, 3, [], 12, 0), (19, .iload 4, 2, [], 0, 0), (21, .iaload, 1, [], 0, 0), (22, .aload_n 0, 1, [], 0, 0), (23, .getfield 51, 3, [], 13, 0), (26, .iload 4, 2, [], 0, 0), (28, .iaload, 1, [], 0, 0), (29, .isub, 1, [], 0, 0), (30, .i2l, 1, [], 0, 0), (31, .ladd, 1, [], 0, 0), (32, .lstore_n 2, 1, [], 0, 0), (33, .iinc 4 1, 3, [], 0, 0), (36, .goto (-31), 3, [], 0, 0), (39, .lload_n 2, 1, [false, false, false, false, true, true, true, true, true], 0, 0), (40, .lconst 0, 1, [], 0, 0), (41, .lcmp, 1, [], 0, 0), (42, .ifCond .gt 5, 3, [], 0, 0), (45, .iconst 0, 1, [], 0, 0), (46, .ireturn, 1, [], 0, 0), (47, .iconst 0, 1, [], 0, 0), (48, .istore 4, 2, [], 0, 0), (50, .iconst 0, 1, [], 0, 0), (51, .istore 5, 2, [], 0, 0), (53, .iload 5, 2, [false, false, false, false, false, false, true, true, true], 0, 0), (55, .aload_n 0, 1, [], 0, 0), (56, .getfield 74, 3, [], 20, 0), (59, .if_icmp .ge 68, 3, [], 0, 0), (62, .aload_n 0, 1, [], 0, 0), (63, .getfield 48, 3, [], 12, 0), (66, .iload 5, 2, [], 0, 0), (68, .iaload, 1, [], 0, 0), (69, .aload_n 0, 1, [], 0, 0), (70, .getfield 51, 3, [], 13, 0), (73, .iload 5, 2, [], 0, 0), (75, .iaload, 1, [], 0, 0), (76, .isub, 1, [], 0, 0), (77, .i2l, 1, [], 0, 0), (78, .lstore 6, 2, [], 0, 0), (80, .iload_n 1, 1, [], 0, 0), (81, .i2l, 1, [], 0, 0), (82, .lload 6, 2, [], 0, 0), (84, .lmul, 1, [], 0, 0), (85, .lload_n 2, 1, [], 0, 0), (86, .ldiv, 1, [], 0, 0), (87, .l2i, 1, [], 0, 0), (88, .istore 8, 2, [], 0, 0), (90, .iload 8, 2, [], 0, 0), (92, .aload_n 0, 1, [], 0, 0), (93, .getfield 54, 3, [], 14, 0), (96, .if_icmp .ge 6, 3, [], 0, 0), (99, .iconst 0, 1, [], 0, 0), (100, .istore 8, 2, [], 0, 0), (102, .aload_n 0, 1, [false, false, false, false, false, false, true, true], 0, 0), (103, .getfield 51, 3, [], 13, 0), (106, .iload 5, 2, [], 0, 0), (108, .dup2, 1, [], 0, 0), (109, .iaload, 1, [], 0, 0), (110, .iload 8, 2, [], 0, 0), (112, .iadd, 1, [], 0, 0), (113, .iastore, 1, [], 0, 0), (114, .iload 4, 2, [], 0, 0), (116, .iload 8, 2, [], 0, 0), (118, .iadd, 1, [], 0, 0), (119, .istore 4, 2, [], 0, 0), (121, .iinc 5 1, 3, [], 0, 0), (124, .goto (-71), 3, [], 0, 0), (127, .iload 4, 2, [], 0, 0), (129, .ireturn, 1, [], 0, 0)])
def d_31 : MD := (⟨"ProRataBook", "amend", "(II)I"⟩, prog_1_method_20_code, 3, some .int, 3, 2, 0, 1, 13, [(0, .aload_n 0, 1, [], 0, 0), (1, .iload_n 1, 1, [], 0, 0), (2, .invokevirtual 129, 3, [], 14, 0), (5, .ifCond .ne 6, 3, [], 0, 0), (8, .bipush (-6), 2, [], 0, 0), (10, .ireturn, 1, [], 0, 0), (11, .iload_n 2, 1, [], 0, 0), (12, .iconst 1, 1, [], 0, 0), (13, .if_icmp .lt 10, 3, [], 0, 0), (16, .iload_n 2, 1, [], 0, 0), (17, .sipush 10000, 3, [], 0, 0), (20, .if_icmp .le 6, 3, [], 0, 0), (23, .bipush (-3), 2, [], 0, 0), (25, .ireturn, 1, [], 0, 0), (26, .iload_n 2, 1, [], 0, 0), (27, .aload_n 0, 1, [], 0, 0), (28, .getfield 16, 3, [], 2, 0), (31, .iload_n 1, 1, [], 0, 0), (32, .iaload, 1, [], 0, 0), (33, .if_icmp .ge 13, 3, [], 0, 0), (36, .aload_n 0, 1, [], 0, 0), (37, .getfield 16, 3, [], 2, 0), (40, .iload_n 1, 1, [], 0, 0), (41, .iload_n 2, 1, [], 0, 0), (42, .iastore, 1, [], 0, 0), (43, .goto 47, 3, [], 0, 0), (46, .iload_n 2, 1, [], 0, 0), (47, .aload_n 0, 1, [], 0, 0), (48, .getfield 16, 3, [], 2, 0), (51, .iload_n 1, 1, [], 0, 0), (52, .iaload, 1, [], 0, 0), (53, .if_icmp .le 37, 3, [], 0, 0), (56, .aload_n 0, 1, [], 0, 0), (57, .getfield 16, 3, [], 2, 0), (60, .iload_n 1, 1, [], 0, 0), (61, .iload_n 2, 1, [], 0, 0), (62, .iastore, 1, [], 0, 0), (63, .aload_n 0, 1, [], 0, 0), (64, .dup, 1, [], 0, 0), (65, .getfield 64, 3, [], 17, 0), (68, .lconst 1, 1, [], 0, 0), (69, .ladd, 1, [], 0, 0), (70, .putfield 64, 3, [], 17, 0), (73, .aload_n 0, 1, [], 0, 0), (74, .getfield 25, 3, [], 5, 0), (77, .iload_n 1, 1, [], 0, 0), (78, .aload_n 0, 1, [], 0, 0), (79, .getfield 64, 3, [], 17, 0), (82, .lastore, 1, [], 0, 0), (83, .aload_n 0, 1, [], 0, 0), (84, .getfield 29, 3, [], 6, 0), (87, .iload_n 1, 1, [], 0, 0), (88, .iconst 0, 1, [], 0, 0), (89, .bastore, 1, [], 0, 0), (90, .iconst 0, 1, [], 0, 0), (91, .ireturn, 1, [], 0, 0)])
def own_P : PD := ([("ProRataBook", 21, [("oSide", "[I", (.array .int), false), ("oPrice", "[I", (.array .int), false), ("oRem", "[I", (.array .int), false), ("oFilled", "[I", (.array .int), false), ("oStatus", "[I", (.array .int), false), ("oStamp", "[J", (.array .long), false), ("oTop", "[Z", (.array .boolean), false), ("restIds", "[I", (.array .int), false), ("fIds", "[I", (.array .int), false), ("fQty", "[I", (.array .int), false), ("fPrice", "[I", (.array .int), false), ("lvlIds", "[I", (.array .int), false), ("lvlR", "[I", (.array .int), false), ("lvlA", "[I", (.array .int), false), ("minAlloc", "I", .int, false), ("topCap", "I", .int, false), ("accepted", "I", .int, false), ("stampCounter", "J", .long, false), ("restN", "I", .int, false), ("fN", "I", .int, false), ("lvlN", "I", .int, false)])], [d_0, d_1, d_2, d_3, d_4, d_5, d_6, d_7, d_8, d_9, d_10, d_11, d_12, d_13, d_14, d_15, d_16, d_17, d_18, d_19, d_20, d_21, d_22, d_23, d_24, d_25, d_26, d_27, d_28, d_29, d_30, d_31], 1)
theorem hm_0 : own_P.mth[0]? = some d_0 := rfl
theorem hm_1 : own_P.mth[1]? = some d_1 := rfl
theorem hm_2 : own_P.mth[2]? = some d_2 := rfl
theorem hm_3 : own_P.mth[3]? = some d_3 := rfl
theorem hm_4 : own_P.mth[4]? = some d_4 := rfl
theorem hm_5 : own_P.mth[5]? = some d_5 := rfl
theorem hm_6 : own_P.mth[6]? = some d_6 := rfl
theorem hm_7 : own_P.mth[7]? = some d_7 := rfl
theorem hm_8 : own_P.mth[8]? = some d_8 := rfl
theorem hm_9 : own_P.mth[9]? = some d_9 := rfl
theorem hm_10 : own_P.mth[10]? = some d_10 := rfl
theorem hm_11 : own_P.mth[11]? = some d_11 := rfl
theorem hm_12 : own_P.mth[12]? = some d_12 := rfl
theorem hm_13 : own_P.mth[13]? = some d_13 := rfl
theorem hm_14 : own_P.mth[14]? = some d_14 := rfl
theorem hm_15 : own_P.mth[15]? = some d_15 := rfl
theorem hm_16 : own_P.mth[16]? = some d_16 := rfl
theorem hm_17 : own_P.mth[17]? = some d_17 := rfl
theorem hm_18 : own_P.mth[18]? = some d_18 := rfl
theorem hm_19 : own_P.mth[19]? = some d_19 := rfl
theorem hm_20 : own_P.mth[20]? = some d_20 := rfl
theorem hm_21 : own_P.mth[21]? = some d_21 := rfl
theorem hm_22 : own_P.mth[22]? = some d_22 := rfl
theorem hm_23 : own_P.mth[23]? = some d_23 := rfl
theorem hm_24 : own_P.mth[24]? = some d_24 := rfl
theorem hm_25 : own_P.mth[25]? = some d_25 := rfl
theorem hm_26 : own_P.mth[26]? = some d_26 := rfl
theorem hm_27 : own_P.mth[27]? = some d_27 := rfl
theorem hm_28 : own_P.mth[28]? = some d_28 := rfl
theorem hm_29 : own_P.mth[29]? = some d_29 := rfl
theorem hm_30 : own_P.mth[30]? = some d_30 := rfl
theorem hm_31 : own_P.mth[31]? = some d_31 := rfl
set_option maxRecDepth 100000 in
theorem own_chk : chk own_P = true := by decide +kernel
def own_ix : List Nat := [1, 2, 15, 17, 19, 21, 23, 26, 29, 31, 33, 35, 37, 39, 41, 43, 45, 47, 49, 51, 53, 55, 57, 6, 5, 4, 9, 2, 8, 61, 5, 60, 66, 2, 63, 65, 64, 71, 2, 68, 70, 69, 76, 2, 73, 75, 74, 80, 2, 78, 79, 84, 2, 82, 83, 88, 2, 86, 87, 92, 2, 90, 91, 97, 2, 94, 96, 95, 102, 2, 99, 101, 100, 107, 2, 104, 106, 105, 111, 2, 109, 110, 116, 2, 113, 115, 114, 120, 2, 118, 119, 124, 2, 122, 123, 128, 2, 126, 127, 132, 2, 130, 131, 136, 2, 134, 135, 140, 2, 138, 139, 144, 2, 142, 143, 148, 2, 146, 147, 152, 2, 150, 151, 157, 2, 154, 156, 155, 162, 2, 159, 161, 160, 167, 2, 164, 166, 165, 172, 2, 169, 171, 170, 176, 2, 174, 175, 180, 2, 178, 179, 185, 2, 182, 184, 183, 0, 3, 3, 7, 3, 58, 3, 58, 3, 58, 59, 59, 98, 103, 168, 98, 103, 59, 59, 59, 59, 181, 98, 103, 59, 59, 59, 59, 67, 72, 59, 59, 67, 93, 67, 153, 158, 163, 163, 153, 98, 103, 163, 62, 98, 103, 112, 59, 59, 10, 11, 12, 13, 14, 13, 16, 13, 18, 13, 20, 13, 22, 24, 25, 27, 28, 13, 30, 13, 32, 13, 34, 13, 36, 13, 38, 13, 40, 13, 42, 44, 46, 48, 50, 52, 54, 56, 62, 52, 30, 14, 16, 18, 54, 48, 48, 48, 48, 54, 14, 16, 18, 20, 28, 25, 77, 85, 81, 121, 125, 20, 52, 30, 14, 16, 117, 22, 18, 52, 22, 18, 81, 117, 89, 50, 50, 25, 50, 18, 22, 28, 30, 52, 52, 52, 52, 30, 14, 28, 48, 20, 48, 22, 108, 18, 48, 22, 81, 129, 133, 56, 38, 40, 18, 42, 137, 149, 56, 52, 30, 14, 16, 56, 38, 56, 56, 56, 56, 38, 25, 25, 38, 38, 38, 38, 56, 40, 141, 177, 145, 46, 56, 38, 28, 40, 40, 46, 46, 42, 56, 40, 42, 42, 56, 42, 38, 54, 32, 54, 36, 54, 34, 54, 54, 54, 18, 20, 18, 18, 22, 28, 173, 54, 32, 54, 34, 54, 36, 108, 22, 18, 28, 173, 52, 30, 30, 30, 52, 52, 52, 56, 40, 42, 56, 40, 42, 44, 42, 108, 18, 18, 18, 18, 50, 50, 25, 50, 28]
set_option maxRecDepth 100000 in
theorem own_words : (wordsOf own_P).map some = own_ix.map fun k => tables_1[k]? := rfl
theorem own_in : ∀ d ∈ wordsOf own_P, d ∈ tables_1 := fun d hd => by
  have h1 : some d ∈ (wordsOf own_P).map some := List.mem_map.mpr ⟨d, hd, rfl⟩
  rw [own_words] at h1
  obtain ⟨k, -, hk⟩ := List.mem_map.mp h1
  exact List.mem_of_getElem? hk
abbrev bk0 (s_oSide : List Int32) (s_oPrice : List Int32) (s_oRem : List Int32) (s_oFilled : List Int32) (s_oStatus : List Int32) (s_oStamp : List Int64) (s_oTop : List Int32) (s_restIds : List Int32) (s_fIds : List Int32) (s_fQty : List Int32) (s_fPrice : List Int32) (s_lvlIds : List Int32) (s_lvlR : List Int32) (s_lvlA : List Int32) (s_minAlloc : Int32) (s_topCap : Int32) (s_accepted : Int32) (s_stampCounter : Int64) (s_restN : Int32) (s_fN : Int32) (s_lvlN : Int32) (po : List ACell) : List ACell := .inl (0, [.ref 2, .ref 3, .ref 4, .ref 5, .ref 6, .ref 7, .ref 8, .ref 9, .ref 10, .ref 11, .ref 12, .ref 13, .ref 14, .ref 15, .int s_minAlloc, .int s_topCap, .int s_accepted, .long s_stampCounter, .int s_restN, .int s_fN, .int s_lvlN]) :: .inr (.inl (false, s_oSide)) :: .inr (.inl (false, s_oPrice)) :: .inr (.inl (false, s_oRem)) :: .inr (.inl (false, s_oFilled)) :: .inr (.inl (false, s_oStatus)) :: .inr (.inr s_oStamp) :: .inr (.inl (true, s_oTop)) :: .inr (.inl (false, s_restIds)) :: .inr (.inl (false, s_fIds)) :: .inr (.inl (false, s_fQty)) :: .inr (.inl (false, s_fPrice)) :: .inr (.inl (false, s_lvlIds)) :: .inr (.inl (false, s_lvlR)) :: .inr (.inl (false, s_lvlA)) :: po
def f_L_cell (scr : List Int32) (v1 : Int32) : Option (Int32) :=
  if v1 < scr.length.toInt32 then
    (rdA scr v1).bind fun x1 =>
    some x1
  else
    some (0 : Int32)
def f_init_165 (zh zi zn zu zo : List Int32) (zl : List Int64) (zf zc zs zq zr ze zg zd : List Int32) (zm zj zk : Int32) (zt : Int64) (zb zp za v3 v4 : Int32) : Option (List Int32 × List Int32 × List Int32 × List Int32 × List Int32 × List Int64 × List Int32 × List Int32 × List Int32 × List Int32 × List Int32 × List Int32 × List Int32 × List Int32 × Int32 × Int32 × Int32 × Int64 × Int32 × Int32 × Int32) :=
  some (zh, zi, zn, zu, zo, zl, zf, zc, zs, zq, zr, ze, zg, zd, v3, v4, (0 : Int32), (0 : Int64), (0 : Int32), (0 : Int32), (0 : Int32))
def f_init_152 (zh zi zn zu zo : List Int32) (zl : List Int64) (zf zc zs zq zr ze zg zd : List Int32) (zm zj zk : Int32) (zt : Int64) (zb zp za v3 v4 : Int32) : Option (List Int32 × List Int32 × List Int32 × List Int32 × List Int32 × List Int64 × List Int32 × List Int32 × List Int32 × List Int32 × List Int32 × List Int32 × List Int32 × List Int32 × Int32 × Int32 × Int32 × Int64 × Int32 × Int32 × Int32) :=
  f_init_165 zh zi zn zu zo zl zf zc zs zq zr ze zg zd zm zj zk zt zb zp za v3 (if (10000 : Int32) < v4 then (10000 : Int32) else v4)
def f_init_141 (zh zi zn zu zo : List Int32) (zl : List Int64) (zf zc zs zq zr ze zg zd : List Int32) (zm zj zk : Int32) (zt : Int64) (zb zp za v2 v3 : Int32) : Option (List Int32 × List Int32 × List Int32 × List Int32 × List Int32 × List Int64 × List Int32 × List Int32 × List Int32 × List Int32 × List Int32 × List Int32 × List Int32 × List Int32 × Int32 × Int32 × Int32 × Int64 × Int32 × Int32 × Int32) :=
  f_init_152 zh zi zn zu zo zl zf zc zs zq zr ze zg zd zm zj zk zt zb zp za v3 (if v2 < (0 : Int32) then (0 : Int32) else v2)
def f_init_132 (zh zi zn zu zo : List Int32) (zl : List Int64) (zf zc zs zq zr ze zg zd : List Int32) (zm zj zk : Int32) (zt : Int64) (zb zp za v2 v3 : Int32) : Option (List Int32 × List Int32 × List Int32 × List Int32 × List Int32 × List Int64 × List Int32 × List Int32 × List Int32 × List Int32 × List Int32 × List Int32 × List Int32 × List Int32 × Int32 × Int32 × Int32 × Int64 × Int32 × Int32 × Int32) :=
  f_init_141 zh zi zn zu zo zl zf zc zs zq zr ze zg zd zm zj zk zt zb zp za v2 (if (100 : Int32) < v3 then (100 : Int32) else v3)
def f_init (v1 v2 : Int32) : Option (List Int32 × List Int32 × List Int32 × List Int32 × List Int32 × List Int64 × List Int32 × List Int32 × List Int32 × List Int32 × List Int32 × List Int32 × List Int32 × List Int32 × Int32 × Int32 × Int32 × Int64 × Int32 × Int32 × Int32) :=
  f_init_132 (List.replicate 256 0) (List.replicate 256 0) (List.replicate 256 0) (List.replicate 256 0) (List.replicate 256 0) (List.replicate 256 0) (List.replicate 256 0) (List.replicate 64 0) (List.replicate 64 0) (List.replicate 64 0) (List.replicate 64 0) (List.replicate 64 0) (List.replicate 64 0) (List.replicate 64 0) (0 : Int32) (0 : Int32) (0 : Int32) (0 : Int64) (0 : Int32) (0 : Int32) (0 : Int32) v2 (if v1 < (1 : Int32) then (1 : Int32) else v1)
def f_depthAt_30 (zh zi zn zc : List Int32) (zb : Int32) : Nat → Int32 → Int32 → Int32 → Int32 → Option (Int32)
  | 0, _, _, _, _ => none
  | n + 1, v1, v2, v3, v4 =>
    if v4 < zb then
      (rdA zc v4).bind fun x2 =>
      (rdA zh x2).bind fun x3 =>
      if x3 = v1 then
        (rdA zi x2).bind fun x4 =>
        if x4 = v2 then
          (rdA zn x2).bind fun x5 =>
          f_depthAt_30 zh zi zn zc zb n v1 v2 (v3 + x5) (v4 + (1 : Int32))
        else
          f_depthAt_30 zh zi zn zc zb n v1 v2 v3 (v4 + (1 : Int32))
      else
        f_depthAt_30 zh zi zn zc zb n v1 v2 v3 (v4 + (1 : Int32))
    else
      some v3
def f_depthAt_11 (zh zi zn zc : List Int32) (zb v1 v2 : Int32) : Option (Int32) :=
  if v2 < (1 : Int32) then
    some (0 : Int32)
  else
    if (1000 : Int32) < v2 then
      some (0 : Int32)
    else
      f_depthAt_30 zh zi zn zc zb 100000 v1 v2 (0 : Int32) (0 : Int32)
def f_depthAt (zh zi zn zc : List Int32) (zb v1 v2 : Int32) : Option (Int32) :=
  if v1 = (0 : Int32) then
    f_depthAt_11 zh zi zn zc zb v1 v2
  else
    if v1 = (1 : Int32) then
      f_depthAt_11 zh zi zn zc zb v1 v2
    else
      some (0 : Int32)
def f_L_depth_6 (zaq zar zas zat : List Int32) (zau : Int32) : Nat → Int32 → Int64 → Int32 → Option (Int64)
  | 0, _, _, _ => none
  | n + 1, v1, v2, v4 =>
    if (107 : Int32) < v4 then
      some v2
    else
      (f_depthAt zaq zar zas zat zau v1 v4).bind fun r6 =>
      f_L_depth_6 zaq zar zas zat zau n v1 (v2 + r6.toInt64) (v4 + (1 : Int32))
def f_L_depth (zaq zar zas zat : List Int32) (zau v1 : Int32) : Option (Int64) :=
  f_L_depth_6 zaq zar zas zat zau 100000 v1 (0 : Int64) (100 : Int32)
def f_status (zo : List Int32) (zk v1 : Int32) : Option (Int32) :=
  if v1 < (1 : Int32) then
    some (0 : Int32)
  else
    if zk < v1 then
      some (0 : Int32)
    else
      (rdA zo v1).bind fun x7 =>
      some x7
def f_isResting (zo : List Int32) (zk v1 : Int32) : Option (Int32) :=
  if v1 < (1 : Int32) then
    some (0 : Int32)
  else
    if zk < v1 then
      some (0 : Int32)
    else
      (rdA zo v1).bind fun x8 =>
      some (if x8 = (1 : Int32) then (1 : Int32) else (0 : Int32))
def f_remaining (zn zo : List Int32) (zk v1 : Int32) : Option (Int32) :=
  (f_isResting zo zk v1).bind fun r9 =>
  if r9 = (0 : Int32) then
    some (0 : Int32)
  else
    (rdA zn v1).bind fun x10 =>
    some x10
def f_removeResting_20 (zc : List Int32) (zb v2 : Int32) : Option (List Int32 × Int32) :=
  (rdA zc (zb - (1 : Int32))).bind fun x12 =>
  (wrA zc v2 x12).bind fun A13 =>
  some (A13, (zb - (1 : Int32)))
def f_removeResting_2 (k20 : List Int32 → Int32 → Int32 → Option (List Int32 × Int32)) : Nat → List Int32 → Int32 → Int32 → Int32 → Option (List Int32 × Int32)
  | 0, _, _, _, _ => none
  | n + 1, zc, zb, v1, v2 =>
    if v2 < zb then
      (rdA zc v2).bind fun x11 =>
      if x11 = v1 then
        k20 zc zb v2
      else
        f_removeResting_2 k20 n zc zb v1 (v2 + (1 : Int32))
    else
      some (zc, zb)
def f_removeResting (zc : List Int32) (zb v1 : Int32) : Option (List Int32 × Int32) :=
  f_removeResting_2 f_removeResting_20 100000 zc zb v1 (0 : Int32)
def f_cancel (zk : Int32) (zn zo zf zc : List Int32) (zb v1 : Int32) : Option (Int32 × List Int32 × List Int32 × List Int32 × List Int32 × Int32) :=
  (f_isResting zo zk v1).bind fun r14 =>
  if r14 = (0 : Int32) then
    some ((-6 : Int32), zn, zo, zf, zc, zb)
  else
    (wrA zo v1 (3 : Int32)).bind fun A15 =>
    (wrA zn v1 (0 : Int32)).bind fun A16 =>
    (wrA zf v1 (0 : Int32)).bind fun A17 =>
    (f_removeResting zc zb v1).bind fun (s18, s19) =>
    some ((0 : Int32), A16, A15, A17, s18, s19)
def f_amend (zo : List Int32) (zk : Int32) (zn : List Int32) (zl : List Int64) (zf : List Int32) (zt : Int64) (v1 v2 : Int32) : Option (Int32 × List Int32 × List Int64 × List Int32 × Int64) :=
  (f_isResting zo zk v1).bind fun r20 =>
  if r20 = (0 : Int32) then
    some ((-6 : Int32), zn, zl, zf, zt)
  else
    if v2 < (1 : Int32) then
      some ((-3 : Int32), zn, zl, zf, zt)
    else
      if (10000 : Int32) < v2 then
        some ((-3 : Int32), zn, zl, zf, zt)
      else
        (rdA zn v1).bind fun x21 =>
        if v2 < x21 then
          (wrA zn v1 v2).bind fun A26 =>
          some ((0 : Int32), A26, zl, zf, zt)
        else
          (rdA zn v1).bind fun x22 =>
          if x22 < v2 then
            (wrA zn v1 v2).bind fun A23 =>
            (wrA zl v1 (zt + (1 : Int64))).bind fun A24 =>
            (wrA zf v1 (0 : Int32)).bind fun A25 =>
            some ((0 : Int32), A23, A24, A25, (zt + (1 : Int64)))
          else
            some ((0 : Int32), zn, zl, zf, zt)
def f_fillCount (zp : Int32) : Option (Int32) :=
  some zp
def f_better (v1 v2 v3 : Int32) : Option (Int32) :=
  some (if v1 = (0 : Int32) then (if v3 < v2 then (1 : Int32) else (0 : Int32)) else (if v2 < v3 then (1 : Int32) else (0 : Int32)))
def f_bestOf_4 (zh zi zc : List Int32) (zb : Int32) : Nat → Int32 → Int32 → Int32 → Option (Int32)
  | 0, _, _, _ => none
  | n + 1, v1, v2, v3 =>
    if v3 < zb then
      (rdA zc v3).bind fun x27 =>
      (rdA zh x27).bind fun x28 =>
      if x28 = v1 then
        (rdA zi x27).bind fun x29 =>
        if v2 = (0 : Int32) then
          f_bestOf_4 zh zi zc zb n v1 x29 (v3 + (1 : Int32))
        else
          (f_better v1 x29 v2).bind fun r30 =>
          f_bestOf_4 zh zi zc zb n v1 (if r30 = (0 : Int32) then v2 else x29) (v3 + (1 : Int32))
      else
        f_bestOf_4 zh zi zc zb n v1 v2 (v3 + (1 : Int32))
    else
      some v2
def f_bestOf (zh zi zc : List Int32) (zb v1 : Int32) : Option (Int32) :=
  f_bestOf_4 zh zi zc zb 100000 v1 (0 : Int32) (0 : Int32)
def f_crosses (v1 v2 v3 : Int32) : Option (Int32) :=
  some (if v1 = (0 : Int32) then (if v2 < v3 then (0 : Int32) else (1 : Int32)) else (if v3 < v2 then (0 : Int32) else (1 : Int32)))
def f_gatherLevel_7 (zh zi zc : List Int32) (zb : Int32) : Nat → List Int32 → Int32 → Int32 → Int32 → Int32 → Option (List Int32 × Int32)
  | 0, _, _, _, _, _ => none
  | n + 1, ze, za, v1, v2, v3 =>
    if v3 < zb then
      (rdA zc v3).bind fun x31 =>
      (rdA zh x31).bind fun x32 =>
      if x32 = v1 then
        (rdA zi x31).bind fun x33 =>
        if x33 = v2 then
          if za < (64 : Int32) then
            (wrA ze za x31).bind fun A34 =>
            f_gatherLevel_7 zh zi zc zb n A34 (za + (1 : Int32)) v1 v2 (v3 + (1 : Int32))
          else
            f_gatherLevel_7 zh zi zc zb n ze za v1 v2 (v3 + (1 : Int32))
        else
          f_gatherLevel_7 zh zi zc zb n ze za v1 v2 (v3 + (1 : Int32))
      else
        f_gatherLevel_7 zh zi zc zb n ze za v1 v2 (v3 + (1 : Int32))
    else
      some (ze, za)
def f_gatherLevel (zh zi zc : List Int32) (zb : Int32) (ze : List Int32) (za v1 v2 : Int32) : Option (List Int32 × Int32) :=
  f_gatherLevel_7 zh zi zc zb 100000 ze (0 : Int32) v1 v2 (0 : Int32)
def f_sortLevel_73 (kb : List Int32 → Int32 → Option (List Int32)) (zl : List Int64) (za : Int32) (ze : List Int32) (v1 v2 v5 : Int32) : Option (List Int32) :=
  (wrA ze v5 v2).bind fun A41 =>
  kb A41 (v1 + (1 : Int32))
def f_sortLevel_27 (k73 : List Int32 → Int32 → Int32 → Int32 → Option (List Int32)) (zl : List Int64) (za : Int32) : Nat → List Int32 → Int32 → Int32 → Int64 → Int32 → Option (List Int32)
  | 0, _, _, _, _, _ => none
  | n + 1, ze, v1, v2, v3, v5 =>
    if (0 : Int32) < v5 then
      (rdA ze (v5 - (1 : Int32))).bind fun x37 =>
      (rdA zl x37).bind fun x38 =>
      if v3 < x38 then
        (rdA ze (v5 - (1 : Int32))).bind fun x39 =>
        (wrA ze v5 x39).bind fun A40 =>
        f_sortLevel_27 k73 zl za n A40 v1 v2 v3 (v5 + (-1 : Int32))
      else
        k73 ze v1 v2 v5
    else
      k73 ze v1 v2 v5
def f_sortLevel_2 (zl : List Int64) (za : Int32) : Nat → List Int32 → Int32 → Option (List Int32)
  | 0, _, _ => none
  | n + 1, ze, v1 =>
    if v1 < za then
      (rdA ze v1).bind fun x35 =>
      (rdA zl x35).bind fun x36 =>
      f_sortLevel_27 (f_sortLevel_73 (f_sortLevel_2 zl za n) zl za) zl za 100000 ze v1 x35 x36 v1
    else
      some ze
def f_sortLevel (zl : List Int64) (za : Int32) (ze : List Int32) : Option (List Int32) :=
  f_sortLevel_2 zl za 100000 ze (1 : Int32)
def f_topStep_80 (zf ze zg : List Int32) (zj za : Int32) (zd : List Int32) (v2 v4 : Int32) : Option (Int32 × List Int32) :=
  (rdA zd v2).bind fun x46 =>
  (wrA zd v2 (x46 + v4)).bind fun A47 =>
  some (v4, A47)
def f_topStep_72 (zf ze zg : List Int32) (zj za : Int32) (zd : List Int32) (v2 v4 : Int32) : Option (Int32 × List Int32) :=
  f_topStep_80 zf ze zg zj za zd v2 (if v4 < (0 : Int32) then (0 : Int32) else v4)
def f_topStep_57 (zf ze zg : List Int32) (zj za : Int32) (zd : List Int32) (v2 v4 : Int32) : Option (Int32 × List Int32) :=
  f_topStep_72 zf ze zg zj za zd v2 (if zj < v4 then zj else v4)
def f_topStep_35 (zf ze zg : List Int32) (zj za : Int32) (zd : List Int32) (v1 v2 : Int32) : Option (Int32 × List Int32) :=
  (rdA zg v2).bind fun x44 =>
  if x44 < v1 then
    (rdA zg v2).bind fun x45 =>
    f_topStep_57 zf ze zg zj za zd v2 x45
  else
    f_topStep_57 zf ze zg zj za zd v2 v1
def f_topStep_11 (k35 : List Int32 → Int32 → Int32 → Option (Int32 × List Int32)) (zf ze zg : List Int32) (zj za : Int32) : Nat → List Int32 → Int32 → Int32 → Option (Int32 × List Int32)
  | 0, _, _, _ => none
  | n + 1, zd, v1, v2 =>
    if v2 < za then
      (rdA ze v2).bind fun x42 =>
      (rdA zf x42).bind fun x43 =>
      if x43 = (0 : Int32) then
        f_topStep_11 k35 zf ze zg zj za n zd v1 (v2 + (1 : Int32))
      else
        k35 zd v1 v2
    else
      some ((0 : Int32), zd)
def f_topStep (zf ze zg : List Int32) (zj za : Int32) (zd : List Int32) (v1 : Int32) : Option (Int32 × List Int32) :=
  if (0 : Int32) < zj then
    f_topStep_11 (f_topStep_35 zf ze zg zj za) zf ze zg zj za 100000 zd v1 (0 : Int32)
  else
    some ((0 : Int32), zd)
def f_proRataStep_102 (kb : List Int32 → Int32 → Int64 → Int32 → Int32 → Option (Int32 × List Int32)) (zg : List Int32) (zm za : Int32) (zd : List Int32) (v1 : Int32) (v2 : Int64) (v4 v5 v8 : Int32) : Option (Int32 × List Int32) :=
  (rdA zd v5).bind fun x52 =>
  (wrA zd v5 (x52 + v8)).bind fun A53 =>
  kb A53 v1 v2 (v4 + v8) (v5 + (1 : Int32))
def f_proRataStep_53 (zg : List Int32) (zm za : Int32) : Nat → List Int32 → Int32 → Int64 → Int32 → Int32 → Option (Int32 × List Int32)
  | 0, _, _, _, _, _ => none
  | n + 1, zd, v1, v2, v4, v5 =>
    if v5 < za then
      (rdA zg v5).bind fun x50 =>
      (rdA zd v5).bind fun x51 =>
      if v2 = 0 then none else
      f_proRataStep_102 (f_proRataStep_53 zg zm za n) zg zm za zd v1 v2 v4 v5 (if ((v1.toInt64 * (x50 - x51).toInt64) / v2).toInt32 < zm then (0 : Int32) else ((v1.toInt64 * (x50 - x51).toInt64) / v2).toInt32)
    else
      some (v4, zd)
def f_proRataStep_39 (zg : List Int32) (zm za : Int32) (zd : List Int32) (v1 : Int32) (v2 : Int64) : Option (Int32 × List Int32) :=
  if (0 : Int64) < v2 then
    f_proRataStep_53 zg zm za 100000 zd v1 v2 (0 : Int32) (0 : Int32)
  else
    some ((0 : Int32), zd)
def f_proRataStep_5 (k39 : List Int32 → Int32 → Int64 → Option (Int32 × List Int32)) (zg : List Int32) (zm za : Int32) : Nat → List Int32 → Int32 → Int64 → Int32 → Option (Int32 × List Int32)
  | 0, _, _, _, _ => none
  | n + 1, zd, v1, v2, v4 =>
    if v4 < za then
      (rdA zg v4).bind fun x48 =>
      (rdA zd v4).bind fun x49 =>
      f_proRataStep_5 k39 zg zm za n zd v1 (v2 + (x48 - x49).toInt64) (v4 + (1 : Int32))
    else
      k39 zd v1 v2
def f_proRataStep (zg : List Int32) (zm za : Int32) (zd : List Int32) (v1 : Int32) : Option (Int32 × List Int32) :=
  f_proRataStep_5 (f_proRataStep_39 zg zm za) zg zm za 100000 zd v1 (0 : Int64) (0 : Int32)
def f_timeStep_43 (kb : List Int32 → Int32 → Int32 → Option (List Int32)) (zg : List Int32) (za : Int32) (zd : List Int32) (v2 v3 t0 : Int32) : Option (List Int32) :=
  if (0 : Int32) < t0 then
    (rdA zd v3).bind fun x56 =>
    (wrA zd v3 (x56 + t0)).bind fun A57 =>
    kb A57 (v2 - t0) (v3 + (1 : Int32))
  else
    kb zd v2 (v3 + (1 : Int32))
def f_timeStep_4 (zg : List Int32) (za : Int32) : Nat → List Int32 → Int32 → Int32 → Option (List Int32)
  | 0, _, _, _ => none
  | n + 1, zd, v2, v3 =>
    if v3 < za then
      if (0 : Int32) < v2 then
        (rdA zg v3).bind fun x54 =>
        (rdA zd v3).bind fun x55 =>
        f_timeStep_43 (f_timeStep_4 zg za n) zg za zd v2 v3 (if v2 < (x54 - x55) then v2 else (x54 - x55))
      else
        some zd
    else
      some zd
def f_timeStep (zg : List Int32) (za : Int32) (zd : List Int32) (v1 : Int32) : Option (List Int32) :=
  f_timeStep_4 zg za 100000 zd v1 (0 : Int32)
def f_allocate_67 (zf ze zg : List Int32) (zm zj za : Int32) (zd : List Int32) (v3 v5 v6 : Int32) : Option (Int32 × List Int32) :=
  (f_timeStep zg za zd (v5 - v6)).bind fun s63 =>
  some (v3, s63)
def f_allocate_37 (zf ze zg : List Int32) (zm zj za : Int32) (zd : List Int32) (t0 : Int32) : Option (Int32 × List Int32) :=
  (f_topStep zf ze zg zj za zd t0).bind fun (r59, s60) =>
  if (0 : Int32) < (t0 - r59) then
    (f_proRataStep zg zm za s60 (t0 - r59)).bind fun (r61, s62) =>
    f_allocate_67 zf ze zg zm zj za s62 t0 (t0 - r59) r61
  else
    f_allocate_67 zf ze zg zm zj za s60 t0 (t0 - r59) (0 : Int32)
def f_allocate_27 (zf ze zg : List Int32) (zm zj za : Int32) (zd : List Int32) (v1 v2 : Int32) : Option (Int32 × List Int32) :=
  f_allocate_37 zf ze zg zm zj za zd (if v1 < v2 then v1 else v2)
def f_allocate_4 (k27 : List Int32 → Int32 → Int32 → Option (Int32 × List Int32)) (zf ze zg : List Int32) (zm zj za : Int32) : Nat → List Int32 → Int32 → Int32 → Int32 → Option (Int32 × List Int32)
  | 0, _, _, _, _ => none
  | n + 1, zd, v1, v2, v3 =>
    if v3 < za then
      (rdA zg v3).bind fun x58 =>
      f_allocate_4 k27 zf ze zg zm zj za n zd v1 (v2 + x58) (v3 + (1 : Int32))
    else
      k27 zd v1 v2
def f_allocate (zf ze zg : List Int32) (zm zj za : Int32) (zd : List Int32) (v1 : Int32) : Option (Int32 × List Int32) :=
  f_allocate_4 (f_allocate_27 zf ze zg zm zj za) zf ze zg zm zj za 100000 zd v1 (0 : Int32) (0 : Int32)
def f_applyLevel_82 (kb : List Int32 → List Int32 → List Int32 → List Int32 → List Int32 → List Int32 → List Int32 → List Int32 → Int32 → Int32 → Int32 → Int32 → Option (List Int32 × List Int32 × List Int32 × List Int32 × List Int32 × List Int32 × List Int32 × List Int32 × Int32 × Int32)) (ze zd : List Int32) (za : Int32) (zn zu zo zf zc zs zq zr : List Int32) (zb zp v1 v2 v3 v4 : Int32) : Option (List Int32 × List Int32 × List Int32 × List Int32 × List Int32 × List Int32 × List Int32 × List Int32 × Int32 × Int32) :=
  (rdA zn v4).bind fun x69 =>
  (wrA zn v4 (x69 - v3)).bind fun A70 =>
  (rdA zu v4).bind fun x71 =>
  (wrA zu v4 (x71 + v3)).bind fun A72 =>
  (rdA A70 v4).bind fun x73 =>
  if (0 : Int32) < x73 then
    kb A70 A72 zo zf zc zs zq zr zb zp v1 (v2 + (1 : Int32))
  else
    (wrA A70 v4 (0 : Int32)).bind fun A74 =>
    (wrA zo v4 (2 : Int32)).bind fun A75 =>
    (wrA zf v4 (0 : Int32)).bind fun A76 =>
    (f_removeResting zc zb v4).bind fun (s77, s78) =>
    kb A74 A72 A75 A76 s77 zs zq zr s78 zp v1 (v2 + (1 : Int32))
def f_applyLevel_2 (ze zd : List Int32) (za : Int32) : Nat → List Int32 → List Int32 → List Int32 → List Int32 → List Int32 → List Int32 → List Int32 → List Int32 → Int32 → Int32 → Int32 → Int32 → Option (List Int32 × List Int32 × List Int32 × List Int32 × List Int32 × List Int32 × List Int32 × List Int32 × Int32 × Int32)
  | 0, _, _, _, _, _, _, _, _, _, _, _, _ => none
  | n + 1, zn, zu, zo, zf, zc, zs, zq, zr, zb, zp, v1, v2 =>
    if v2 < za then
      (rdA zd v2).bind fun x64 =>
      if (0 : Int32) < x64 then
        (rdA ze v2).bind fun x65 =>
        if zp < (64 : Int32) then
          (wrA zs zp x65).bind fun A66 =>
          (wrA zr zp v1).bind fun A67 =>
          (wrA zq zp x64).bind fun A68 =>
          f_applyLevel_82 (f_applyLevel_2 ze zd za n) ze zd za zn zu zo zf zc A66 A68 A67 zb (zp + (1 : Int32)) v1 v2 x64 x65
        else
          f_applyLevel_82 (f_applyLevel_2 ze zd za n) ze zd za zn zu zo zf zc zs zq zr zb zp v1 v2 x64 x65
      else
        f_applyLevel_2 ze zd za n zn zu zo zf zc zs zq zr zb zp v1 (v2 + (1 : Int32))
    else
      some (zn, zu, zo, zf, zc, zs, zq, zr, zb, zp)
def f_applyLevel (ze zd : List Int32) (za : Int32) (zn zu zo zf zc zs zq zr : List Int32) (zb zp v1 : Int32) : Option (List Int32 × List Int32 × List Int32 × List Int32 × List Int32 × List Int32 × List Int32 × List Int32 × Int32 × Int32) :=
  f_applyLevel_2 ze zd za 100000 zn zu zo zf zc zs zq zr zb zp v1 (0 : Int32)
def f_matchLevel_59 (zh zi : List Int32) (zl : List Int64) (zm zj : Int32) (zn zu zo zf zc zs zq zr ze zg zd : List Int32) (zb zp za v2 v3 : Int32) : Option (Int32 × List Int32 × List Int32 × List Int32 × List Int32 × List Int32 × List Int32 × List Int32 × List Int32 × List Int32 × List Int32 × List Int32 × Int32 × Int32 × Int32) :=
  (f_allocate zf ze zg zm zj za zd v3).bind fun (r86, s87) =>
  (f_applyLevel ze s87 za zn zu zo zf zc zs zq zr zb zp v2).bind fun (s88, s89, s90, s91, s92, s93, s94, s95, s96, s97) =>
  some (r86, s88, s89, s90, s91, s92, s93, s94, s95, ze, zg, s87, s96, s97, za)
def f_matchLevel_13 (k59 : List Int32 → List Int32 → List Int32 → List Int32 → List Int32 → List Int32 → List Int32 → List Int32 → List Int32 → List Int32 → List Int32 → Int32 → Int32 → Int32 → Int32 → Int32 → Option (Int32 × List Int32 × List Int32 × List Int32 × List Int32 × List Int32 × List Int32 × List Int32 × List Int32 × List Int32 × List Int32 × List Int32 × Int32 × Int32 × Int32)) (zh zi : List Int32) (zl : List Int64) (zm zj : Int32) : Nat → List Int32 → List Int32 → List Int32 → List Int32 → List Int32 → List Int32 → List Int32 → List Int32 → List Int32 → List Int32 → List Int32 → Int32 → Int32 → Int32 → Int32 → Int32 → Int32 → Option (Int32 × List Int32 × List Int32 × List Int32 × List Int32 × List Int32 × List Int32 × List Int32 × List Int32 × List Int32 × List Int32 × List Int32 × Int32 × Int32 × Int32)
  | 0, _, _, _, _, _, _, _, _, _, _, _, _, _, _, _, _, _ => none
  | n + 1, zn, zu, zo, zf, zc, zs, zq, zr, ze, zg, zd, zb, zp, za, v2, v3, v4 =>
    if v4 < za then
      (rdA ze v4).bind fun x82 =>
      (rdA zn x82).bind fun x83 =>
      (wrA zg v4 x83).bind fun A84 =>
      (wrA zd v4 (0 : Int32)).bind fun A85 =>
      f_matchLevel_13 k59 zh zi zl zm zj n zn zu zo zf zc zs zq zr ze A84 A85 zb zp za v2 v3 (v4 + (1 : Int32))
    else
      k59 zn zu zo zf zc zs zq zr ze zg zd zb zp za v2 v3
def f_matchLevel (zh zi : List Int32) (zl : List Int64) (zm zj : Int32) (zn zu zo zf zc zs zq zr ze zg zd : List Int32) (zb zp za v1 v2 v3 : Int32) : Option (Int32 × List Int32 × List Int32 × List Int32 × List Int32 × List Int32 × List Int32 × List Int32 × List Int32 × List Int32 × List Int32 × List Int32 × Int32 × Int32 × Int32) :=
  (f_gatherLevel zh zi zc zb ze za v1 v2).bind fun (s79, s80) =>
  (f_sortLevel zl s80 s79).bind fun s81 =>
  f_matchLevel_13 (f_matchLevel_59 zh zi zl zm zj) zh zi zl zm zj 100000 zn zu zo zf zc zs zq zr s81 zg zd zb zp s80 v2 v3 (0 : Int32)
def f_matchIncoming_12 (zh zi : List Int32) (zl : List Int64) (zm zj : Int32) : Nat → List Int32 → List Int32 → List Int32 → List Int32 → List Int32 → List Int32 → List Int32 → List Int32 → List Int32 → List Int32 → List Int32 → Int32 → Int32 → Int32 → Int32 → Int32 → Int32 → Int32 → Int32 → Int32 → Option (Int32 × List Int32 × List Int32 × List Int32 × List Int32 × List Int32 × List Int32 × List Int32 × List Int32 × List Int32 × List Int32 × List Int32 × Int32 × Int32 × Int32)
  | 0, _, _, _, _, _, _, _, _, _, _, _, _, _, _, _, _, _, _, _, _ => none
  | n + 1, zn, zu, zo, zf, zc, zs, zq, zr, ze, zg, zd, zb, zp, za, v1, v2, v3, v5, v6, v7 =>
    if (64 : Int32) < v7 then
      some (v5, zn, zu, zo, zf, zc, zs, zq, zr, ze, zg, zd, zb, zp, za)
    else
      if (0 : Int32) < v5 then
        (f_bestOf zh zi zc zb v6).bind fun r98 =>
        if r98 = (0 : Int32) then
          some (v5, zn, zu, zo, zf, zc, zs, zq, zr, ze, zg, zd, zb, zp, za)
        else
          (f_crosses v2 v3 r98).bind fun r99 =>
          if r99 = (0 : Int32) then
            some (v5, zn, zu, zo, zf, zc, zs, zq, zr, ze, zg, zd, zb, zp, za)
          else
            (f_matchLevel zh zi zl zm zj zn zu zo zf zc zs zq zr ze zg zd zb zp za v6 r98 v5).bind fun (r100, s101, s102, s103, s104, s105, s106, s107, s108, s109, s110, s111, s112, s113, s114) =>
            if (0 : Int32) < r100 then
              (rdA s102 v1).bind fun x115 =>
              (wrA s102 v1 (x115 + r100)).bind fun A116 =>
              f_matchIncoming_12 zh zi zl zm zj n s101 A116 s103 s104 s105 s106 s107 s108 s109 s110 s111 s112 s113 s114 v1 v2 v3 (v5 - r100) v6 (v7 + (1 : Int32))
            else
              some (v5, s101, s102, s103, s104, s105, s106, s107, s108, s109, s110, s111, s112, s113, s114)
      else
        some (v5, zn, zu, zo, zf, zc, zs, zq, zr, ze, zg, zd, zb, zp, za)
def f_matchIncoming (zh zi : List Int32) (zl : List Int64) (zm zj : Int32) (zn zu zo zf zc zs zq zr ze zg zd : List Int32) (zb zp za v1 v2 v3 v4 : Int32) : Option (Int32 × List Int32 × List Int32 × List Int32 × List Int32 × List Int32 × List Int32 × List Int32 × List Int32 × List Int32 × List Int32 × List Int32 × Int32 × Int32 × Int32) :=
  f_matchIncoming_12 zh zi zl zm zj 100000 zn zu zo zf zc zs zq zr ze zg zd zb zp za v1 v2 v3 v4 ((1 : Int32) - v2) (0 : Int32)
def f_clearFlags_2 (zh zc : List Int32) (zb : Int32) : Nat → List Int32 → Int32 → Int32 → Option (List Int32)
  | 0, _, _, _ => none
  | n + 1, zf, v1, v2 =>
    if v2 < zb then
      (rdA zc v2).bind fun x117 =>
      (rdA zh x117).bind fun x118 =>
      if x118 = v1 then
        (wrA zf x117 (0 : Int32)).bind fun A119 =>
        f_clearFlags_2 zh zc zb n A119 v1 (v2 + (1 : Int32))
      else
        f_clearFlags_2 zh zc zb n zf v1 (v2 + (1 : Int32))
    else
      some zf
def f_clearFlags (zh zc : List Int32) (zb : Int32) (zf : List Int32) (v1 : Int32) : Option (List Int32) :=
  f_clearFlags_2 zh zc zb 100000 zf v1 (0 : Int32)
def f_finishIncoming_90 (zh zi zn zo : List Int32) (zl : List Int64) (zf zc : List Int32) (zt : Int64) (zb v1 v4 v7 : Int32) : Option (List Int32 × List Int32 × List Int64 × List Int32 × List Int32 × Int64 × Int32) :=
  (wrA zl v1 (zt + (1 : Int64))).bind fun A125 =>
  (wrA zn v1 v4).bind fun A126 =>
  (wrA zo v1 (1 : Int32)).bind fun A127 =>
  (wrA zf v1 (v7 &&& 1)).bind fun A128 =>
  (wrA zc zb v1).bind fun A129 =>
  some (A126, A127, A125, A128, A129, (zt + (1 : Int64)), (zb + (1 : Int32)))
def f_finishIncoming_78 (zh zi zn zo : List Int32) (zl : List Int64) (zf zc : List Int32) (zt : Int64) (zb v1 v2 v4 t0 : Int32) : Option (List Int32 × List Int32 × List Int64 × List Int32 × List Int32 × Int64 × Int32) :=
  if t0 = (0 : Int32) then
    f_finishIncoming_90 zh zi zn zo zl zf zc zt zb v1 v4 t0
  else
    (f_clearFlags zh zc zb zf v2).bind fun s124 =>
    f_finishIncoming_90 zh zi zn zo zl s124 zc zt zb v1 v4 t0
def f_finishIncoming_35 (zh zi zn zo : List Int32) (zl : List Int64) (zf zc : List Int32) (zt : Int64) (zb v1 : Int32) : Option (List Int32 × List Int32 × List Int64 × List Int32 × List Int32 × Int64 × Int32) :=
  (wrA zo v1 (4 : Int32)).bind fun A130 =>
  (wrA zn v1 (0 : Int32)).bind fun A131 =>
  some (A131, A130, zl, zf, zc, zt, zb)
def f_finishIncoming (zh zi zn zo : List Int32) (zl : List Int64) (zf zc : List Int32) (zt : Int64) (zb v1 v2 v3 v4 v5 : Int32) : Option (List Int32 × List Int32 × List Int64 × List Int32 × List Int32 × Int64 × Int32) :=
  if v4 = (0 : Int32) then
    (wrA zo v1 (2 : Int32)).bind fun A122 =>
    (wrA zn v1 (0 : Int32)).bind fun A123 =>
    some (A123, A122, zl, zf, zc, zt, zb)
  else
    if v5 = (1 : Int32) then
      f_finishIncoming_35 zh zi zn zo zl zf zc zt zb v1
    else
      if zb < (64 : Int32) then
        (f_bestOf zh zi zc zb v2).bind fun r120 =>
        if r120 = (0 : Int32) then
          f_finishIncoming_78 zh zi zn zo zl zf zc zt zb v1 v2 v4 (1 : Int32)
        else
          (f_better v2 v3 r120).bind fun r121 =>
          f_finishIncoming_78 zh zi zn zo zl zf zc zt zb v1 v2 v4 (if r121 = (0 : Int32) then (0 : Int32) else (1 : Int32))
      else
        f_finishIncoming_35 zh zi zn zo zl zf zc zt zb v1
def f_submit_55 (zm zj : Int32) (zh zi zn zu zo : List Int32) (zl : List Int64) (zf zc zs zq zr ze zg zd : List Int32) (zk : Int32) (zt : Int64) (zb zp za v1 v2 v3 v4 : Int32) : Option (Int32 × List Int32 × List Int32 × List Int32 × List Int32 × List Int32 × List Int64 × List Int32 × List Int32 × List Int32 × List Int32 × List Int32 × List Int32 × List Int32 × List Int32 × Int32 × Int64 × Int32 × Int32 × Int32) :=
  if zk < (255 : Int32) then
    (wrA zh (zk + (1 : Int32)) v1).bind fun A132 =>
    (wrA zi (zk + (1 : Int32)) v2).bind fun A133 =>
    (wrA zn (zk + (1 : Int32)) (0 : Int32)).bind fun A134 =>
    (wrA zu (zk + (1 : Int32)) (0 : Int32)).bind fun A135 =>
    (wrA zf (zk + (1 : Int32)) (0 : Int32)).bind fun A136 =>
    (wrA zl (zk + (1 : Int32)) (0 : Int64)).bind fun A137 =>
    (f_matchIncoming A132 A133 A137 zm zj A134 A135 zo A136 zc zs zq zr ze zg zd zb (0 : Int32) za (zk + (1 : Int32)) v1 v2 v3).bind fun (r138, s139, s140, s141, s142, s143, s144, s145, s146, s147, s148, s149, s150, s151, s152) =>
    (f_finishIncoming A132 A133 s139 s141 A137 s142 s143 zt s150 (zk + (1 : Int32)) v1 v2 r138 v4).bind fun (s153, s154, s155, s156, s157, s158, s159) =>
    some ((zk + (1 : Int32)), A132, A133, s153, s140, s154, s155, s156, s157, s144, s145, s146, s147, s148, s149, (zk + (1 : Int32)), s158, s159, s151, s152)
  else
    some ((-5 : Int32), zh, zi, zn, zu, zo, zl, zf, zc, zs, zq, zr, ze, zg, zd, zk, zt, zb, zp, za)
def f_submit_11 (zm zj : Int32) (zh zi zn zu zo : List Int32) (zl : List Int64) (zf zc zs zq zr ze zg zd : List Int32) (zk : Int32) (zt : Int64) (zb zp za v1 v2 v3 v4 : Int32) : Option (Int32 × List Int32 × List Int32 × List Int32 × List Int32 × List Int32 × List Int64 × List Int32 × List Int32 × List Int32 × List Int32 × List Int32 × List Int32 × List Int32 × List Int32 × Int32 × Int64 × Int32 × Int32 × Int32) :=
  if v2 < (1 : Int32) then
    some ((-2 : Int32), zh, zi, zn, zu, zo, zl, zf, zc, zs, zq, zr, ze, zg, zd, zk, zt, zb, zp, za)
  else
    if (1000 : Int32) < v2 then
      some ((-2 : Int32), zh, zi, zn, zu, zo, zl, zf, zc, zs, zq, zr, ze, zg, zd, zk, zt, zb, zp, za)
    else
      if v3 < (1 : Int32) then
        some ((-3 : Int32), zh, zi, zn, zu, zo, zl, zf, zc, zs, zq, zr, ze, zg, zd, zk, zt, zb, zp, za)
      else
        if (10000 : Int32) < v3 then
          some ((-3 : Int32), zh, zi, zn, zu, zo, zl, zf, zc, zs, zq, zr, ze, zg, zd, zk, zt, zb, zp, za)
        else
          if v4 = (0 : Int32) then
            f_submit_55 zm zj zh zi zn zu zo zl zf zc zs zq zr ze zg zd zk zt zb zp za v1 v2 v3 v4
          else
            if v4 = (1 : Int32) then
              f_submit_55 zm zj zh zi zn zu zo zl zf zc zs zq zr ze zg zd zk zt zb zp za v1 v2 v3 v4
            else
              some ((-4 : Int32), zh, zi, zn, zu, zo, zl, zf, zc, zs, zq, zr, ze, zg, zd, zk, zt, zb, zp, za)
def f_submit (zm zj : Int32) (zh zi zn zu zo : List Int32) (zl : List Int64) (zf zc zs zq zr ze zg zd : List Int32) (zk : Int32) (zt : Int64) (zb zp za v1 v2 v3 v4 : Int32) : Option (Int32 × List Int32 × List Int32 × List Int32 × List Int32 × List Int32 × List Int64 × List Int32 × List Int32 × List Int32 × List Int32 × List Int32 × List Int32 × List Int32 × List Int32 × Int32 × Int64 × Int32 × Int32 × Int32) :=
  if v1 = (0 : Int32) then
    f_submit_11 zm zj zh zi zn zu zo zl zf zc zs zq zr ze zg zd zk zt zb zp za v1 v2 v3 v4
  else
    if v1 = (1 : Int32) then
      f_submit_11 zm zj zh zi zn zu zo zl zf zc zs zq zr ze zg zd zk zt zb zp za v1 v2 v3 v4
    else
      some ((-1 : Int32), zh, zi, zn, zu, zo, zl, zf, zc, zs, zq, zr, ze, zg, zd, zk, zt, zb, zp, za)
def f_filled (zu : List Int32) (zk v1 : Int32) : Option (Int32) :=
  if v1 < (1 : Int32) then
    some (0 : Int32)
  else
    if zk < v1 then
      some (0 : Int32)
    else
      (rdA zu v1).bind fun x160 =>
      some x160
def f_fillId (zs : List Int32) (zp v1 : Int32) : Option (Int32) :=
  if v1 < (0 : Int32) then
    some (0 : Int32)
  else
    if v1 < zp then
      (rdA zs v1).bind fun x161 =>
      some x161
    else
      some (0 : Int32)
def f_fillQty (zq : List Int32) (zp v1 : Int32) : Option (Int32) :=
  if v1 < (0 : Int32) then
    some (0 : Int32)
  else
    if v1 < zp then
      (rdA zq v1).bind fun x162 =>
      some x162
    else
      some (0 : Int32)
def f_fillPrice (zr : List Int32) (zp v1 : Int32) : Option (Int32) :=
  if v1 < (0 : Int32) then
    some (0 : Int32)
  else
    if v1 < zp then
      (rdA zr v1).bind fun x163 =>
      some x163
    else
      some (0 : Int32)
def f_bestPrice_11 (zh zi zc : List Int32) (zb v1 : Int32) : Option (Int32) :=
  (f_bestOf zh zi zc zb v1).bind fun r164 =>
  some r164
def f_bestPrice (zh zi zc : List Int32) (zb v1 : Int32) : Option (Int32) :=
  if v1 = (0 : Int32) then
    f_bestPrice_11 zh zi zc zb v1
  else
    if v1 = (1 : Int32) then
      f_bestPrice_11 zh zi zc zb v1
    else
      some (0 : Int32)
def f_L_law_961 (kb : List Int32 → List Int32 → List Int32 → List Int32 → List Int32 → List Int64 → List Int32 → List Int32 → List Int32 → List Int32 → List Int32 → List Int32 → List Int32 → List Int32 → Int32 → Int32 → Int32 → Int64 → Int32 → Int32 → Int32 → Int32 → Int32 → Int32 → Option (Int32)) (scr zx zy zao zae zal : List Int32) (zam : List Int64) (zap zaj zac zad zab zaf zag zah : List Int32) (zv zw zz : Int32) (zan : Int64) (zak zaa zai v2 v3 v4 v25 : Int32) (t0 t1 : Int64) : Option (Int32) :=
  if t1 = (t0 + v25.toInt64) then
    kb zx zy zao zae zal zam zap zaj zac zad zab zaf zag zah zv zw zz zan zak zaa zai v2 v3 (v4 + (1 : Int32))
  else
    some (0 : Int32)
def f_L_law_934 (kb : List Int32 → List Int32 → List Int32 → List Int32 → List Int32 → List Int64 → List Int32 → List Int32 → List Int32 → List Int32 → List Int32 → List Int32 → List Int32 → List Int32 → Int32 → Int32 → Int32 → Int64 → Int32 → Int32 → Int32 → Int32 → Int32 → Int32 → Option (Int32)) (scr zx zy zao zae zal : List Int32) (zam : List Int64) (zap zaj zac zad zab zaf zag zah : List Int32) (zv zw zz : Int32) (zan : Int64) (zak zaa zai v2 v3 v4 : Int32) (v9 v11 : Int64) (v13 : Int32) (v22 : Int64) (v25 : Int32) (t0 t1 : Int64) : Option (Int32) :=
  if t1 = (t0 - v22) then
    (f_L_depth zx zy zao zaj zak v13).bind fun r232 =>
    f_L_law_961 kb scr zx zy zao zae zal zam zap zaj zac zad zab zaf zag zah zv zw zz zan zak zaa zai v2 v3 v4 v25 (if v13 = (0 : Int32) then v9 else v11) r232
  else
    some (0 : Int32)
def f_L_law_916 (kb : List Int32 → List Int32 → List Int32 → List Int32 → List Int32 → List Int64 → List Int32 → List Int32 → List Int32 → List Int32 → List Int32 → List Int32 → List Int32 → List Int32 → Int32 → Int32 → Int32 → Int64 → Int32 → Int32 → Int32 → Int32 → Int32 → Int32 → Option (Int32)) (scr zx zy zao zae zal : List Int32) (zam : List Int64) (zap zaj zac zad zab zaf zag zah : List Int32) (zv zw zz : Int32) (zan : Int64) (zak zaa zai v2 v3 v4 : Int32) (v9 v11 : Int64) (v13 v14 : Int32) (v22 : Int64) (v25 : Int32) : Option (Int32) :=
  (f_L_depth zx zy zao zaj zak v14).bind fun r231 =>
  f_L_law_934 kb scr zx zy zao zae zal zam zap zaj zac zad zab zaf zag zah zv zw zz zan zak zaa zai v2 v3 v4 v9 v11 v13 v22 v25 (if v14 = (0 : Int32) then v9 else v11) r231
def f_L_law_903 (kb : List Int32 → List Int32 → List Int32 → List Int32 → List Int32 → List Int64 → List Int32 → List Int32 → List Int32 → List Int32 → List Int32 → List Int32 → List Int32 → List Int32 → Int32 → Int32 → Int32 → Int64 → Int32 → Int32 → Int32 → Int32 → Int32 → Int32 → Option (Int32)) (scr zx zy zao zae zal : List Int32) (zam : List Int64) (zap zaj zac zad zab zaf zag zah : List Int32) (zv zw zz : Int32) (zan : Int64) (zak zaa zai v2 v3 v4 : Int32) (v9 v11 : Int64) (v13 v14 : Int32) (v22 : Int64) (v24 v25 : Int32) : Option (Int32) :=
  if v24 = (4 : Int32) then
    if v25 = (0 : Int32) then
      f_L_law_916 kb scr zx zy zao zae zal zam zap zaj zac zad zab zaf zag zah zv zw zz zan zak zaa zai v2 v3 v4 v9 v11 v13 v14 v22 v25
    else
      some (0 : Int32)
  else
    some (0 : Int32)
def f_L_law_868 (kb : List Int32 → List Int32 → List Int32 → List Int32 → List Int32 → List Int64 → List Int32 → List Int32 → List Int32 → List Int32 → List Int32 → List Int32 → List Int32 → List Int32 → Int32 → Int32 → Int32 → Int64 → Int32 → Int32 → Int32 → Int32 → Int32 → Int32 → Option (Int32)) (scr zx zy zao zae zal : List Int32) (zam : List Int64) (zap zaj zac zad zab zaf zag zah : List Int32) (zv zw zz : Int32) (zan : Int64) (zak zaa zai v2 v3 v4 : Int32) (v9 v11 : Int64) (v13 v14 v15 v17 v20 : Int32) (v22 : Int64) (v24 v25 : Int32) : Option (Int32) :=
  if v15 = (1 : Int32) then
    if v24 = (4 : Int32) then
      if v25 = (0 : Int32) then
        f_L_law_916 kb scr zx zy zao zae zal zam zap zaj zac zad zab zaf zag zah zv zw zz zan zak zaa zai v2 v3 v4 v9 v11 v13 v14 v22 v25
      else
        some (0 : Int32)
    else
      some (0 : Int32)
  else
    if v24 = (1 : Int32) then
      if v25 = (v17 - v20) then
        f_L_law_916 kb scr zx zy zao zae zal zam zap zaj zac zad zab zaf zag zah zv zw zz zan zak zaa zai v2 v3 v4 v9 v11 v13 v14 v22 v25
      else
        f_L_law_903 kb scr zx zy zao zae zal zam zap zaj zac zad zab zaf zag zah zv zw zz zan zak zaa zai v2 v3 v4 v9 v11 v13 v14 v22 v24 v25
    else
      f_L_law_903 kb scr zx zy zao zae zal zam zap zaj zac zad zab zaf zag zah zv zw zz zan zak zaa zai v2 v3 v4 v9 v11 v13 v14 v22 v24 v25
def f_L_law_777 (kb : List Int32 → List Int32 → List Int32 → List Int32 → List Int32 → List Int64 → List Int32 → List Int32 → List Int32 → List Int32 → List Int32 → List Int32 → List Int32 → List Int32 → Int32 → Int32 → Int32 → Int64 → Int32 → Int32 → Int32 → Int32 → Int32 → Int32 → Option (Int32)) (scr zx zy zao zae zal : List Int32) (zam : List Int64) (zap zaj zac zad zab zaf zag zah : List Int32) (zv zw zz : Int32) (zan : Int64) (zak zaa zai v2 v3 v4 : Int32) (v9 v11 : Int64) (v13 v14 v15 v16 v17 v19 v20 : Int32) (v22 : Int64) : Option (Int32) :=
  if v22 = v20.toInt64 then
    if v17 < v20 then
      some (0 : Int32)
    else
      (f_status zal zz v19).bind fun r228 =>
      (f_remaining zao zal zz v19).bind fun r229 =>
      if v20 = v17 then
        if r228 = (2 : Int32) then
          if r229 = (0 : Int32) then
            f_L_law_916 kb scr zx zy zao zae zal zam zap zaj zac zad zab zaf zag zah zv zw zz zan zak zaa zai v2 v3 v4 v9 v11 v13 v14 v22 r229
          else
            some (0 : Int32)
        else
          some (0 : Int32)
      else
        (f_bestPrice zx zy zaj zak v14).bind fun r230 =>
        if r230 = (0 : Int32) then
          f_L_law_868 kb scr zx zy zao zae zal zam zap zaj zac zad zab zaf zag zah zv zw zz zan zak zaa zai v2 v3 v4 v9 v11 v13 v14 v15 v17 v20 v22 r228 r229
        else
          if v13 = (0 : Int32) then
            if v16 < r230 then
              f_L_law_868 kb scr zx zy zao zae zal zam zap zaj zac zad zab zaf zag zah zv zw zz zan zak zaa zai v2 v3 v4 v9 v11 v13 v14 v15 v17 v20 v22 r228 r229
            else
              some (0 : Int32)
          else
            if r230 < v16 then
              f_L_law_868 kb scr zx zy zao zae zal zam zap zaj zac zad zab zaf zag zah zv zw zz zan zak zaa zai v2 v3 v4 v9 v11 v13 v14 v15 v17 v20 v22 r228 r229
            else
              some (0 : Int32)
  else
    some (0 : Int32)
def f_L_law_763 (kb : List Int32 → List Int32 → List Int32 → List Int32 → List Int32 → List Int64 → List Int32 → List Int32 → List Int32 → List Int32 → List Int32 → List Int32 → List Int32 → List Int32 → Int32 → Int32 → Int32 → Int64 → Int32 → Int32 → Int32 → Int32 → Int32 → Int32 → Int64 → Int64 → Int32 → Int32 → Int32 → Int32 → Int32 → Int32 → Int32 → Int32 → Int64 → Int32 → Option (Int32)) (k777 : List Int32 → List Int32 → List Int32 → List Int32 → List Int32 → List Int64 → List Int32 → List Int32 → List Int32 → List Int32 → List Int32 → List Int32 → List Int32 → List Int32 → Int32 → Int32 → Int32 → Int64 → Int32 → Int32 → Int32 → Int32 → Int32 → Int32 → Int64 → Int64 → Int32 → Int32 → Int32 → Int32 → Int32 → Int32 → Int32 → Int64 → Option (Int32)) (scr zx zy zao zae zal : List Int32) (zam : List Int64) (zap zaj zac zad zab zaf zag zah : List Int32) (zv zw zz : Int32) (zan : Int64) (zak zaa zai v2 v3 v4 : Int32) (v9 v11 : Int64) (v13 v14 v15 v16 v17 v19 v20 v21 : Int32) (v22 : Int64) (v24 v26 : Int32) : Option (Int32) :=
  kb zx zy zao zae zal zam zap zaj zac zad zab zaf zag zah zv zw zz zan zak zaa zai v2 v3 v4 v9 v11 v13 v14 v15 v16 v17 v19 v20 v21 (v22 + v26.toInt64) (v24 + (1 : Int32))
def f_L_law_727 (kb : List Int32 → List Int32 → List Int32 → List Int32 → List Int32 → List Int64 → List Int32 → List Int32 → List Int32 → List Int32 → List Int32 → List Int32 → List Int32 → List Int32 → Int32 → Int32 → Int32 → Int64 → Int32 → Int32 → Int32 → Int32 → Int32 → Int32 → Int64 → Int64 → Int32 → Int32 → Int32 → Int32 → Int32 → Int32 → Int32 → Int32 → Int64 → Int32 → Option (Int32)) (k777 : List Int32 → List Int32 → List Int32 → List Int32 → List Int32 → List Int64 → List Int32 → List Int32 → List Int32 → List Int32 → List Int32 → List Int32 → List Int32 → List Int32 → Int32 → Int32 → Int32 → Int64 → Int32 → Int32 → Int32 → Int32 → Int32 → Int32 → Int64 → Int64 → Int32 → Int32 → Int32 → Int32 → Int32 → Int32 → Int32 → Int64 → Option (Int32)) (scr zx zy zao zae zal : List Int32) (zam : List Int64) (zap zaj zac zad zab zaf zag zah : List Int32) (zv zw zz : Int32) (zan : Int64) (zak zaa zai v2 v3 v4 : Int32) (v9 v11 : Int64) (v13 v14 v15 v16 v17 v19 v20 v21 : Int32) (v22 : Int64) (v24 v26 v27 t0 : Int32) : Option (Int32) :=
  if t0 = (0 : Int32) then
    f_L_law_763 kb k777 scr zx zy zao zae zal zam zap zaj zac zad zab zaf zag zah zv zw zz zan zak zaa zai v2 v3 v4 v9 v11 v13 v14 v15 v16 v17 v19 v20 v21 v22 v24 v26
  else
    (f_depthAt zx zy zao zaj zak v14 v27).bind fun r227 =>
    if r227 = (0 : Int32) then
      f_L_law_763 kb k777 scr zx zy zao zae zal zam zap zaj zac zad zab zaf zag zah zv zw zz zan zak zaa zai v2 v3 v4 v9 v11 v13 v14 v15 v16 v17 v19 v20 v21 v22 v24 v26
    else
      if v24 = (v21 - (1 : Int32)) then
        if v20 = v17 then
          f_L_law_763 kb k777 scr zx zy zao zae zal zam zap zaj zac zad zab zaf zag zah zv zw zz zan zak zaa zai v2 v3 v4 v9 v11 v13 v14 v15 v16 v17 v19 v20 v21 v22 v24 v26
        else
          some (0 : Int32)
      else
        some (0 : Int32)
def f_L_law_700 (kb : List Int32 → List Int32 → List Int32 → List Int32 → List Int32 → List Int64 → List Int32 → List Int32 → List Int32 → List Int32 → List Int32 → List Int32 → List Int32 → List Int32 → Int32 → Int32 → Int32 → Int64 → Int32 → Int32 → Int32 → Int32 → Int32 → Int32 → Int64 → Int64 → Int32 → Int32 → Int32 → Int32 → Int32 → Int32 → Int32 → Int32 → Int64 → Int32 → Option (Int32)) (k777 : List Int32 → List Int32 → List Int32 → List Int32 → List Int32 → List Int64 → List Int32 → List Int32 → List Int32 → List Int32 → List Int32 → List Int32 → List Int32 → List Int32 → Int32 → Int32 → Int32 → Int64 → Int32 → Int32 → Int32 → Int32 → Int32 → Int32 → Int64 → Int64 → Int32 → Int32 → Int32 → Int32 → Int32 → Int32 → Int32 → Int64 → Option (Int32)) (scr zx zy zao zae zal : List Int32) (zam : List Int64) (zap zaj zac zad zab zaf zag zah : List Int32) (zv zw zz : Int32) (zan : Int64) (zak zaa zai v2 v3 v4 : Int32) (v9 v11 : Int64) (v13 v14 v15 v16 v17 v19 v20 v21 : Int32) (v22 : Int64) (v24 v26 v27 : Int32) : Option (Int32) :=
  if v24 = (v21 - (1 : Int32)) then
    f_L_law_727 kb k777 scr zx zy zao zae zal zam zap zaj zac zad zab zaf zag zah zv zw zz zan zak zaa zai v2 v3 v4 v9 v11 v13 v14 v15 v16 v17 v19 v20 v21 v22 v24 v26 v27 (1 : Int32)
  else
    (f_fillPrice zab zaa (v24 + (1 : Int32))).bind fun r226 =>
    f_L_law_727 kb k777 scr zx zy zao zae zal zam zap zaj zac zad zab zaf zag zah zv zw zz zan zak zaa zai v2 v3 v4 v9 v11 v13 v14 v15 v16 v17 v19 v20 v21 v22 v24 v26 v27 (if r226 = v27 then (0 : Int32) else (1 : Int32))
def f_L_law_666 (kb : List Int32 → List Int32 → List Int32 → List Int32 → List Int32 → List Int64 → List Int32 → List Int32 → List Int32 → List Int32 → List Int32 → List Int32 → List Int32 → List Int32 → Int32 → Int32 → Int32 → Int64 → Int32 → Int32 → Int32 → Int32 → Int32 → Int32 → Int64 → Int64 → Int32 → Int32 → Int32 → Int32 → Int32 → Int32 → Int32 → Int32 → Int64 → Int32 → Option (Int32)) (k777 : List Int32 → List Int32 → List Int32 → List Int32 → List Int32 → List Int64 → List Int32 → List Int32 → List Int32 → List Int32 → List Int32 → List Int32 → List Int32 → List Int32 → Int32 → Int32 → Int32 → Int64 → Int32 → Int32 → Int32 → Int32 → Int32 → Int32 → Int64 → Int64 → Int32 → Int32 → Int32 → Int32 → Int32 → Int32 → Int32 → Int64 → Option (Int32)) (scr zx zy zao zae zal : List Int32) (zam : List Int64) (zap zaj zac zad zab zaf zag zah : List Int32) (zv zw zz : Int32) (zan : Int64) (zak zaa zai v2 v3 v4 : Int32) (v9 v11 : Int64) (v13 v14 v15 v16 v17 v19 v20 v21 : Int32) (v22 : Int64) (v24 v25 v26 v27 : Int32) : Option (Int32) :=
  (f_status zal zz v25).bind fun r224 =>
  (f_remaining zao zal zz v25).bind fun r225 =>
  if r225 = (0 : Int32) then
    if r224 = (2 : Int32) then
      f_L_law_700 kb k777 scr zx zy zao zae zal zam zap zaj zac zad zab zaf zag zah zv zw zz zan zak zaa zai v2 v3 v4 v9 v11 v13 v14 v15 v16 v17 v19 v20 v21 v22 v24 v26 v27
    else
      some (0 : Int32)
  else
    if r224 = (1 : Int32) then
      f_L_law_700 kb k777 scr zx zy zao zae zal zam zap zaj zac zad zab zaf zag zah zv zw zz zan zak zaa zai v2 v3 v4 v9 v11 v13 v14 v15 v16 v17 v19 v20 v21 v22 v24 v26 v27
    else
      some (0 : Int32)
def f_L_law_640 (k666 : List Int32 → List Int32 → List Int32 → List Int32 → List Int32 → List Int64 → List Int32 → List Int32 → List Int32 → List Int32 → List Int32 → List Int32 → List Int32 → List Int32 → Int32 → Int32 → Int32 → Int64 → Int32 → Int32 → Int32 → Int32 → Int32 → Int32 → Int64 → Int64 → Int32 → Int32 → Int32 → Int32 → Int32 → Int32 → Int32 → Int32 → Int64 → Int32 → Int32 → Int32 → Int32 → Option (Int32)) (scr : List Int32) : Nat → List Int32 → List Int32 → List Int32 → List Int32 → List Int32 → List Int64 → List Int32 → List Int32 → List Int32 → List Int32 → List Int32 → List Int32 → List Int32 → List Int32 → Int32 → Int32 → Int32 → Int64 → Int32 → Int32 → Int32 → Int32 → Int32 → Int32 → Int64 → Int64 → Int32 → Int32 → Int32 → Int32 → Int32 → Int32 → Int32 → Int32 → Int64 → Int32 → Int32 → Int32 → Int32 → Int32 → Option (Int32)
  | 0, _, _, _, _, _, _, _, _, _, _, _, _, _, _, _, _, _, _, _, _, _, _, _, _, _, _, _, _, _, _, _, _, _, _, _, _, _, _, _, _ => none
  | n + 1, zx, zy, zao, zae, zal, zam, zap, zaj, zac, zad, zab, zaf, zag, zah, zv, zw, zz, zan, zak, zaa, zai, v2, v3, v4, v9, v11, v13, v14, v15, v16, v17, v19, v20, v21, v22, v24, v25, v26, v27, v28 =>
    if v28 < v24 then
      (f_fillId zac zaa v28).bind fun r223 =>
      if r223 = v25 then
        some (0 : Int32)
      else
        f_L_law_640 k666 scr n zx zy zao zae zal zam zap zaj zac zad zab zaf zag zah zv zw zz zan zak zaa zai v2 v3 v4 v9 v11 v13 v14 v15 v16 v17 v19 v20 v21 v22 v24 v25 v26 v27 (v28 + (1 : Int32))
    else
      k666 zx zy zao zae zal zam zap zaj zac zad zab zaf zag zah zv zw zz zan zak zaa zai v2 v3 v4 v9 v11 v13 v14 v15 v16 v17 v19 v20 v21 v22 v24 v25 v26 v27
def f_L_law_598 (kb : List Int32 → List Int32 → List Int32 → List Int32 → List Int32 → List Int64 → List Int32 → List Int32 → List Int32 → List Int32 → List Int32 → List Int32 → List Int32 → List Int32 → Int32 → Int32 → Int32 → Int64 → Int32 → Int32 → Int32 → Int32 → Int32 → Int32 → Int64 → Int64 → Int32 → Int32 → Int32 → Int32 → Int32 → Int32 → Int32 → Int32 → Int64 → Int32 → Option (Int32)) (k777 : List Int32 → List Int32 → List Int32 → List Int32 → List Int32 → List Int64 → List Int32 → List Int32 → List Int32 → List Int32 → List Int32 → List Int32 → List Int32 → List Int32 → Int32 → Int32 → Int32 → Int64 → Int32 → Int32 → Int32 → Int32 → Int32 → Int32 → Int64 → Int64 → Int32 → Int32 → Int32 → Int32 → Int32 → Int32 → Int32 → Int64 → Option (Int32)) (scr zx zy zao zae zal : List Int32) (zam : List Int64) (zap zaj zac zad zab zaf zag zah : List Int32) (zv zw zz : Int32) (zan : Int64) (zak zaa zai v2 v3 v4 : Int32) (v9 v11 : Int64) (v13 v14 v15 v16 v17 v19 v20 v21 : Int32) (v22 : Int64) (v24 v25 v26 v27 : Int32) : Option (Int32) :=
  if (0 : Int32) < v24 then
    (f_fillPrice zab zaa (v24 - (1 : Int32))).bind fun r222 =>
    if v13 = (0 : Int32) then
      if v27 < r222 then
        some (0 : Int32)
      else
        f_L_law_640 (f_L_law_666 kb k777 scr) scr 100000 zx zy zao zae zal zam zap zaj zac zad zab zaf zag zah zv zw zz zan zak zaa zai v2 v3 v4 v9 v11 v13 v14 v15 v16 v17 v19 v20 v21 v22 v24 v25 v26 v27 (0 : Int32)
    else
      if r222 < v27 then
        some (0 : Int32)
      else
        f_L_law_640 (f_L_law_666 kb k777 scr) scr 100000 zx zy zao zae zal zam zap zaj zac zad zab zaf zag zah zv zw zz zan zak zaa zai v2 v3 v4 v9 v11 v13 v14 v15 v16 v17 v19 v20 v21 v22 v24 v25 v26 v27 (0 : Int32)
  else
    f_L_law_640 (f_L_law_666 kb k777 scr) scr 100000 zx zy zao zae zal zam zap zaj zac zad zab zaf zag zah zv zw zz zan zak zaa zai v2 v3 v4 v9 v11 v13 v14 v15 v16 v17 v19 v20 v21 v22 v24 v25 v26 v27 (0 : Int32)
def f_L_law_522 (k777 : List Int32 → List Int32 → List Int32 → List Int32 → List Int32 → List Int64 → List Int32 → List Int32 → List Int32 → List Int32 → List Int32 → List Int32 → List Int32 → List Int32 → Int32 → Int32 → Int32 → Int64 → Int32 → Int32 → Int32 → Int32 → Int32 → Int32 → Int64 → Int64 → Int32 → Int32 → Int32 → Int32 → Int32 → Int32 → Int32 → Int64 → Option (Int32)) (scr : List Int32) : Nat → List Int32 → List Int32 → List Int32 → List Int32 → List Int32 → List Int64 → List Int32 → List Int32 → List Int32 → List Int32 → List Int32 → List Int32 → List Int32 → List Int32 → Int32 → Int32 → Int32 → Int64 → Int32 → Int32 → Int32 → Int32 → Int32 → Int32 → Int64 → Int64 → Int32 → Int32 → Int32 → Int32 → Int32 → Int32 → Int32 → Int32 → Int64 → Int32 → Option (Int32)
  | 0, _, _, _, _, _, _, _, _, _, _, _, _, _, _, _, _, _, _, _, _, _, _, _, _, _, _, _, _, _, _, _, _, _, _, _, _ => none
  | n + 1, zx, zy, zao, zae, zal, zam, zap, zaj, zac, zad, zab, zaf, zag, zah, zv, zw, zz, zan, zak, zaa, zai, v2, v3, v4, v9, v11, v13, v14, v15, v16, v17, v19, v20, v21, v22, v24 =>
    if v24 < v21 then
      (f_fillId zac zaa v24).bind fun r219 =>
      (f_fillQty zad zaa v24).bind fun r220 =>
      (f_fillPrice zab zaa v24).bind fun r221 =>
      if r220 < (1 : Int32) then
        some (0 : Int32)
      else
        if r219 < (1 : Int32) then
          some (0 : Int32)
        else
          if r219 < v19 then
            if v13 = (0 : Int32) then
              if v16 < r221 then
                some (0 : Int32)
              else
                f_L_law_598 (f_L_law_522 k777 scr n) k777 scr zx zy zao zae zal zam zap zaj zac zad zab zaf zag zah zv zw zz zan zak zaa zai v2 v3 v4 v9 v11 v13 v14 v15 v16 v17 v19 v20 v21 v22 v24 r219 r220 r221
            else
              if r221 < v16 then
                some (0 : Int32)
              else
                f_L_law_598 (f_L_law_522 k777 scr n) k777 scr zx zy zao zae zal zam zap zaj zac zad zab zaf zag zah zv zw zz zan zak zaa zai v2 v3 v4 v9 v11 v13 v14 v15 v16 v17 v19 v20 v21 v22 v24 r219 r220 r221
          else
            some (0 : Int32)
    else
      k777 zx zy zao zae zal zam zap zaj zac zad zab zaf zag zah zv zw zz zan zak zaa zai v2 v3 v4 v9 v11 v13 v14 v15 v16 v17 v19 v20 v22
def f_L_law_403 (kb : List Int32 → List Int32 → List Int32 → List Int32 → List Int32 → List Int64 → List Int32 → List Int32 → List Int32 → List Int32 → List Int32 → List Int32 → List Int32 → List Int32 → Int32 → Int32 → Int32 → Int64 → Int32 → Int32 → Int32 → Int32 → Int32 → Int32 → Option (Int32)) (scr zx zy zao zae zal : List Int32) (zam : List Int64) (zap zaj zac zad zab zaf zag zah : List Int32) (zv zw zz : Int32) (zan : Int64) (zak zaa zai v2 v3 v4 v6 v7 : Int32) (v9 v11 : Int64) (v13 v14 t0 : Int32) : Option (Int32) :=
  (f_fillCount zaa).bind fun r193 =>
  (f_submit zv zw zx zy zao zae zal zam zap zaj zac zad zab zaf zag zah zz zan zak zaa zai v13 ((100 : Int32) + (v6 % (8 : Int32))) ((1 : Int32) + (v7 % (100 : Int32))) t0).bind fun (r194, s195, s196, s197, s198, s199, s200, s201, s202, s203, s204, s205, s206, s207, s208, s209, s210, s211, s212, s213) =>
  if v2 = (255 : Int32) then
    if r194 = (-5 : Int32) then
      (f_L_depth s195 s196 s197 s202 s211 (0 : Int32)).bind fun r216 =>
      if r216 = v9 then
        (f_L_depth s195 s196 s197 s202 s211 (1 : Int32)).bind fun r217 =>
        if r217 = v11 then
          (f_fillCount s212).bind fun r218 =>
          if r218 = r193 then
            kb s195 s196 s197 s198 s199 s200 s201 s202 s203 s204 s205 s206 s207 s208 zv zw s209 s210 s211 s212 s213 v2 v3 (v4 + (1 : Int32))
          else
            some (0 : Int32)
        else
          some (0 : Int32)
      else
        some (0 : Int32)
    else
      some (0 : Int32)
  else
    if r194 = (v2 + (1 : Int32)) then
      (f_filled s198 s209 r194).bind fun r214 =>
      (f_fillCount s212).bind fun r215 =>
      f_L_law_522 (f_L_law_777 kb scr) scr 100000 s195 s196 s197 s198 s199 s200 s201 s202 s203 s204 s205 s206 s207 s208 zv zw s209 s210 s211 s212 s213 (v2 + (1 : Int32)) v3 v4 v9 v11 v13 v14 t0 ((100 : Int32) + (v6 % (8 : Int32))) ((1 : Int32) + (v7 % (100 : Int32))) r194 r214 r215 (0 : Int64) (0 : Int32)
    else
      some (0 : Int32)
def f_L_law_158 (kb : List Int32 → List Int32 → List Int32 → List Int32 → List Int32 → List Int64 → List Int32 → List Int32 → List Int32 → List Int32 → List Int32 → List Int32 → List Int32 → List Int32 → Int32 → Int32 → Int32 → Int64 → Int32 → Int32 → Int32 → Int32 → Int32 → Int32 → Option (Int32)) (scr zx zy zao zae zal : List Int32) (zam : List Int64) (zap zaj zac zad zab zaf zag zah : List Int32) (zv zw zz : Int32) (zan : Int64) (zak zaa zai v2 v3 v4 v7 v8 : Int32) (v9 v11 : Int64) (v13 v15 t0 : Int32) : Option (Int32) :=
  if v8 = (5 : Int32) then
    (f_cancel zz zao zal zap zaj zak v13).bind fun (r246, s247, s248, s249, s250, s251) =>
    if t0 = (0 : Int32) then
      if r246 = (-6 : Int32) then
        (f_L_depth zx zy s247 s250 s251 (0 : Int32)).bind fun r252 =>
        if r252 = v9 then
          (f_L_depth zx zy s247 s250 s251 (1 : Int32)).bind fun r253 =>
          if r253 = v11 then
            kb zx zy s247 zae s248 zam s249 s250 zac zad zab zaf zag zah zv zw zz zan s251 zaa zai v2 v3 (v4 + (1 : Int32))
          else
            some (0 : Int32)
        else
          some (0 : Int32)
      else
        some (0 : Int32)
    else
      if r246 = (0 : Int32) then
        (f_status s248 zz v13).bind fun r254 =>
        if r254 = (3 : Int32) then
          (f_remaining s247 s248 zz v13).bind fun r255 =>
          if r255 = (0 : Int32) then
            (f_L_depth zx zy s247 s250 s251 (0 : Int32)).bind fun r256 =>
            (f_L_depth zx zy s247 s250 s251 (1 : Int32)).bind fun r257 =>
            if (r256 + r257) = ((v9 + v11) - v15.toInt64) then
              kb zx zy s247 zae s248 zam s249 s250 zac zad zab zaf zag zah zv zw zz zan s251 zaa zai v2 v3 (v4 + (1 : Int32))
            else
              some (0 : Int32)
          else
            some (0 : Int32)
        else
          some (0 : Int32)
      else
        some (0 : Int32)
  else
    (f_amend zal zz zao zam zap zan v13 ((1 : Int32) + (v7 % (64 : Int32)))).bind fun (r235, s236, s237, s238, s239) =>
    if t0 = (0 : Int32) then
      if r235 = (-6 : Int32) then
        (f_L_depth zx zy s236 zaj zak (0 : Int32)).bind fun r240 =>
        if r240 = v9 then
          (f_L_depth zx zy s236 zaj zak (1 : Int32)).bind fun r241 =>
          if r241 = v11 then
            kb zx zy s236 zae zal s237 s238 zaj zac zad zab zaf zag zah zv zw zz s239 zak zaa zai v2 v3 (v4 + (1 : Int32))
          else
            some (0 : Int32)
        else
          some (0 : Int32)
      else
        some (0 : Int32)
    else
      if r235 = (0 : Int32) then
        (f_status zal zz v13).bind fun r242 =>
        if r242 = (1 : Int32) then
          (f_remaining s236 zal zz v13).bind fun r243 =>
          if r243 = ((1 : Int32) + (v7 % (64 : Int32))) then
            (f_L_depth zx zy s236 zaj zak (0 : Int32)).bind fun r244 =>
            (f_L_depth zx zy s236 zaj zak (1 : Int32)).bind fun r245 =>
            if (r244 + r245) = (((v9 + v11) - v15.toInt64) + ((1 : Int32) + (v7 % (64 : Int32))).toInt64) then
              kb zx zy s236 zae zal s237 s238 zaj zac zad zab zaf zag zah zv zw zz s239 zak zaa zai v2 v3 (v4 + (1 : Int32))
            else
              some (0 : Int32)
          else
            some (0 : Int32)
        else
          some (0 : Int32)
      else
        some (0 : Int32)
def f_L_law_121 (kb : List Int32 → List Int32 → List Int32 → List Int32 → List Int32 → List Int64 → List Int32 → List Int32 → List Int32 → List Int32 → List Int32 → List Int32 → List Int32 → List Int32 → Int32 → Int32 → Int32 → Int64 → Int32 → Int32 → Int32 → Int32 → Int32 → Int32 → Option (Int32)) (scr zx zy zao zae zal : List Int32) (zam : List Int64) (zap zaj zac zad zab zaf zag zah : List Int32) (zv zw zz : Int32) (zan : Int64) (zak zaa zai v2 v3 v4 v6 v7 v8 : Int32) (v9 v11 : Int64) : Option (Int32) :=
  if (v2 + (1 : Int32)) = 0 then none else
  (f_status zal zz ((1 : Int32) + (v6 % (v2 + (1 : Int32))))).bind fun r233 =>
  (f_remaining zao zal zz ((1 : Int32) + (v6 % (v2 + (1 : Int32))))).bind fun r234 =>
  f_L_law_158 kb scr zx zy zao zae zal zam zap zaj zac zad zab zaf zag zah zv zw zz zan zak zaa zai v2 v3 v4 v7 v8 v9 v11 ((1 : Int32) + (v6 % (v2 + (1 : Int32)))) r234 (if r233 = (1 : Int32) then (1 : Int32) else (0 : Int32))
def f_L_law_36 (scr : List Int32) : Nat → List Int32 → List Int32 → List Int32 → List Int32 → List Int32 → List Int64 → List Int32 → List Int32 → List Int32 → List Int32 → List Int32 → List Int32 → List Int32 → List Int32 → Int32 → Int32 → Int32 → Int64 → Int32 → Int32 → Int32 → Int32 → Int32 → Int32 → Option (Int32)
  | 0, _, _, _, _, _, _, _, _, _, _, _, _, _, _, _, _, _, _, _, _, _, _, _, _ => none
  | n + 1, zx, zy, zao, zae, zal, zam, zap, zaj, zac, zad, zab, zaf, zag, zah, zv, zw, zz, zan, zak, zaa, zai, v2, v3, v4 =>
    if v4 < v3 then
      (f_L_cell scr ((2 : Int32) + ((3 : Int32) * v4))).bind fun r188 =>
      (f_L_cell scr ((3 : Int32) + ((3 : Int32) * v4))).bind fun r189 =>
      (f_L_cell scr ((4 : Int32) + ((3 : Int32) * v4))).bind fun r190 =>
      (f_L_depth zx zy zao zaj zak (0 : Int32)).bind fun r191 =>
      (f_L_depth zx zy zao zaj zak (1 : Int32)).bind fun r192 =>
      if ((r188 &&& (2147483647 : Int32)) % (8 : Int32)) = (5 : Int32) then
        f_L_law_121 (f_L_law_36 scr n) scr zx zy zao zae zal zam zap zaj zac zad zab zaf zag zah zv zw zz zan zak zaa zai v2 v3 v4 (r189 &&& (2147483647 : Int32)) (r190 &&& (2147483647 : Int32)) ((r188 &&& (2147483647 : Int32)) % (8 : Int32)) r191 r192
      else
        if ((r188 &&& (2147483647 : Int32)) % (8 : Int32)) = (6 : Int32) then
          f_L_law_121 (f_L_law_36 scr n) scr zx zy zao zae zal zam zap zaj zac zad zab zaf zag zah zv zw zz zan zak zaa zai v2 v3 v4 (r189 &&& (2147483647 : Int32)) (r190 &&& (2147483647 : Int32)) ((r188 &&& (2147483647 : Int32)) % (8 : Int32)) r191 r192
        else
          f_L_law_403 (f_L_law_36 scr n) scr zx zy zao zae zal zam zap zaj zac zad zab zaf zag zah zv zw zz zan zak zaa zai v2 v3 v4 (r189 &&& (2147483647 : Int32)) (r190 &&& (2147483647 : Int32)) r191 r192 (((r188 &&& (2147483647 : Int32)) >>> ((3 : Int32) &&& 31)) &&& (1 : Int32)) ((1 : Int32) - (((r188 &&& (2147483647 : Int32)) >>> ((3 : Int32) &&& 31)) &&& (1 : Int32))) (if ((r188 &&& (2147483647 : Int32)) % (8 : Int32)) = (7 : Int32) then (1 : Int32) else (0 : Int32))
    else
      some (1 : Int32)
def f_L_law (scr : List Int32) : Option (Int32) :=
  (f_L_cell scr (0 : Int32)).bind fun r165 =>
  (f_L_cell scr (1 : Int32)).bind fun r166 =>
  (f_init ((1 : Int32) + (r165 &&& (7 : Int32))) (r166 &&& (31 : Int32))).bind fun (s167, s168, s169, s170, s171, s172, s173, s174, s175, s176, s177, s178, s179, s180, s181, s182, s183, s184, s185, s186, s187) =>
  f_L_law_36 scr 100000 s167 s168 s169 s170 s171 s172 s173 s174 s175 s176 s177 s178 s179 s180 s181 s182 s183 s184 s185 s186 s187 (0 : Int32) (scr.length.toInt32 / (3 : Int32)) (0 : Int32)
set_option maxHeartbeats 4000000
set_option maxRecDepth 10000
abbrev qi (x : Int32) : Slot := .val (.int x)
abbrev ql (x : Int64) : Slot := .val (.long x)
abbrev qr (x : Nat) : Slot := .val (.ref x)
abbrev qu : Slot := .unset
abbrev qw : Slot := .second
abbrev qa (l : List Int32) : ACell := .inr (.inl (false, l))
theorem ok_L_cell {scr : List Int32} {po : List ACell} {v1 res : Int32} (h : f_L_cell scr v1 = some res) : OEnds own_P 1 0 [qr 0, qi v1] [] (qa scr :: po) (some (.int res), (qa scr :: po), 0, 0) := by
  unfold f_L_cell at h
  refine OEnds.adv hm_1 3 (pc' := 3) (L' := [qr 0, qi v1]) (S' := [.int scr.length.toInt32, .int v1]) (H' := (qa scr :: po)) rfl ?_
  by_cases hc1 : v1 < scr.length.toInt32
  · simp only [if_pos hc1] at h
    refine OEnds.icmpF hm_1 rfl ((tlt hc1).2.1) ?_
    refine OEnds.adv hm_1 2 (pc' := 8) (L' := [qr 0, qi v1]) (S' := [.int v1, .ref 0]) (H' := (qa scr :: po)) rfl ?_
    obtain ⟨x1, hx1, h⟩ := bnd h
    refine OEnds.plain hm_1 rfl rfl (x_iaload rfl hx1) ?_
    refine OEnds.adv hm_1 1 (pc' := 13) (L' := [qr 0, qi v1]) (S' := [.int x1]) (H' := (qa scr :: po)) rfl ?_
    cases h
    exact OEnds.iret hm_1 rfl rfl
  · simp only [if_neg hc1] at h
    refine OEnds.icmpT hm_1 rfl (q := 12) rfl ((flt hc1).2.1) ?_
    refine OEnds.adv hm_1 1 (pc' := 13) (L' := [qr 0, qi v1]) (S' := [.int 0]) (H' := (qa scr :: po)) rfl ?_
    cases h
    exact OEnds.iret hm_1 rfl rfl
theorem ok_init_165 {c0 : ACell} : ∀ {zh zi zn zu zo : List Int32} {zl : List Int64} {zf zc zs zq zr ze zg zd : List Int32} {zm zj zk : Int32} {zt : Int64} {zb zp za v3 v4 : Int32} {d1 d2 : Slot} {w_o_oSide w_o_oPrice w_o_oRem w_o_oFilled w_o_oStatus : List Int32} {w_o_oStamp : List Int64} {w_o_oTop w_o_restIds w_o_fIds w_o_fQty w_o_fPrice w_o_lvlIds w_o_lvlR w_o_lvlA : List Int32} {w_o_minAlloc w_o_topCap w_o_accepted : Int32} {w_o_stampCounter : Int64} {w_o_restN w_o_fN : Int32} {w_o_lvlN : Int32}, f_init_165 zh zi zn zu zo zl zf zc zs zq zr ze zg zd zm zj zk zt zb zp za v3 v4 = some (w_o_oSide, w_o_oPrice, w_o_oRem, w_o_oFilled, w_o_oStatus, w_o_oStamp, w_o_oTop, w_o_restIds, w_o_fIds, w_o_fQty, w_o_fPrice, w_o_lvlIds, w_o_lvlR, w_o_lvlA, w_o_minAlloc, w_o_topCap, w_o_accepted, w_o_stampCounter, w_o_restN, w_o_fN, w_o_lvlN) → OEnds own_P 2 165 [qr 1, d1, d2, qi v3, qi v4] [] (c0 :: bk0 zh zi zn zu zo zl zf zc zs zq zr ze zg zd zm zj zk zt zb zp za []) (none, (c0 :: bk0 w_o_oSide w_o_oPrice w_o_oRem w_o_oFilled w_o_oStatus w_o_oStamp w_o_oTop w_o_restIds w_o_fIds w_o_fQty w_o_fPrice w_o_lvlIds w_o_lvlR w_o_lvlA w_o_minAlloc w_o_topCap w_o_accepted w_o_stampCounter w_o_restN w_o_fN w_o_lvlN []), 0, 0) := by
  intro zh zi zn zu zo zl zf zc zs zq zr ze zg zd zm zj zk zt zb zp za v3 v4 d1 d2 w_o_oSide w_o_oPrice w_o_oRem w_o_oFilled w_o_oStatus w_o_oStamp w_o_oTop w_o_restIds w_o_fIds w_o_fQty w_o_fPrice w_o_lvlIds w_o_lvlR w_o_lvlA w_o_minAlloc w_o_topCap w_o_accepted w_o_stampCounter w_o_restN w_o_fN w_o_lvlN h
  unfold f_init_165 at h
  refine OEnds.adv hm_2 21 (pc' := 201) (L' := [qr 1, qu, qu, qi v3, qi v4]) (S' := []) (H' := (c0 :: bk0 zh zi zn zu zo zl zf zc zs zq zr ze zg zd v3 v4 0 0 0 0 0 [])) rfl ?_
  cases h
  exact OEnds.vret hm_2 rfl rfl
theorem ok_init_152 {c0 : ACell} : ∀ {zh zi zn zu zo : List Int32} {zl : List Int64} {zf zc zs zq zr ze zg zd : List Int32} {zm zj zk : Int32} {zt : Int64} {zb zp za v3 v4 : Int32} {d1 d2 : Slot} {w_o_oSide w_o_oPrice w_o_oRem w_o_oFilled w_o_oStatus : List Int32} {w_o_oStamp : List Int64} {w_o_oTop w_o_restIds w_o_fIds w_o_fQty w_o_fPrice w_o_lvlIds w_o_lvlR w_o_lvlA : List Int32} {w_o_minAlloc w_o_topCap w_o_accepted : Int32} {w_o_stampCounter : Int64} {w_o_restN w_o_fN : Int32} {w_o_lvlN : Int32}, f_init_152 zh zi zn zu zo zl zf zc zs zq zr ze zg zd zm zj zk zt zb zp za v3 v4 = some (w_o_oSide, w_o_oPrice, w_o_oRem, w_o_oFilled, w_o_oStatus, w_o_oStamp, w_o_oTop, w_o_restIds, w_o_fIds, w_o_fQty, w_o_fPrice, w_o_lvlIds, w_o_lvlR, w_o_lvlA, w_o_minAlloc, w_o_topCap, w_o_accepted, w_o_stampCounter, w_o_restN, w_o_fN, w_o_lvlN) → OEnds own_P 2 152 [qr 1, d1, d2, qi v3, qi v4] [] (c0 :: bk0 zh zi zn zu zo zl zf zc zs zq zr ze zg zd zm zj zk zt zb zp za []) (none, (c0 :: bk0 w_o_oSide w_o_oPrice w_o_oRem w_o_oFilled w_o_oStatus w_o_oStamp w_o_oTop w_o_restIds w_o_fIds w_o_fQty w_o_fPrice w_o_lvlIds w_o_lvlR w_o_lvlA w_o_minAlloc w_o_topCap w_o_accepted w_o_stampCounter w_o_restN w_o_fN w_o_lvlN []), 0, 0) := by
  intro zh zi zn zu zo zl zf zc zs zq zr ze zg zd zm zj zk zt zb zp za v3 v4 d1 d2 w_o_oSide w_o_oPrice w_o_oRem w_o_oFilled w_o_oStatus w_o_oStamp w_o_oTop w_o_restIds w_o_fIds w_o_fQty w_o_fPrice w_o_lvlIds w_o_lvlR w_o_lvlA w_o_minAlloc w_o_topCap w_o_accepted w_o_stampCounter w_o_restN w_o_fN w_o_lvlN h
  unfold f_init_152 at h
  refine OEnds.adv hm_2 2 (pc' := 157) (L' := [qr 1, qu, qu, qi v3, qi v4]) (S' := [.int 10000, .int v4]) (H' := (c0 :: bk0 zh zi zn zu zo zl zf zc zs zq zr ze zg zd zm zj zk zt zb zp za [])) rfl ?_
  by_cases hc2 : (10000 : Int32) < v4
  · simp only [if_pos hc2] at h
    refine OEnds.icmpF hm_2 rfl ((tlt hc2).2.2.2) ?_
    refine OEnds.adv hm_2 2 (pc' := 165) (L' := [qr 1, qu, qu, qi v3, qi 10000]) (S' := []) (H' := (c0 :: bk0 zh zi zn zu zo zl zf zc zs zq zr ze zg zd zm zj zk zt zb zp za [])) rfl ?_
    exact ok_init_165 h
  · simp only [if_neg hc2] at h
    refine OEnds.icmpT hm_2 rfl (q := 165) rfl ((flt hc2).2.2.2) ?_
    show OEnds own_P 2 165 [qr 1, qu, qu, qi v3, qi v4] [] (c0 :: bk0 zh zi zn zu zo zl zf zc zs zq zr ze zg zd zm zj zk zt zb zp za []) _
    exact ok_init_165 h
theorem ok_init_141 {c0 : ACell} : ∀ {zh zi zn zu zo : List Int32} {zl : List Int64} {zf zc zs zq zr ze zg zd : List Int32} {zm zj zk : Int32} {zt : Int64} {zb zp za v2 v3 : Int32} {d1 d4 : Slot} {w_o_oSide w_o_oPrice w_o_oRem w_o_oFilled w_o_oStatus : List Int32} {w_o_oStamp : List Int64} {w_o_oTop w_o_restIds w_o_fIds w_o_fQty w_o_fPrice w_o_lvlIds w_o_lvlR w_o_lvlA : List Int32} {w_o_minAlloc w_o_topCap w_o_accepted : Int32} {w_o_stampCounter : Int64} {w_o_restN w_o_fN : Int32} {w_o_lvlN : Int32}, f_init_141 zh zi zn zu zo zl zf zc zs zq zr ze zg zd zm zj zk zt zb zp za v2 v3 = some (w_o_oSide, w_o_oPrice, w_o_oRem, w_o_oFilled, w_o_oStatus, w_o_oStamp, w_o_oTop, w_o_restIds, w_o_fIds, w_o_fQty, w_o_fPrice, w_o_lvlIds, w_o_lvlR, w_o_lvlA, w_o_minAlloc, w_o_topCap, w_o_accepted, w_o_stampCounter, w_o_restN, w_o_fN, w_o_lvlN) → OEnds own_P 2 141 [qr 1, d1, qi v2, qi v3, d4] [] (c0 :: bk0 zh zi zn zu zo zl zf zc zs zq zr ze zg zd zm zj zk zt zb zp za []) (none, (c0 :: bk0 w_o_oSide w_o_oPrice w_o_oRem w_o_oFilled w_o_oStatus w_o_oStamp w_o_oTop w_o_restIds w_o_fIds w_o_fQty w_o_fPrice w_o_lvlIds w_o_lvlR w_o_lvlA w_o_minAlloc w_o_topCap w_o_accepted w_o_stampCounter w_o_restN w_o_fN w_o_lvlN []), 0, 0) := by
  intro zh zi zn zu zo zl zf zc zs zq zr ze zg zd zm zj zk zt zb zp za v2 v3 d1 d4 w_o_oSide w_o_oPrice w_o_oRem w_o_oFilled w_o_oStatus w_o_oStamp w_o_oTop w_o_restIds w_o_fIds w_o_fQty w_o_fPrice w_o_lvlIds w_o_lvlR w_o_lvlA w_o_minAlloc w_o_topCap w_o_accepted w_o_stampCounter w_o_restN w_o_fN w_o_lvlN h
  unfold f_init_141 at h
  refine OEnds.adv hm_2 3 (pc' := 146) (L' := [qr 1, qu, qi v2, qi v3, qi v2]) (S' := [.int v2]) (H' := (c0 :: bk0 zh zi zn zu zo zl zf zc zs zq zr ze zg zd zm zj zk zt zb zp za [])) rfl ?_
  by_cases hc3 : v2 < (0 : Int32)
  · simp only [if_pos hc3] at h
    refine OEnds.ifF hm_2 rfl ((tlt hc3).2.1) ?_
    refine OEnds.adv hm_2 2 (pc' := 152) (L' := [qr 1, qu, qi v2, qi v3, qi 0]) (S' := []) (H' := (c0 :: bk0 zh zi zn zu zo zl zf zc zs zq zr ze zg zd zm zj zk zt zb zp za [])) rfl ?_
    exact ok_init_152 h
  · simp only [if_neg hc3] at h
    refine OEnds.ifT hm_2 rfl (q := 152) rfl ((flt hc3).2.1) ?_
    show OEnds own_P 2 152 [qr 1, qu, qi v2, qi v3, qi v2] [] (c0 :: bk0 zh zi zn zu zo zl zf zc zs zq zr ze zg zd zm zj zk zt zb zp za []) _
    exact ok_init_152 h
theorem ok_init_132 {c0 : ACell} : ∀ {zh zi zn zu zo : List Int32} {zl : List Int64} {zf zc zs zq zr ze zg zd : List Int32} {zm zj zk : Int32} {zt : Int64} {zb zp za v2 v3 : Int32} {d1 d4 : Slot} {w_o_oSide w_o_oPrice w_o_oRem w_o_oFilled w_o_oStatus : List Int32} {w_o_oStamp : List Int64} {w_o_oTop w_o_restIds w_o_fIds w_o_fQty w_o_fPrice w_o_lvlIds w_o_lvlR w_o_lvlA : List Int32} {w_o_minAlloc w_o_topCap w_o_accepted : Int32} {w_o_stampCounter : Int64} {w_o_restN w_o_fN : Int32} {w_o_lvlN : Int32}, f_init_132 zh zi zn zu zo zl zf zc zs zq zr ze zg zd zm zj zk zt zb zp za v2 v3 = some (w_o_oSide, w_o_oPrice, w_o_oRem, w_o_oFilled, w_o_oStatus, w_o_oStamp, w_o_oTop, w_o_restIds, w_o_fIds, w_o_fQty, w_o_fPrice, w_o_lvlIds, w_o_lvlR, w_o_lvlA, w_o_minAlloc, w_o_topCap, w_o_accepted, w_o_stampCounter, w_o_restN, w_o_fN, w_o_lvlN) → OEnds own_P 2 132 [qr 1, d1, qi v2, qi v3, d4] [] (c0 :: bk0 zh zi zn zu zo zl zf zc zs zq zr ze zg zd zm zj zk zt zb zp za []) (none, (c0 :: bk0 w_o_oSide w_o_oPrice w_o_oRem w_o_oFilled w_o_oStatus w_o_oStamp w_o_oTop w_o_restIds w_o_fIds w_o_fQty w_o_fPrice w_o_lvlIds w_o_lvlR w_o_lvlA w_o_minAlloc w_o_topCap w_o_accepted w_o_stampCounter w_o_restN w_o_fN w_o_lvlN []), 0, 0) := by
  intro zh zi zn zu zo zl zf zc zs zq zr ze zg zd zm zj zk zt zb zp za v2 v3 d1 d4 w_o_oSide w_o_oPrice w_o_oRem w_o_oFilled w_o_oStatus w_o_oStamp w_o_oTop w_o_restIds w_o_fIds w_o_fQty w_o_fPrice w_o_lvlIds w_o_lvlR w_o_lvlA w_o_minAlloc w_o_topCap w_o_accepted w_o_stampCounter w_o_restN w_o_fN w_o_lvlN h
  unfold f_init_132 at h
  refine OEnds.adv hm_2 2 (pc' := 135) (L' := [qr 1, qu, qi v2, qi v3, qu]) (S' := [.int 100, .int v3]) (H' := (c0 :: bk0 zh zi zn zu zo zl zf zc zs zq zr ze zg zd zm zj zk zt zb zp za [])) rfl ?_
  by_cases hc4 : (100 : Int32) < v3
  · simp only [if_pos hc4] at h
    refine OEnds.icmpF hm_2 rfl ((tlt hc4).2.2.2) ?_
    refine OEnds.adv hm_2 2 (pc' := 141) (L' := [qr 1, qu, qi v2, qi 100, qu]) (S' := []) (H' := (c0 :: bk0 zh zi zn zu zo zl zf zc zs zq zr ze zg zd zm zj zk zt zb zp za [])) rfl ?_
    exact ok_init_141 h
  · simp only [if_neg hc4] at h
    refine OEnds.icmpT hm_2 rfl (q := 141) rfl ((flt hc4).2.2.2) ?_
    show OEnds own_P 2 141 [qr 1, qu, qi v2, qi v3, qu] [] (c0 :: bk0 zh zi zn zu zo zl zf zc zs zq zr ze zg zd zm zj zk zt zb zp za []) _
    exact ok_init_141 h
theorem ok_init {c0 : ACell} {v1 v2 : Int32} {w_o_oSide w_o_oPrice w_o_oRem w_o_oFilled w_o_oStatus : List Int32} {w_o_oStamp : List Int64} {w_o_oTop w_o_restIds w_o_fIds w_o_fQty w_o_fPrice w_o_lvlIds w_o_lvlR w_o_lvlA : List Int32} {w_o_minAlloc w_o_topCap w_o_accepted : Int32} {w_o_stampCounter : Int64} {w_o_restN w_o_fN w_o_lvlN : Int32} (h : f_init v1 v2 = some (w_o_oSide, w_o_oPrice, w_o_oRem, w_o_oFilled, w_o_oStatus, w_o_oStamp, w_o_oTop, w_o_restIds, w_o_fIds, w_o_fQty, w_o_fPrice, w_o_lvlIds, w_o_lvlR, w_o_lvlA, w_o_minAlloc, w_o_topCap, w_o_accepted, w_o_stampCounter, w_o_restN, w_o_fN, w_o_lvlN)) : OEnds own_P 2 0 [qr 1, qi v1, qi v2, qu, qu] [] (c0 :: (.inl (0, [.null, .null, .null, .null, .null, .null, .null, .null, .null, .null, .null, .null, .null, .null, .int 0, .int 0, .int 0, .long 0, .int 0, .int 0, .int 0]) : ACell) :: []) (none, (c0 :: bk0 w_o_oSide w_o_oPrice w_o_oRem w_o_oFilled w_o_oStatus w_o_oStamp w_o_oTop w_o_restIds w_o_fIds w_o_fQty w_o_fPrice w_o_lvlIds w_o_lvlR w_o_lvlA w_o_minAlloc w_o_topCap w_o_accepted w_o_stampCounter w_o_restN w_o_fN w_o_lvlN []), 14, 2240) := by
  unfold f_init at h
  refine OEnds.adv hm_2 1 (pc' := 1) (L' := [qr 1, qi v1, qi v2, qu, qu]) (S' := [.ref 1]) (H' := (c0 :: (.inl (0, [.null, .null, .null, .null, .null, .null, .null, .null, .null, .null, .null, .null, .null, .null, .int 0, .int 0, .int 0, .long 0, .int 0, .int 0, .int 0]) : ACell) :: [])) rfl ?_
  refine OEnds.oinit hm_2 rfl ⟨Nat.le_of_ble_eq_true rfl, Nat.le_of_ble_eq_true rfl⟩ ?_
  refine OEnds.adv hm_2 2 (pc' := 8) (L' := [qr 1, qi v1, qi v2, qu, qu]) (S' := [.int 256, .ref 1]) (H' := (c0 :: (.inl (0, [.null, .null, .null, .null, .null, .null, .null, .null, .null, .null, .null, .null, .null, .null, .int 0, .int 0, .int 0, .long 0, .int 0, .int 0, .int 0]) : ACell) :: [])) rfl ?_
  refine OEnds.made1 hm_2 rfl rfl (ks := 256) rfl rfl ?_
  refine OEnds.adv hm_2 3 (pc' := 17) (L' := [qr 1, qi v1, qi v2, qu, qu]) (S' := [.int 256, .ref 1]) (H' := (c0 :: (.inl (0, [.ref 2, .null, .null, .null, .null, .null, .null, .null, .null, .null, .null, .null, .null, .null, .int 0, .int 0, .int 0, .long 0, .int 0, .int 0, .int 0]) : ACell) :: .inr (.inl (false, (List.replicate 256 0))) :: [])) rfl ?_
  refine OEnds.made1 hm_2 rfl rfl (ks := 256) rfl rfl ?_
  refine OEnds.adv hm_2 3 (pc' := 26) (L' := [qr 1, qi v1, qi v2, qu, qu]) (S' := [.int 256, .ref 1]) (H' := (c0 :: (.inl (0, [.ref 2, .ref 3, .null, .null, .null, .null, .null, .null, .null, .null, .null, .null, .null, .null, .int 0, .int 0, .int 0, .long 0, .int 0, .int 0, .int 0]) : ACell) :: .inr (.inl (false, (List.replicate 256 0))) :: .inr (.inl (false, (List.replicate 256 0))) :: [])) rfl ?_
  refine OEnds.made1 hm_2 rfl rfl (ks := 256) rfl rfl ?_
  refine OEnds.adv hm_2 3 (pc' := 35) (L' := [qr 1, qi v1, qi v2, qu, qu]) (S' := [.int 256, .ref 1]) (H' := (c0 :: (.inl (0, [.ref 2, .ref 3, .ref 4, .null, .null, .null, .null, .null, .null, .null, .null, .null, .null, .null, .int 0, .int 0, .int 0, .long 0, .int 0, .int 0, .int 0]) : ACell) :: .inr (.inl (false, (List.replicate 256 0))) :: .inr (.inl (false, (List.replicate 256 0))) :: .inr (.inl (false, (List.replicate 256 0))) :: [])) rfl ?_
  refine OEnds.made1 hm_2 rfl rfl (ks := 256) rfl rfl ?_
  refine OEnds.adv hm_2 3 (pc' := 44) (L' := [qr 1, qi v1, qi v2, qu, qu]) (S' := [.int 256, .ref 1]) (H' := (c0 :: (.inl (0, [.ref 2, .ref 3, .ref 4, .ref 5, .null, .null, .null, .null, .null, .null, .null, .null, .null, .null, .int 0, .int 0, .int 0, .long 0, .int 0, .int 0, .int 0]) : ACell) :: .inr (.inl (false, (List.replicate 256 0))) :: .inr (.inl (false, (List.replicate 256 0))) :: .inr (.inl (false, (List.replicate 256 0))) :: .inr (.inl (false, (List.replicate 256 0))) :: [])) rfl ?_
  refine OEnds.made1 hm_2 rfl rfl (ks := 256) rfl rfl ?_
  refine OEnds.adv hm_2 3 (pc' := 53) (L' := [qr 1, qi v1, qi v2, qu, qu]) (S' := [.int 256, .ref 1]) (H' := (c0 :: (.inl (0, [.ref 2, .ref 3, .ref 4, .ref 5, .ref 6, .null, .null, .null, .null, .null, .null, .null, .null, .null, .int 0, .int 0, .int 0, .long 0, .int 0, .int 0, .int 0]) : ACell) :: .inr (.inl (false, (List.replicate 256 0))) :: .inr (.inl (false, (List.replicate 256 0))) :: .inr (.inl (false, (List.replicate 256 0))) :: .inr (.inl (false, (List.replicate 256 0))) :: .inr (.inl (false, (List.replicate 256 0))) :: [])) rfl ?_
  refine OEnds.made1 hm_2 rfl rfl (ks := 256) rfl rfl ?_
  refine OEnds.adv hm_2 3 (pc' := 62) (L' := [qr 1, qi v1, qi v2, qu, qu]) (S' := [.int 256, .ref 1]) (H' := (c0 :: (.inl (0, [.ref 2, .ref 3, .ref 4, .ref 5, .ref 6, .ref 7, .null, .null, .null, .null, .null, .null, .null, .null, .int 0, .int 0, .int 0, .long 0, .int 0, .int 0, .int 0]) : ACell) :: .inr (.inl (false, (List.replicate 256 0))) :: .inr (.inl (false, (List.replicate 256 0))) :: .inr (.inl (false, (List.replicate 256 0))) :: .inr (.inl (false, (List.replicate 256 0))) :: .inr (.inl (false, (List.replicate 256 0))) :: .inr (.inr (List.replicate 256 0)) :: [])) rfl ?_
  refine OEnds.made1 hm_2 rfl rfl (ks := 256) rfl rfl ?_
  refine OEnds.adv hm_2 3 (pc' := 70) (L' := [qr 1, qi v1, qi v2, qu, qu]) (S' := [.int 64, .ref 1]) (H' := (c0 :: (.inl (0, [.ref 2, .ref 3, .ref 4, .ref 5, .ref 6, .ref 7, .ref 8, .null, .null, .null, .null, .null, .null, .null, .int 0, .int 0, .int 0, .long 0, .int 0, .int 0, .int 0]) : ACell) :: .inr (.inl (false, (List.replicate 256 0))) :: .inr (.inl (false, (List.replicate 256 0))) :: .inr (.inl (false, (List.replicate 256 0))) :: .inr (.inl (false, (List.replicate 256 0))) :: .inr (.inl (false, (List.replicate 256 0))) :: .inr (.inr (List.replicate 256 0)) :: .inr (.inl (true, (List.replicate 256 0))) :: [])) rfl ?_
  refine OEnds.made1 hm_2 rfl rfl (ks := 64) rfl rfl ?_
  refine OEnds.adv hm_2 3 (pc' := 78) (L' := [qr 1, qi v1, qi v2, qu, qu]) (S' := [.int 64, .ref 1]) (H' := (c0 :: (.inl (0, [.ref 2, .ref 3, .ref 4, .ref 5, .ref 6, .ref 7, .ref 8, .ref 9, .null, .null, .null, .null, .null, .null, .int 0, .int 0, .int 0, .long 0, .int 0, .int 0, .int 0]) : ACell) :: .inr (.inl (false, (List.replicate 256 0))) :: .inr (.inl (false, (List.replicate 256 0))) :: .inr (.inl (false, (List.replicate 256 0))) :: .inr (.inl (false, (List.replicate 256 0))) :: .inr (.inl (false, (List.replicate 256 0))) :: .inr (.inr (List.replicate 256 0)) :: .inr (.inl (true, (List.replicate 256 0))) :: .inr (.inl (false, (List.replicate 64 0))) :: [])) rfl ?_
  refine OEnds.made1 hm_2 rfl rfl (ks := 64) rfl rfl ?_
  refine OEnds.adv hm_2 3 (pc' := 86) (L' := [qr 1, qi v1, qi v2, qu, qu]) (S' := [.int 64, .ref 1]) (H' := (c0 :: (.inl (0, [.ref 2, .ref 3, .ref 4, .ref 5, .ref 6, .ref 7, .ref 8, .ref 9, .ref 10, .null, .null, .null, .null, .null, .int 0, .int 0, .int 0, .long 0, .int 0, .int 0, .int 0]) : ACell) :: .inr (.inl (false, (List.replicate 256 0))) :: .inr (.inl (false, (List.replicate 256 0))) :: .inr (.inl (false, (List.replicate 256 0))) :: .inr (.inl (false, (List.replicate 256 0))) :: .inr (.inl (false, (List.replicate 256 0))) :: .inr (.inr (List.replicate 256 0)) :: .inr (.inl (true, (List.replicate 256 0))) :: .inr (.inl (false, (List.replicate 64 0))) :: .inr (.inl (false, (List.replicate 64 0))) :: [])) rfl ?_
  refine OEnds.made1 hm_2 rfl rfl (ks := 64) rfl rfl ?_
  refine OEnds.adv hm_2 3 (pc' := 94) (L' := [qr 1, qi v1, qi v2, qu, qu]) (S' := [.int 64, .ref 1]) (H' := (c0 :: (.inl (0, [.ref 2, .ref 3, .ref 4, .ref 5, .ref 6, .ref 7, .ref 8, .ref 9, .ref 10, .ref 11, .null, .null, .null, .null, .int 0, .int 0, .int 0, .long 0, .int 0, .int 0, .int 0]) : ACell) :: .inr (.inl (false, (List.replicate 256 0))) :: .inr (.inl (false, (List.replicate 256 0))) :: .inr (.inl (false, (List.replicate 256 0))) :: .inr (.inl (false, (List.replicate 256 0))) :: .inr (.inl (false, (List.replicate 256 0))) :: .inr (.inr (List.replicate 256 0)) :: .inr (.inl (true, (List.replicate 256 0))) :: .inr (.inl (false, (List.replicate 64 0))) :: .inr (.inl (false, (List.replicate 64 0))) :: .inr (.inl (false, (List.replicate 64 0))) :: [])) rfl ?_
  refine OEnds.made1 hm_2 rfl rfl (ks := 64) rfl rfl ?_
  refine OEnds.adv hm_2 3 (pc' := 102) (L' := [qr 1, qi v1, qi v2, qu, qu]) (S' := [.int 64, .ref 1]) (H' := (c0 :: (.inl (0, [.ref 2, .ref 3, .ref 4, .ref 5, .ref 6, .ref 7, .ref 8, .ref 9, .ref 10, .ref 11, .ref 12, .null, .null, .null, .int 0, .int 0, .int 0, .long 0, .int 0, .int 0, .int 0]) : ACell) :: .inr (.inl (false, (List.replicate 256 0))) :: .inr (.inl (false, (List.replicate 256 0))) :: .inr (.inl (false, (List.replicate 256 0))) :: .inr (.inl (false, (List.replicate 256 0))) :: .inr (.inl (false, (List.replicate 256 0))) :: .inr (.inr (List.replicate 256 0)) :: .inr (.inl (true, (List.replicate 256 0))) :: .inr (.inl (false, (List.replicate 64 0))) :: .inr (.inl (false, (List.replicate 64 0))) :: .inr (.inl (false, (List.replicate 64 0))) :: .inr (.inl (false, (List.replicate 64 0))) :: [])) rfl ?_
  refine OEnds.made1 hm_2 rfl rfl (ks := 64) rfl rfl ?_
  refine OEnds.adv hm_2 3 (pc' := 110) (L' := [qr 1, qi v1, qi v2, qu, qu]) (S' := [.int 64, .ref 1]) (H' := (c0 :: (.inl (0, [.ref 2, .ref 3, .ref 4, .ref 5, .ref 6, .ref 7, .ref 8, .ref 9, .ref 10, .ref 11, .ref 12, .ref 13, .null, .null, .int 0, .int 0, .int 0, .long 0, .int 0, .int 0, .int 0]) : ACell) :: .inr (.inl (false, (List.replicate 256 0))) :: .inr (.inl (false, (List.replicate 256 0))) :: .inr (.inl (false, (List.replicate 256 0))) :: .inr (.inl (false, (List.replicate 256 0))) :: .inr (.inl (false, (List.replicate 256 0))) :: .inr (.inr (List.replicate 256 0)) :: .inr (.inl (true, (List.replicate 256 0))) :: .inr (.inl (false, (List.replicate 64 0))) :: .inr (.inl (false, (List.replicate 64 0))) :: .inr (.inl (false, (List.replicate 64 0))) :: .inr (.inl (false, (List.replicate 64 0))) :: .inr (.inl (false, (List.replicate 64 0))) :: [])) rfl ?_
  refine OEnds.made1 hm_2 rfl rfl (ks := 64) rfl rfl ?_
  refine OEnds.adv hm_2 3 (pc' := 118) (L' := [qr 1, qi v1, qi v2, qu, qu]) (S' := [.int 64, .ref 1]) (H' := (c0 :: (.inl (0, [.ref 2, .ref 3, .ref 4, .ref 5, .ref 6, .ref 7, .ref 8, .ref 9, .ref 10, .ref 11, .ref 12, .ref 13, .ref 14, .null, .int 0, .int 0, .int 0, .long 0, .int 0, .int 0, .int 0]) : ACell) :: .inr (.inl (false, (List.replicate 256 0))) :: .inr (.inl (false, (List.replicate 256 0))) :: .inr (.inl (false, (List.replicate 256 0))) :: .inr (.inl (false, (List.replicate 256 0))) :: .inr (.inl (false, (List.replicate 256 0))) :: .inr (.inr (List.replicate 256 0)) :: .inr (.inl (true, (List.replicate 256 0))) :: .inr (.inl (false, (List.replicate 64 0))) :: .inr (.inl (false, (List.replicate 64 0))) :: .inr (.inl (false, (List.replicate 64 0))) :: .inr (.inl (false, (List.replicate 64 0))) :: .inr (.inl (false, (List.replicate 64 0))) :: .inr (.inl (false, (List.replicate 64 0))) :: [])) rfl ?_
  refine OEnds.made1 hm_2 rfl rfl (ks := 64) rfl rfl ?_
  refine OEnds.adv hm_2 5 (pc' := 127) (L' := [qr 1, qi v1, qi v2, qi v1, qu]) (S' := [.int 1, .int v1]) (H' := (c0 :: bk0 (List.replicate 256 0) (List.replicate 256 0) (List.replicate 256 0) (List.replicate 256 0) (List.replicate 256 0) (List.replicate 256 0) (List.replicate 256 0) (List.replicate 64 0) (List.replicate 64 0) (List.replicate 64 0) (List.replicate 64 0) (List.replicate 64 0) (List.replicate 64 0) (List.replicate 64 0) 0 0 0 0 0 0 0 [])) rfl ?_
  by_cases hc5 : v1 < (1 : Int32)
  · simp only [if_pos hc5] at h
    refine OEnds.icmpF hm_2 rfl ((tlt hc5).2.1) ?_
    refine OEnds.adv hm_2 2 (pc' := 132) (L' := [qr 1, qi v1, qi v2, qi 1, qu]) (S' := []) (H' := (c0 :: bk0 (List.replicate 256 0) (List.replicate 256 0) (List.replicate 256 0) (List.replicate 256 0) (List.replicate 256 0) (List.replicate 256 0) (List.replicate 256 0) (List.replicate 64 0) (List.replicate 64 0) (List.replicate 64 0) (List.replicate 64 0) (List.replicate 64 0) (List.replicate 64 0) (List.replicate 64 0) 0 0 0 0 0 0 0 [])) rfl ?_
    exact ok_init_132 h
  · simp only [if_neg hc5] at h
    refine OEnds.icmpT hm_2 rfl (q := 132) rfl ((flt hc5).2.1) ?_
    show OEnds own_P 2 132 [qr 1, qi v1, qi v2, qi v1, qu] [] (c0 :: bk0 (List.replicate 256 0) (List.replicate 256 0) (List.replicate 256 0) (List.replicate 256 0) (List.replicate 256 0) (List.replicate 256 0) (List.replicate 256 0) (List.replicate 64 0) (List.replicate 64 0) (List.replicate 64 0) (List.replicate 64 0) (List.replicate 64 0) (List.replicate 64 0) (List.replicate 64 0) 0 0 0 0 0 0 0 []) _
    exact ok_init_132 h
theorem ok_depthAt_30 {zh zi zn zu zo : List Int32} {zl : List Int64} {zf zc zs zq zr ze zg zd : List Int32} {zm zj zk : Int32} {zt : Int64} {zb zp za : Int32} {c0 : ACell} {po : List ACell} : ∀ (n : Nat), ∀ {v1 v2 v3 v4 : Int32} {d5 : Slot} {res : Int32}, f_depthAt_30 zh zi zn zc zb n v1 v2 v3 v4 = some res → OEnds own_P 4 30 [qr 1, qi v1, qi v2, qi v3, qi v4, d5] [] (c0 :: bk0 zh zi zn zu zo zl zf zc zs zq zr ze zg zd zm zj zk zt zb zp za po) (some (.int res), (c0 :: bk0 zh zi zn zu zo zl zf zc zs zq zr ze zg zd zm zj zk zt zb zp za po), 0, 0) := by
  intro n
  induction n with
  | zero => intro v1 v2 v3 v4 d5 res h; cases h
  | succ n ih =>
    intro v1 v2 v3 v4 d5 res h
    unfold f_depthAt_30 at h
    refine OEnds.adv hm_4 3 (pc' := 36) (L' := [qr 1, qi v1, qi v2, qi v3, qi v4, qu]) (S' := [.int zb, .int v4]) (H' := (c0 :: bk0 zh zi zn zu zo zl zf zc zs zq zr ze zg zd zm zj zk zt zb zp za po)) rfl ?_
    by_cases hc6 : v4 < zb
    · simp only [if_pos hc6] at h
      refine OEnds.icmpF hm_4 rfl ((tlt hc6).2.1) ?_
      refine OEnds.adv hm_4 3 (pc' := 45) (L' := [qr 1, qi v1, qi v2, qi v3, qi v4, qu]) (S' := [.int v4, .ref 9]) (H' := (c0 :: bk0 zh zi zn zu zo zl zf zc zs zq zr ze zg zd zm zj zk zt zb zp za po)) rfl ?_
      obtain ⟨x2, hx2, h⟩ := bnd h
      refine OEnds.plain hm_4 rfl rfl (x_iaload rfl hx2) ?_
      refine OEnds.adv hm_4 4 (pc' := 54) (L' := [qr 1, qi v1, qi v2, qi v3, qi v4, qi x2]) (S' := [.int x2, .ref 2]) (H' := (c0 :: bk0 zh zi zn zu zo zl zf zc zs zq zr ze zg zd zm zj zk zt zb zp za po)) rfl ?_
      obtain ⟨x3, hx3, h⟩ := bnd h
      refine OEnds.plain hm_4 rfl rfl (x_iaload rfl hx3) ?_
      refine OEnds.adv hm_4 1 (pc' := 56) (L' := [qr 1, qi v1, qi v2, qi v3, qi v4, qi x2]) (S' := [.int v1, .int x3]) (H' := (c0 :: bk0 zh zi zn zu zo zl zf zc zs zq zr ze zg zd zm zj zk zt zb zp za po)) rfl ?_
      by_cases hc7 : x3 = v1
      · simp only [if_pos hc7] at h
        refine OEnds.icmpF hm_4 rfl ((teq hc7).2) ?_
        refine OEnds.adv hm_4 3 (pc' := 65) (L' := [qr 1, qi v1, qi v2, qi v3, qi v4, qi x2]) (S' := [.int x2, .ref 3]) (H' := (c0 :: bk0 zh zi zn zu zo zl zf zc zs zq zr ze zg zd zm zj zk zt zb zp za po)) rfl ?_
        obtain ⟨x4, hx4, h⟩ := bnd h
        refine OEnds.plain hm_4 rfl rfl (x_iaload rfl hx4) ?_
        refine OEnds.adv hm_4 1 (pc' := 67) (L' := [qr 1, qi v1, qi v2, qi v3, qi v4, qi x2]) (S' := [.int v2, .int x4]) (H' := (c0 :: bk0 zh zi zn zu zo zl zf zc zs zq zr ze zg zd zm zj zk zt zb zp za po)) rfl ?_
        by_cases hc8 : x4 = v2
        · simp only [if_pos hc8] at h
          refine OEnds.icmpF hm_4 rfl ((teq hc8).2) ?_
          refine OEnds.adv hm_4 4 (pc' := 77) (L' := [qr 1, qi v1, qi v2, qi v3, qi v4, qi x2]) (S' := [.int x2, .ref 4, .int v3]) (H' := (c0 :: bk0 zh zi zn zu zo zl zf zc zs zq zr ze zg zd zm zj zk zt zb zp za po)) rfl ?_
          obtain ⟨x5, hx5, h⟩ := bnd h
          refine OEnds.plain hm_4 rfl rfl (x_iaload rfl hx5) ?_
          refine OEnds.adv hm_4 4 (pc' := 30) (L' := [qr 1, qi v1, qi v2, qi (v3 + x5), qi (v4 + (1 : Int32)), qi x2]) (S' := []) (H' := (c0 :: bk0 zh zi zn zu zo zl zf zc zs zq zr ze zg zd zm zj zk zt zb zp za po)) rfl ?_
          exact ih h
        · simp only [if_neg hc8] at h
          refine OEnds.icmpT hm_4 rfl (q := 80) rfl ((feq hc8).2) ?_
          refine OEnds.adv hm_4 2 (pc' := 30) (L' := [qr 1, qi v1, qi v2, qi v3, qi (v4 + (1 : Int32)), qi x2]) (S' := []) (H' := (c0 :: bk0 zh zi zn zu zo zl zf zc zs zq zr ze zg zd zm zj zk zt zb zp za po)) rfl ?_
          exact ih h
      · simp only [if_neg hc7] at h
        refine OEnds.icmpT hm_4 rfl (q := 80) rfl ((feq hc7).2) ?_
        refine OEnds.adv hm_4 2 (pc' := 30) (L' := [qr 1, qi v1, qi v2, qi v3, qi (v4 + (1 : Int32)), qi x2]) (S' := []) (H' := (c0 :: bk0 zh zi zn zu zo zl zf zc zs zq zr ze zg zd zm zj zk zt zb zp za po)) rfl ?_
        exact ih h
    · simp only [if_neg hc6] at h
      refine OEnds.icmpT hm_4 rfl (q := 86) rfl ((flt hc6).2.1) ?_
      refine OEnds.adv hm_4 1 (pc' := 87) (L' := [qr 1, qi v1, qi v2, qi v3, qi v4, qu]) (S' := [.int v3]) (H' := (c0 :: bk0 zh zi zn zu zo zl zf zc zs zq zr ze zg zd zm zj zk zt zb zp za po)) rfl ?_
      cases h
      exact OEnds.iret hm_4 rfl rfl
theorem ok_depthAt_11 {zh zi zn zu zo : List Int32} {zl : List Int64} {zf zc zs zq zr ze zg zd : List Int32} {zm zj zk : Int32} {zt : Int64} {zb zp za : Int32} {c0 : ACell} {po : List ACell} : ∀ {v1 v2 : Int32} {d3 d4 d5 : Slot} {res : Int32}, f_depthAt_11 zh zi zn zc zb v1 v2 = some res → OEnds own_P 4 11 [qr 1, qi v1, qi v2, d3, d4, d5] [] (c0 :: bk0 zh zi zn zu zo zl zf zc zs zq zr ze zg zd zm zj zk zt zb zp za po) (some (.int res), (c0 :: bk0 zh zi zn zu zo zl zf zc zs zq zr ze zg zd zm zj zk zt zb zp za po), 0, 0) := by
  intro v1 v2 d3 d4 d5 res h
  unfold f_depthAt_11 at h
  refine OEnds.adv hm_4 2 (pc' := 13) (L' := [qr 1, qi v1, qi v2, qu, qu, qu]) (S' := [.int 1, .int v2]) (H' := (c0 :: bk0 zh zi zn zu zo zl zf zc zs zq zr ze zg zd zm zj zk zt zb zp za po)) rfl ?_
  by_cases hc9 : v2 < (1 : Int32)
  · simp only [if_pos hc9] at h
    refine OEnds.icmpT hm_4 rfl (q := 23) rfl ((tlt hc9).1) ?_
    refine OEnds.adv hm_4 1 (pc' := 24) (L' := [qr 1, qi v1, qi v2, qu, qu, qu]) (S' := [.int 0]) (H' := (c0 :: bk0 zh zi zn zu zo zl zf zc zs zq zr ze zg zd zm zj zk zt zb zp za po)) rfl ?_
    cases h
    exact OEnds.iret hm_4 rfl rfl
  · simp only [if_neg hc9] at h
    refine OEnds.icmpF hm_4 rfl ((flt hc9).1) ?_
    refine OEnds.adv hm_4 2 (pc' := 20) (L' := [qr 1, qi v1, qi v2, qu, qu, qu]) (S' := [.int 1000, .int v2]) (H' := (c0 :: bk0 zh zi zn zu zo zl zf zc zs zq zr ze zg zd zm zj zk zt zb zp za po)) rfl ?_
    by_cases hc10 : (1000 : Int32) < v2
    · simp only [if_pos hc10] at h
      refine OEnds.icmpF hm_4 rfl ((tlt hc10).2.2.2) ?_
      refine OEnds.adv hm_4 1 (pc' := 24) (L' := [qr 1, qi v1, qi v2, qu, qu, qu]) (S' := [.int 0]) (H' := (c0 :: bk0 zh zi zn zu zo zl zf zc zs zq zr ze zg zd zm zj zk zt zb zp za po)) rfl ?_
      cases h
      exact OEnds.iret hm_4 rfl rfl
    · simp only [if_neg hc10] at h
      refine OEnds.icmpT hm_4 rfl (q := 25) rfl ((flt hc10).2.2.2) ?_
      refine OEnds.adv hm_4 4 (pc' := 30) (L' := [qr 1, qi v1, qi v2, qi 0, qi 0, qu]) (S' := []) (H' := (c0 :: bk0 zh zi zn zu zo zl zf zc zs zq zr ze zg zd zm zj zk zt zb zp za po)) rfl ?_
      exact ok_depthAt_30 100000 h
theorem ok_depthAt {zh zi zn zu zo : List Int32} {zl : List Int64} {zf zc zs zq zr ze zg zd : List Int32} {zm zj zk : Int32} {zt : Int64} {zb zp za : Int32} {c0 : ACell} {po : List ACell} {v1 v2 res : Int32} (h : f_depthAt zh zi zn zc zb v1 v2 = some res) : OEnds own_P 4 0 [qr 1, qi v1, qi v2, qu, qu, qu] [] (c0 :: bk0 zh zi zn zu zo zl zf zc zs zq zr ze zg zd zm zj zk zt zb zp za po) (some (.int res), (c0 :: bk0 zh zi zn zu zo zl zf zc zs zq zr ze zg zd zm zj zk zt zb zp za po), 0, 0) := by
  unfold f_depthAt at h
  refine OEnds.adv hm_4 1 (pc' := 1) (L' := [qr 1, qi v1, qi v2, qu, qu, qu]) (S' := [.int v1]) (H' := (c0 :: bk0 zh zi zn zu zo zl zf zc zs zq zr ze zg zd zm zj zk zt zb zp za po)) rfl ?_
  by_cases hc11 : v1 = (0 : Int32)
  · simp only [if_pos hc11] at h
    refine OEnds.ifT hm_4 rfl (q := 11) rfl ((teq hc11).1) ?_
    show OEnds own_P 4 11 [qr 1, qi v1, qi v2, qu, qu, qu] [] (c0 :: bk0 zh zi zn zu zo zl zf zc zs zq zr ze zg zd zm zj zk zt zb zp za po) _
    exact ok_depthAt_11 h
  · simp only [if_neg hc11] at h
    refine OEnds.ifF hm_4 rfl ((feq hc11).1) ?_
    refine OEnds.adv hm_4 2 (pc' := 6) (L' := [qr 1, qi v1, qi v2, qu, qu, qu]) (S' := [.int 1, .int v1]) (H' := (c0 :: bk0 zh zi zn zu zo zl zf zc zs zq zr ze zg zd zm zj zk zt zb zp za po)) rfl ?_
    by_cases hc12 : v1 = (1 : Int32)
    · simp only [if_pos hc12] at h
      refine OEnds.icmpT hm_4 rfl (q := 11) rfl ((teq hc12).1) ?_
      show OEnds own_P 4 11 [qr 1, qi v1, qi v2, qu, qu, qu] [] (c0 :: bk0 zh zi zn zu zo zl zf zc zs zq zr ze zg zd zm zj zk zt zb zp za po) _
      exact ok_depthAt_11 h
    · simp only [if_neg hc12] at h
      refine OEnds.icmpF hm_4 rfl ((feq hc12).1) ?_
      refine OEnds.adv hm_4 1 (pc' := 10) (L' := [qr 1, qi v1, qi v2, qu, qu, qu]) (S' := [.int 0]) (H' := (c0 :: bk0 zh zi zn zu zo zl zf zc zs zq zr ze zg zd zm zj zk zt zb zp za po)) rfl ?_
      cases h
      exact OEnds.iret hm_4 rfl rfl
theorem ok_L_depth_6 {zaq zar zas zav zaw : List Int32} {zax : List Int64} {zay zat zaz zba zbb zbc zbd zbe : List Int32} {zbf zbg zbh : Int32} {zbi : Int64} {zau zbj zbk : Int32} {c0 : ACell} {po : List ACell} : ∀ (n : Nat), ∀ {v1 : Int32} {v2 : Int64} {v4 : Int32} {res : Int64}, f_L_depth_6 zaq zar zas zat zau n v1 v2 v4 = some res → OEnds own_P 3 6 [qr 1, qi v1, ql v2, qw, qi v4] [] (c0 :: bk0 zaq zar zas zav zaw zax zay zat zaz zba zbb zbc zbd zbe zbf zbg zbh zbi zau zbj zbk po) (some (.long res), (c0 :: bk0 zaq zar zas zav zaw zax zay zat zaz zba zbb zbc zbd zbe zbf zbg zbh zbi zau zbj zbk po), 0, 0) := by
  intro n
  induction n with
  | zero => intro v1 v2 v4 res h; cases h
  | succ n ih =>
    intro v1 v2 v4 res h
    unfold f_L_depth_6 at h
    refine OEnds.adv hm_3 2 (pc' := 10) (L' := [qr 1, qi v1, ql v2, qw, qi v4]) (S' := [.int 107, .int v4]) (H' := (c0 :: bk0 zaq zar zas zav zaw zax zay zat zaz zba zbb zbc zbd zbe zbf zbg zbh zbi zau zbj zbk po)) rfl ?_
    by_cases hc13 : (107 : Int32) < v4
    · simp only [if_pos hc13] at h
      refine OEnds.icmpT hm_3 rfl (q := 30) rfl ((tlt hc13).2.2.1) ?_
      refine OEnds.adv hm_3 1 (pc' := 31) (L' := [qr 1, qi v1, ql v2, qw, qi v4]) (S' := [.long v2]) (H' := (c0 :: bk0 zaq zar zas zav zaw zax zay zat zaz zba zbb zbc zbd zbe zbf zbg zbh zbi zau zbj zbk po)) rfl ?_
      cases h
      exact OEnds.lret hm_3 rfl rfl
    · simp only [if_neg hc13] at h
      refine OEnds.icmpF hm_3 rfl ((flt hc13).2.2.1) ?_
      refine OEnds.adv hm_3 4 (pc' := 18) (L' := [qr 1, qi v1, ql v2, qw, qi v4]) (S' := [.int v4, .int v1, .ref 1, .long v2]) (H' := (c0 :: bk0 zaq zar zas zav zaw zax zay zat zaz zba zbb zbc zbd zbe zbf zbg zbh zbi zau zbj zbk po)) rfl ?_
      obtain ⟨r6, hq14, h⟩ := bnd h
      refine OEnds.call0 hm_3 rfl rfl (by decide) rfl (as := [.ref 1, .int v1, .int v4]) (rest := [.long v2]) rfl rfl (ok_depthAt hq14) ?_
      refine OEnds.adv hm_3 5 (pc' := 6) (L' := [qr 1, qi v1, ql (v2 + r6.toInt64), qw, qi (v4 + (1 : Int32))]) (S' := []) (H' := (c0 :: bk0 zaq zar zas zav zaw zax zay zat zaz zba zbb zbc zbd zbe zbf zbg zbh zbi zau zbj zbk po)) rfl ?_
      exact ih h
theorem ok_L_depth {zaq zar zas zav zaw : List Int32} {zax : List Int64} {zay zat zaz zba zbb zbc zbd zbe : List Int32} {zbf zbg zbh : Int32} {zbi : Int64} {zau zbj zbk : Int32} {c0 : ACell} {po : List ACell} {v1 : Int32} {res : Int64} (h : f_L_depth zaq zar zas zat zau v1 = some res) : OEnds own_P 3 0 [qr 1, qi v1, qu, qu, qu] [] (c0 :: bk0 zaq zar zas zav zaw zax zay zat zaz zba zbb zbc zbd zbe zbf zbg zbh zbi zau zbj zbk po) (some (.long res), (c0 :: bk0 zaq zar zas zav zaw zax zay zat zaz zba zbb zbc zbd zbe zbf zbg zbh zbi zau zbj zbk po), 0, 0) := by
  unfold f_L_depth at h
  refine OEnds.adv hm_3 4 (pc' := 6) (L' := [qr 1, qi v1, ql 0, qw, qi 100]) (S' := []) (H' := (c0 :: bk0 zaq zar zas zav zaw zax zay zat zaz zba zbb zbc zbd zbe zbf zbg zbh zbi zau zbj zbk po)) rfl ?_
  exact ok_L_depth_6 100000 h
theorem ok_fillCount {zh zi zn zu zo : List Int32} {zl : List Int64} {zf zc zs zq zr ze zg zd : List Int32} {zm zj zk : Int32} {zt : Int64} {zb zp za : Int32} {c0 : ACell} {po : List ACell} {res : Int32} (h : f_fillCount zp = some res) : OEnds own_P 5 0 [qr 1] [] (c0 :: bk0 zh zi zn zu zo zl zf zc zs zq zr ze zg zd zm zj zk zt zb zp za po) (some (.int res), (c0 :: bk0 zh zi zn zu zo zl zf zc zs zq zr ze zg zd zm zj zk zt zb zp za po), 0, 0) := by
  unfold f_fillCount at h
  refine OEnds.adv hm_5 2 (pc' := 4) (L' := [qr 1]) (S' := [.int zp]) (H' := (c0 :: bk0 zh zi zn zu zo zl zf zc zs zq zr ze zg zd zm zj zk zt zb zp za po)) rfl ?_
  cases h
  exact OEnds.iret hm_5 rfl rfl
theorem ok_better {zh zi zn zu zo : List Int32} {zl : List Int64} {zf zc zs zq zr ze zg zd : List Int32} {zm zj zk : Int32} {zt : Int64} {zb zp za : Int32} {c0 : ACell} {po : List ACell} {v1 v2 v3 res : Int32} (h : f_better v1 v2 v3 = some res) : OEnds own_P 16 0 [qr 1, qi v1, qi v2, qi v3] [] (c0 :: bk0 zh zi zn zu zo zl zf zc zs zq zr ze zg zd zm zj zk zt zb zp za po) (some (.int res), (c0 :: bk0 zh zi zn zu zo zl zf zc zs zq zr ze zg zd zm zj zk zt zb zp za po), 0, 0) := by
  unfold f_better at h
  refine OEnds.adv hm_16 1 (pc' := 1) (L' := [qr 1, qi v1, qi v2, qi v3]) (S' := [.int v1]) (H' := (c0 :: bk0 zh zi zn zu zo zl zf zc zs zq zr ze zg zd zm zj zk zt zb zp za po)) rfl ?_
  by_cases hc15 : v1 = (0 : Int32)
  · simp only [if_pos hc15] at h
    refine OEnds.ifF hm_16 rfl ((teq hc15).2) ?_
    refine OEnds.adv hm_16 2 (pc' := 6) (L' := [qr 1, qi v1, qi v2, qi v3]) (S' := [.int v3, .int v2]) (H' := (c0 :: bk0 zh zi zn zu zo zl zf zc zs zq zr ze zg zd zm zj zk zt zb zp za po)) rfl ?_
    by_cases hc16 : v3 < v2
    · simp only [if_pos hc16] at h
      refine OEnds.icmpF hm_16 rfl ((tlt hc16).2.2.2) ?_
      refine OEnds.adv hm_16 2 (pc' := 14) (L' := [qr 1, qi v1, qi v2, qi v3]) (S' := [.int 1]) (H' := (c0 :: bk0 zh zi zn zu zo zl zf zc zs zq zr ze zg zd zm zj zk zt zb zp za po)) rfl ?_
      cases h
      exact OEnds.iret hm_16 rfl rfl
    · simp only [if_neg hc16] at h
      refine OEnds.icmpT hm_16 rfl (q := 13) rfl ((flt hc16).2.2.2) ?_
      refine OEnds.adv hm_16 1 (pc' := 14) (L' := [qr 1, qi v1, qi v2, qi v3]) (S' := [.int 0]) (H' := (c0 :: bk0 zh zi zn zu zo zl zf zc zs zq zr ze zg zd zm zj zk zt zb zp za po)) rfl ?_
      cases h
      exact OEnds.iret hm_16 rfl rfl
  · simp only [if_neg hc15] at h
    refine OEnds.ifT hm_16 rfl (q := 15) rfl ((feq hc15).2) ?_
    refine OEnds.adv hm_16 2 (pc' := 17) (L' := [qr 1, qi v1, qi v2, qi v3]) (S' := [.int v3, .int v2]) (H' := (c0 :: bk0 zh zi zn zu zo zl zf zc zs zq zr ze zg zd zm zj zk zt zb zp za po)) rfl ?_
    by_cases hc17 : v2 < v3
    · simp only [if_pos hc17] at h
      refine OEnds.icmpF hm_16 rfl ((tlt hc17).2.1) ?_
      refine OEnds.adv hm_16 2 (pc' := 25) (L' := [qr 1, qi v1, qi v2, qi v3]) (S' := [.int 1]) (H' := (c0 :: bk0 zh zi zn zu zo zl zf zc zs zq zr ze zg zd zm zj zk zt zb zp za po)) rfl ?_
      cases h
      exact OEnds.iret hm_16 rfl rfl
    · simp only [if_neg hc17] at h
      refine OEnds.icmpT hm_16 rfl (q := 24) rfl ((flt hc17).2.1) ?_
      refine OEnds.adv hm_16 1 (pc' := 25) (L' := [qr 1, qi v1, qi v2, qi v3]) (S' := [.int 0]) (H' := (c0 :: bk0 zh zi zn zu zo zl zf zc zs zq zr ze zg zd zm zj zk zt zb zp za po)) rfl ?_
      cases h
      exact OEnds.iret hm_16 rfl rfl
theorem ok_bestOf_4 {zh zi zn zu zo : List Int32} {zl : List Int64} {zf zc zs zq zr ze zg zd : List Int32} {zm zj zk : Int32} {zt : Int64} {zb zp za : Int32} {c0 : ACell} {po : List ACell} : ∀ (n : Nat), ∀ {v1 v2 v3 : Int32} {d4 d5 : Slot} {res : Int32}, f_bestOf_4 zh zi zc zb n v1 v2 v3 = some res → OEnds own_P 8 4 [qr 1, qi v1, qi v2, qi v3, d4, d5] [] (c0 :: bk0 zh zi zn zu zo zl zf zc zs zq zr ze zg zd zm zj zk zt zb zp za po) (some (.int res), (c0 :: bk0 zh zi zn zu zo zl zf zc zs zq zr ze zg zd zm zj zk zt zb zp za po), 0, 0) := by
  intro n
  induction n with
  | zero => intro v1 v2 v3 d4 d5 res h; cases h
  | succ n ih =>
    intro v1 v2 v3 d4 d5 res h
    unfold f_bestOf_4 at h
    refine OEnds.adv hm_8 3 (pc' := 9) (L' := [qr 1, qi v1, qi v2, qi v3, qu, qu]) (S' := [.int zb, .int v3]) (H' := (c0 :: bk0 zh zi zn zu zo zl zf zc zs zq zr ze zg zd zm zj zk zt zb zp za po)) rfl ?_
    by_cases hc18 : v3 < zb
    · simp only [if_pos hc18] at h
      refine OEnds.icmpF hm_8 rfl ((tlt hc18).2.1) ?_
      refine OEnds.adv hm_8 3 (pc' := 17) (L' := [qr 1, qi v1, qi v2, qi v3, qu, qu]) (S' := [.int v3, .ref 9]) (H' := (c0 :: bk0 zh zi zn zu zo zl zf zc zs zq zr ze zg zd zm zj zk zt zb zp za po)) rfl ?_
      obtain ⟨x27, hx27, h⟩ := bnd h
      refine OEnds.plain hm_8 rfl rfl (x_iaload rfl hx27) ?_
      refine OEnds.adv hm_8 4 (pc' := 26) (L' := [qr 1, qi v1, qi v2, qi v3, qi x27, qu]) (S' := [.int x27, .ref 2]) (H' := (c0 :: bk0 zh zi zn zu zo zl zf zc zs zq zr ze zg zd zm zj zk zt zb zp za po)) rfl ?_
      obtain ⟨x28, hx28, h⟩ := bnd h
      refine OEnds.plain hm_8 rfl rfl (x_iaload rfl hx28) ?_
      refine OEnds.adv hm_8 1 (pc' := 28) (L' := [qr 1, qi v1, qi v2, qi v3, qi x27, qu]) (S' := [.int v1, .int x28]) (H' := (c0 :: bk0 zh zi zn zu zo zl zf zc zs zq zr ze zg zd zm zj zk zt zb zp za po)) rfl ?_
      by_cases hc19 : x28 = v1
      · simp only [if_pos hc19] at h
        refine OEnds.icmpT hm_8 rfl (q := 34) rfl ((teq hc19).1) ?_
        refine OEnds.adv hm_8 3 (pc' := 40) (L' := [qr 1, qi v1, qi v2, qi v3, qi x27, qu]) (S' := [.int x27, .ref 3]) (H' := (c0 :: bk0 zh zi zn zu zo zl zf zc zs zq zr ze zg zd zm zj zk zt zb zp za po)) rfl ?_
        obtain ⟨x29, hx29, h⟩ := bnd h
        refine OEnds.plain hm_8 rfl rfl (x_iaload rfl hx29) ?_
        refine OEnds.adv hm_8 2 (pc' := 44) (L' := [qr 1, qi v1, qi v2, qi v3, qi x27, qi x29]) (S' := [.int v2]) (H' := (c0 :: bk0 zh zi zn zu zo zl zf zc zs zq zr ze zg zd zm zj zk zt zb zp za po)) rfl ?_
        by_cases hc20 : v2 = (0 : Int32)
        · simp only [if_pos hc20] at h
          refine OEnds.ifT hm_8 rfl (q := 58) rfl ((teq hc20).1) ?_
          refine OEnds.adv hm_8 4 (pc' := 4) (L' := [qr 1, qi v1, qi x29, qi (v3 + (1 : Int32)), qi x27, qi x29]) (S' := []) (H' := (c0 :: bk0 zh zi zn zu zo zl zf zc zs zq zr ze zg zd zm zj zk zt zb zp za po)) rfl ?_
          exact ih h
        · simp only [if_neg hc20] at h
          refine OEnds.ifF hm_8 rfl ((feq hc20).1) ?_
          refine OEnds.adv hm_8 4 (pc' := 52) (L' := [qr 1, qi v1, qi v2, qi v3, qi x27, qi x29]) (S' := [.int v2, .int x29, .int v1, .ref 1]) (H' := (c0 :: bk0 zh zi zn zu zo zl zf zc zs zq zr ze zg zd zm zj zk zt zb zp za po)) rfl ?_
          obtain ⟨r30, hq21, h⟩ := bnd h
          refine OEnds.call0 hm_8 rfl rfl (by decide) rfl (as := [.ref 1, .int v1, .int x29, .int v2]) (rest := []) rfl rfl (ok_better hq21) ?_
          show OEnds own_P 8 55 [qr 1, qi v1, qi v2, qi v3, qi x27, qi x29] [.int r30] (c0 :: bk0 zh zi zn zu zo zl zf zc zs zq zr ze zg zd zm zj zk zt zb zp za po) _
          by_cases hc22 : r30 = (0 : Int32)
          · simp only [if_pos hc22] at h
            refine OEnds.ifT hm_8 rfl (q := 61) rfl ((teq hc22).1) ?_
            refine OEnds.adv hm_8 2 (pc' := 4) (L' := [qr 1, qi v1, qi v2, qi (v3 + (1 : Int32)), qi x27, qi x29]) (S' := []) (H' := (c0 :: bk0 zh zi zn zu zo zl zf zc zs zq zr ze zg zd zm zj zk zt zb zp za po)) rfl ?_
            exact ih h
          · simp only [if_neg hc22] at h
            refine OEnds.ifF hm_8 rfl ((feq hc22).1) ?_
            refine OEnds.adv hm_8 4 (pc' := 4) (L' := [qr 1, qi v1, qi x29, qi (v3 + (1 : Int32)), qi x27, qi x29]) (S' := []) (H' := (c0 :: bk0 zh zi zn zu zo zl zf zc zs zq zr ze zg zd zm zj zk zt zb zp za po)) rfl ?_
            exact ih h
      · simp only [if_neg hc19] at h
        refine OEnds.icmpF hm_8 rfl ((feq hc19).1) ?_
        refine OEnds.adv hm_8 3 (pc' := 4) (L' := [qr 1, qi v1, qi v2, qi (v3 + (1 : Int32)), qi x27, qu]) (S' := []) (H' := (c0 :: bk0 zh zi zn zu zo zl zf zc zs zq zr ze zg zd zm zj zk zt zb zp za po)) rfl ?_
        exact ih h
    · simp only [if_neg hc18] at h
      refine OEnds.icmpT hm_8 rfl (q := 67) rfl ((flt hc18).2.1) ?_
      refine OEnds.adv hm_8 1 (pc' := 68) (L' := [qr 1, qi v1, qi v2, qi v3, qu, qu]) (S' := [.int v2]) (H' := (c0 :: bk0 zh zi zn zu zo zl zf zc zs zq zr ze zg zd zm zj zk zt zb zp za po)) rfl ?_
      cases h
      exact OEnds.iret hm_8 rfl rfl
theorem ok_bestOf {zh zi zn zu zo : List Int32} {zl : List Int64} {zf zc zs zq zr ze zg zd : List Int32} {zm zj zk : Int32} {zt : Int64} {zb zp za : Int32} {c0 : ACell} {po : List ACell} {v1 res : Int32} (h : f_bestOf zh zi zc zb v1 = some res) : OEnds own_P 8 0 [qr 1, qi v1, qu, qu, qu, qu] [] (c0 :: bk0 zh zi zn zu zo zl zf zc zs zq zr ze zg zd zm zj zk zt zb zp za po) (some (.int res), (c0 :: bk0 zh zi zn zu zo zl zf zc zs zq zr ze zg zd zm zj zk zt zb zp za po), 0, 0) := by
  unfold f_bestOf at h
  refine OEnds.adv hm_8 4 (pc' := 4) (L' := [qr 1, qi v1, qi 0, qi 0, qu, qu]) (S' := []) (H' := (c0 :: bk0 zh zi zn zu zo zl zf zc zs zq zr ze zg zd zm zj zk zt zb zp za po)) rfl ?_
  exact ok_bestOf_4 100000 h
theorem ok_crosses {zh zi zn zu zo : List Int32} {zl : List Int64} {zf zc zs zq zr ze zg zd : List Int32} {zm zj zk : Int32} {zt : Int64} {zb zp za : Int32} {c0 : ACell} {po : List ACell} {v1 v2 v3 res : Int32} (h : f_crosses v1 v2 v3 = some res) : OEnds own_P 17 0 [qr 1, qi v1, qi v2, qi v3] [] (c0 :: bk0 zh zi zn zu zo zl zf zc zs zq zr ze zg zd zm zj zk zt zb zp za po) (some (.int res), (c0 :: bk0 zh zi zn zu zo zl zf zc zs zq zr ze zg zd zm zj zk zt zb zp za po), 0, 0) := by
  unfold f_crosses at h
  refine OEnds.adv hm_17 1 (pc' := 1) (L' := [qr 1, qi v1, qi v2, qi v3]) (S' := [.int v1]) (H' := (c0 :: bk0 zh zi zn zu zo zl zf zc zs zq zr ze zg zd zm zj zk zt zb zp za po)) rfl ?_
  by_cases hc23 : v1 = (0 : Int32)
  · simp only [if_pos hc23] at h
    refine OEnds.ifF hm_17 rfl ((teq hc23).2) ?_
    refine OEnds.adv hm_17 2 (pc' := 6) (L' := [qr 1, qi v1, qi v2, qi v3]) (S' := [.int v2, .int v3]) (H' := (c0 :: bk0 zh zi zn zu zo zl zf zc zs zq zr ze zg zd zm zj zk zt zb zp za po)) rfl ?_
    by_cases hc24 : v2 < v3
    · simp only [if_pos hc24] at h
      refine OEnds.icmpT hm_17 rfl (q := 13) rfl ((tlt hc24).2.2.1) ?_
      refine OEnds.adv hm_17 1 (pc' := 14) (L' := [qr 1, qi v1, qi v2, qi v3]) (S' := [.int 0]) (H' := (c0 :: bk0 zh zi zn zu zo zl zf zc zs zq zr ze zg zd zm zj zk zt zb zp za po)) rfl ?_
      cases h
      exact OEnds.iret hm_17 rfl rfl
    · simp only [if_neg hc24] at h
      refine OEnds.icmpF hm_17 rfl ((flt hc24).2.2.1) ?_
      refine OEnds.adv hm_17 2 (pc' := 14) (L' := [qr 1, qi v1, qi v2, qi v3]) (S' := [.int 1]) (H' := (c0 :: bk0 zh zi zn zu zo zl zf zc zs zq zr ze zg zd zm zj zk zt zb zp za po)) rfl ?_
      cases h
      exact OEnds.iret hm_17 rfl rfl
  · simp only [if_neg hc23] at h
    refine OEnds.ifT hm_17 rfl (q := 15) rfl ((feq hc23).2) ?_
    refine OEnds.adv hm_17 2 (pc' := 17) (L' := [qr 1, qi v1, qi v2, qi v3]) (S' := [.int v2, .int v3]) (H' := (c0 :: bk0 zh zi zn zu zo zl zf zc zs zq zr ze zg zd zm zj zk zt zb zp za po)) rfl ?_
    by_cases hc25 : v3 < v2
    · simp only [if_pos hc25] at h
      refine OEnds.icmpT hm_17 rfl (q := 24) rfl ((tlt hc25).1) ?_
      refine OEnds.adv hm_17 1 (pc' := 25) (L' := [qr 1, qi v1, qi v2, qi v3]) (S' := [.int 0]) (H' := (c0 :: bk0 zh zi zn zu zo zl zf zc zs zq zr ze zg zd zm zj zk zt zb zp za po)) rfl ?_
      cases h
      exact OEnds.iret hm_17 rfl rfl
    · simp only [if_neg hc25] at h
      refine OEnds.icmpF hm_17 rfl ((flt hc25).1) ?_
      refine OEnds.adv hm_17 2 (pc' := 25) (L' := [qr 1, qi v1, qi v2, qi v3]) (S' := [.int 1]) (H' := (c0 :: bk0 zh zi zn zu zo zl zf zc zs zq zr ze zg zd zm zj zk zt zb zp za po)) rfl ?_
      cases h
      exact OEnds.iret hm_17 rfl rfl
theorem ok_gatherLevel_7 {zh zi zn zu zo : List Int32} {zl : List Int64} {zf zc zs zq zr zg zd : List Int32} {zm zj zk : Int32} {zt : Int64} {zb zp : Int32} {c0 : ACell} {po : List ACell} : ∀ (n : Nat), ∀ {ze : List Int32} {za v1 v2 v3 : Int32} {d4 : Slot} {w_o_lvlIds : List Int32} {w_o_lvlN : Int32}, f_gatherLevel_7 zh zi zc zb n ze za v1 v2 v3 = some (w_o_lvlIds, w_o_lvlN) → OEnds own_P 19 7 [qr 1, qi v1, qi v2, qi v3, d4] [] (c0 :: bk0 zh zi zn zu zo zl zf zc zs zq zr ze zg zd zm zj zk zt zb zp za po) (none, (c0 :: bk0 zh zi zn zu zo zl zf zc zs zq zr w_o_lvlIds zg zd zm zj zk zt zb zp w_o_lvlN po), 0, 0) := by
  intro n
  induction n with
  | zero => intro ze za v1 v2 v3 d4 w_o_lvlIds w_o_lvlN h; cases h
  | succ n ih =>
    intro ze za v1 v2 v3 d4 w_o_lvlIds w_o_lvlN h
    unfold f_gatherLevel_7 at h
    refine OEnds.adv hm_19 3 (pc' := 12) (L' := [qr 1, qi v1, qi v2, qi v3, qu]) (S' := [.int zb, .int v3]) (H' := (c0 :: bk0 zh zi zn zu zo zl zf zc zs zq zr ze zg zd zm zj zk zt zb zp za po)) rfl ?_
    by_cases hc26 : v3 < zb
    · simp only [if_pos hc26] at h
      refine OEnds.icmpF hm_19 rfl ((tlt hc26).2.1) ?_
      refine OEnds.adv hm_19 3 (pc' := 20) (L' := [qr 1, qi v1, qi v2, qi v3, qu]) (S' := [.int v3, .ref 9]) (H' := (c0 :: bk0 zh zi zn zu zo zl zf zc zs zq zr ze zg zd zm zj zk zt zb zp za po)) rfl ?_
      obtain ⟨x31, hx31, h⟩ := bnd h
      refine OEnds.plain hm_19 rfl rfl (x_iaload rfl hx31) ?_
      refine OEnds.adv hm_19 4 (pc' := 29) (L' := [qr 1, qi v1, qi v2, qi v3, qi x31]) (S' := [.int x31, .ref 2]) (H' := (c0 :: bk0 zh zi zn zu zo zl zf zc zs zq zr ze zg zd zm zj zk zt zb zp za po)) rfl ?_
      obtain ⟨x32, hx32, h⟩ := bnd h
      refine OEnds.plain hm_19 rfl rfl (x_iaload rfl hx32) ?_
      refine OEnds.adv hm_19 1 (pc' := 31) (L' := [qr 1, qi v1, qi v2, qi v3, qi x31]) (S' := [.int v1, .int x32]) (H' := (c0 :: bk0 zh zi zn zu zo zl zf zc zs zq zr ze zg zd zm zj zk zt zb zp za po)) rfl ?_
      by_cases hc27 : x32 = v1
      · simp only [if_pos hc27] at h
        refine OEnds.icmpF hm_19 rfl ((teq hc27).2) ?_
        refine OEnds.adv hm_19 3 (pc' := 40) (L' := [qr 1, qi v1, qi v2, qi v3, qi x31]) (S' := [.int x31, .ref 3]) (H' := (c0 :: bk0 zh zi zn zu zo zl zf zc zs zq zr ze zg zd zm zj zk zt zb zp za po)) rfl ?_
        obtain ⟨x33, hx33, h⟩ := bnd h
        refine OEnds.plain hm_19 rfl rfl (x_iaload rfl hx33) ?_
        refine OEnds.adv hm_19 1 (pc' := 42) (L' := [qr 1, qi v1, qi v2, qi v3, qi x31]) (S' := [.int v2, .int x33]) (H' := (c0 :: bk0 zh zi zn zu zo zl zf zc zs zq zr ze zg zd zm zj zk zt zb zp za po)) rfl ?_
        by_cases hc28 : x33 = v2
        · simp only [if_pos hc28] at h
          refine OEnds.icmpF hm_19 rfl ((teq hc28).2) ?_
          refine OEnds.adv hm_19 3 (pc' := 51) (L' := [qr 1, qi v1, qi v2, qi v3, qi x31]) (S' := [.int 64, .int za]) (H' := (c0 :: bk0 zh zi zn zu zo zl zf zc zs zq zr ze zg zd zm zj zk zt zb zp za po)) rfl ?_
          by_cases hc29 : za < (64 : Int32)
          · simp only [if_pos hc29] at h
            refine OEnds.icmpF hm_19 rfl ((tlt hc29).2.1) ?_
            refine OEnds.adv hm_19 5 (pc' := 64) (L' := [qr 1, qi v1, qi v2, qi v3, qi x31]) (S' := [.int x31, .int za, .ref 13]) (H' := (c0 :: bk0 zh zi zn zu zo zl zf zc zs zq zr ze zg zd zm zj zk zt zb zp za po)) rfl ?_
            obtain ⟨A34, hA34, h⟩ := bnd h
            refine OEnds.plain hm_19 rfl rfl (x_iastore rfl (Nat.le_of_ble_eq_true rfl) hA34) ?_
            refine OEnds.adv hm_19 8 (pc' := 7) (L' := [qr 1, qi v1, qi v2, qi (v3 + (1 : Int32)), qi x31]) (S' := []) (H' := (c0 :: bk0 zh zi zn zu zo zl zf zc zs zq zr A34 zg zd zm zj zk zt zb zp (za + (1 : Int32)) po)) rfl ?_
            exact ih h
          · simp only [if_neg hc29] at h
            refine OEnds.icmpT hm_19 rfl (q := 75) rfl ((flt hc29).2.1) ?_
            refine OEnds.adv hm_19 2 (pc' := 7) (L' := [qr 1, qi v1, qi v2, qi (v3 + (1 : Int32)), qi x31]) (S' := []) (H' := (c0 :: bk0 zh zi zn zu zo zl zf zc zs zq zr ze zg zd zm zj zk zt zb zp za po)) rfl ?_
            exact ih h
        · simp only [if_neg hc28] at h
          refine OEnds.icmpT hm_19 rfl (q := 75) rfl ((feq hc28).2) ?_
          refine OEnds.adv hm_19 2 (pc' := 7) (L' := [qr 1, qi v1, qi v2, qi (v3 + (1 : Int32)), qi x31]) (S' := []) (H' := (c0 :: bk0 zh zi zn zu zo zl zf zc zs zq zr ze zg zd zm zj zk zt zb zp za po)) rfl ?_
          exact ih h
      · simp only [if_neg hc27] at h
        refine OEnds.icmpT hm_19 rfl (q := 75) rfl ((feq hc27).2) ?_
        refine OEnds.adv hm_19 2 (pc' := 7) (L' := [qr 1, qi v1, qi v2, qi (v3 + (1 : Int32)), qi x31]) (S' := []) (H' := (c0 :: bk0 zh zi zn zu zo zl zf zc zs zq zr ze zg zd zm zj zk zt zb zp za po)) rfl ?_
        exact ih h
    · simp only [if_neg hc26] at h
      refine OEnds.icmpT hm_19 rfl (q := 81) rfl ((flt hc26).2.1) ?_
      show OEnds own_P 19 81 [qr 1, qi v1, qi v2, qi v3, qu] [] (c0 :: bk0 zh zi zn zu zo zl zf zc zs zq zr ze zg zd zm zj zk zt zb zp za po) _
      cases h
      exact OEnds.vret hm_19 rfl rfl
theorem ok_gatherLevel {zh zi zn zu zo : List Int32} {zl : List Int64} {zf zc zs zq zr zg zd : List Int32} {zm zj zk : Int32} {zt : Int64} {zb zp : Int32} {c0 : ACell} {po : List ACell} {ze : List Int32} {za v1 v2 : Int32} {w_o_lvlIds : List Int32} {w_o_lvlN : Int32} (h : f_gatherLevel zh zi zc zb ze za v1 v2 = some (w_o_lvlIds, w_o_lvlN)) : OEnds own_P 19 0 [qr 1, qi v1, qi v2, qu, qu] [] (c0 :: bk0 zh zi zn zu zo zl zf zc zs zq zr ze zg zd zm zj zk zt zb zp za po) (none, (c0 :: bk0 zh zi zn zu zo zl zf zc zs zq zr w_o_lvlIds zg zd zm zj zk zt zb zp w_o_lvlN po), 0, 0) := by
  unfold f_gatherLevel at h
  refine OEnds.adv hm_19 5 (pc' := 7) (L' := [qr 1, qi v1, qi v2, qi 0, qu]) (S' := []) (H' := (c0 :: bk0 zh zi zn zu zo zl zf zc zs zq zr ze zg zd zm zj zk zt zb zp 0 po)) rfl ?_
  exact ok_gatherLevel_7 100000 h
theorem ok_sortLevel_73 {zh zi zn zu zo : List Int32} {zl : List Int64} {zf zc zs zq zr zg zd : List Int32} {zm zj zk : Int32} {zt : Int64} {zb zp za : Int32} {c0 : ACell} {po : List ACell} {kb : List Int32 → Int32 → Option (List Int32)} (hkb : ∀ {ze : List Int32} {v1 : Int32} {d2 d3 d4 d5 : Slot} {w_o_lvlIds : List Int32}, kb ze v1 = some w_o_lvlIds → OEnds own_P 20 2 [qr 1, qi v1, d2, d3, d4, d5] [] (c0 :: bk0 zh zi zn zu zo zl zf zc zs zq zr ze zg zd zm zj zk zt zb zp za po) (none, (c0 :: bk0 zh zi zn zu zo zl zf zc zs zq zr w_o_lvlIds zg zd zm zj zk zt zb zp za po), 0, 0)) : ∀ {ze : List Int32} {v1 v2 v5 : Int32} {d3 d4 : Slot} {w_o_lvlIds : List Int32}, f_sortLevel_73 kb zl za ze v1 v2 v5 = some w_o_lvlIds → OEnds own_P 20 73 [qr 1, qi v1, qi v2, d3, d4, qi v5] [] (c0 :: bk0 zh zi zn zu zo zl zf zc zs zq zr ze zg zd zm zj zk zt zb zp za po) (none, (c0 :: bk0 zh zi zn zu zo zl zf zc zs zq zr w_o_lvlIds zg zd zm zj zk zt zb zp za po), 0, 0) := by
  intro ze v1 v2 v5 d3 d4 w_o_lvlIds h
  unfold f_sortLevel_73 at h
  refine OEnds.adv hm_20 4 (pc' := 80) (L' := [qr 1, qi v1, qi v2, qu, qu, qi v5]) (S' := [.int v2, .int v5, .ref 13]) (H' := (c0 :: bk0 zh zi zn zu zo zl zf zc zs zq zr ze zg zd zm zj zk zt zb zp za po)) rfl ?_
  obtain ⟨A41, hA41, h⟩ := bnd h
  refine OEnds.plain hm_20 rfl rfl (x_iastore rfl (Nat.le_of_ble_eq_true rfl) hA41) ?_
  refine OEnds.adv hm_20 2 (pc' := 2) (L' := [qr 1, qi (v1 + (1 : Int32)), qi v2, qu, qu, qi v5]) (S' := []) (H' := (c0 :: bk0 zh zi zn zu zo zl zf zc zs zq zr A41 zg zd zm zj zk zt zb zp za po)) rfl ?_
  exact hkb h
theorem ok_sortLevel_27 {zh zi zn zu zo : List Int32} {zl : List Int64} {zf zc zs zq zr zg zd : List Int32} {zm zj zk : Int32} {zt : Int64} {zb zp za : Int32} {c0 : ACell} {po : List ACell} {k73 : List Int32 → Int32 → Int32 → Int32 → Option (List Int32)} (hk73 : ∀ {ze : List Int32} {v1 v2 v5 : Int32} {d3 d4 : Slot} {w_o_lvlIds : List Int32}, k73 ze v1 v2 v5 = some w_o_lvlIds → OEnds own_P 20 73 [qr 1, qi v1, qi v2, d3, d4, qi v5] [] (c0 :: bk0 zh zi zn zu zo zl zf zc zs zq zr ze zg zd zm zj zk zt zb zp za po) (none, (c0 :: bk0 zh zi zn zu zo zl zf zc zs zq zr w_o_lvlIds zg zd zm zj zk zt zb zp za po), 0, 0)) : ∀ (n : Nat), ∀ {ze : List Int32} {v1 v2 : Int32} {v3 : Int64} {v5 : Int32} {w_o_lvlIds : List Int32}, f_sortLevel_27 k73 zl za n ze v1 v2 v3 v5 = some w_o_lvlIds → OEnds own_P 20 27 [qr 1, qi v1, qi v2, ql v3, qw, qi v5] [] (c0 :: bk0 zh zi zn zu zo zl zf zc zs zq zr ze zg zd zm zj zk zt zb zp za po) (none, (c0 :: bk0 zh zi zn zu zo zl zf zc zs zq zr w_o_lvlIds zg zd zm zj zk zt zb zp za po), 0, 0) := by
  intro n
  induction n with
  | zero => intro ze v1 v2 v3 v5 w_o_lvlIds h; cases h
  | succ n ih =>
    intro ze v1 v2 v3 v5 w_o_lvlIds h
    unfold f_sortLevel_27 at h
    refine OEnds.adv hm_20 1 (pc' := 29) (L' := [qr 1, qi v1, qi v2, ql v3, qw, qi v5]) (S' := [.int v5]) (H' := (c0 :: bk0 zh zi zn zu zo zl zf zc zs zq zr ze zg zd zm zj zk zt zb zp za po)) rfl ?_
    by_cases hc30 : (0 : Int32) < v5
    · simp only [if_pos hc30] at h
      refine OEnds.ifF hm_20 rfl ((tlt hc30).2.2.2) ?_
      refine OEnds.adv hm_20 7 (pc' := 44) (L' := [qr 1, qi v1, qi v2, ql v3, qw, qi v5]) (S' := [.int (v5 - (1 : Int32)), .ref 13, .ref 7]) (H' := (c0 :: bk0 zh zi zn zu zo zl zf zc zs zq zr ze zg zd zm zj zk zt zb zp za po)) rfl ?_
      obtain ⟨x37, hx37, h⟩ := bnd h
      refine OEnds.plain hm_20 rfl rfl (x_iaload rfl hx37) ?_
      show OEnds own_P 20 45 [qr 1, qi v1, qi v2, ql v3, qw, qi v5] [.int x37, .ref 7] (c0 :: bk0 zh zi zn zu zo zl zf zc zs zq zr ze zg zd zm zj zk zt zb zp za po) _
      obtain ⟨x38, hx38, h⟩ := bnd h
      refine OEnds.plain hm_20 rfl rfl (x_laload rfl hx38) ?_
      refine OEnds.adv hm_20 2 (pc' := 48) (L' := [qr 1, qi v1, qi v2, ql v3, qw, qi v5]) (S' := [.int (XT.cmpL x38 v3)]) (H' := (c0 :: bk0 zh zi zn zu zo zl zf zc zs zq zr ze zg zd zm zj zk zt zb zp za po)) rfl ?_
      by_cases hc31 : v3 < x38
      · simp only [if_pos hc31] at h
        refine OEnds.ifF hm_20 rfl ((tlt (c_gt.mpr hc31)).2.2.2) ?_
        refine OEnds.adv hm_20 8 (pc' := 65) (L' := [qr 1, qi v1, qi v2, ql v3, qw, qi v5]) (S' := [.int (v5 - (1 : Int32)), .ref 13, .int v5, .ref 13]) (H' := (c0 :: bk0 zh zi zn zu zo zl zf zc zs zq zr ze zg zd zm zj zk zt zb zp za po)) rfl ?_
        obtain ⟨x39, hx39, h⟩ := bnd h
        refine OEnds.plain hm_20 rfl rfl (x_iaload rfl hx39) ?_
        show OEnds own_P 20 66 [qr 1, qi v1, qi v2, ql v3, qw, qi v5] [.int x39, .int v5, .ref 13] (c0 :: bk0 zh zi zn zu zo zl zf zc zs zq zr ze zg zd zm zj zk zt zb zp za po) _
        obtain ⟨A40, hA40, h⟩ := bnd h
        refine OEnds.plain hm_20 rfl rfl (x_iastore rfl (Nat.le_of_ble_eq_true rfl) hA40) ?_
        refine OEnds.adv hm_20 2 (pc' := 27) (L' := [qr 1, qi v1, qi v2, ql v3, qw, qi (v5 + (-1 : Int32))]) (S' := []) (H' := (c0 :: bk0 zh zi zn zu zo zl zf zc zs zq zr A40 zg zd zm zj zk zt zb zp za po)) rfl ?_
        exact ih h
      · simp only [if_neg hc31] at h
        refine OEnds.ifT hm_20 rfl (q := 73) rfl ((flt (mt c_gt.mp hc31)).2.2.2) ?_
        show OEnds own_P 20 73 [qr 1, qi v1, qi v2, ql v3, qw, qi v5] [] (c0 :: bk0 zh zi zn zu zo zl zf zc zs zq zr ze zg zd zm zj zk zt zb zp za po) _
        exact hk73 h
    · simp only [if_neg hc30] at h
      refine OEnds.ifT hm_20 rfl (q := 73) rfl ((flt hc30).2.2.2) ?_
      show OEnds own_P 20 73 [qr 1, qi v1, qi v2, ql v3, qw, qi v5] [] (c0 :: bk0 zh zi zn zu zo zl zf zc zs zq zr ze zg zd zm zj zk zt zb zp za po) _
      exact hk73 h
theorem ok_sortLevel_2 {zh zi zn zu zo : List Int32} {zl : List Int64} {zf zc zs zq zr zg zd : List Int32} {zm zj zk : Int32} {zt : Int64} {zb zp za : Int32} {c0 : ACell} {po : List ACell} : ∀ (n : Nat), ∀ {ze : List Int32} {v1 : Int32} {d2 d3 d4 d5 : Slot} {w_o_lvlIds : List Int32}, f_sortLevel_2 zl za n ze v1 = some w_o_lvlIds → OEnds own_P 20 2 [qr 1, qi v1, d2, d3, d4, d5] [] (c0 :: bk0 zh zi zn zu zo zl zf zc zs zq zr ze zg zd zm zj zk zt zb zp za po) (none, (c0 :: bk0 zh zi zn zu zo zl zf zc zs zq zr w_o_lvlIds zg zd zm zj zk zt zb zp za po), 0, 0) := by
  intro n
  induction n with
  | zero => intro ze v1 d2 d3 d4 d5 w_o_lvlIds h; cases h
  | succ n ih =>
    intro ze v1 d2 d3 d4 d5 w_o_lvlIds h
    unfold f_sortLevel_2 at h
    refine OEnds.adv hm_20 3 (pc' := 7) (L' := [qr 1, qi v1, qu, qu, qu, qu]) (S' := [.int za, .int v1]) (H' := (c0 :: bk0 zh zi zn zu zo zl zf zc zs zq zr ze zg zd zm zj zk zt zb zp za po)) rfl ?_
    by_cases hc32 : v1 < za
    · simp only [if_pos hc32] at h
      refine OEnds.icmpF hm_20 rfl ((tlt hc32).2.1) ?_
      refine OEnds.adv hm_20 3 (pc' := 15) (L' := [qr 1, qi v1, qu, qu, qu, qu]) (S' := [.int v1, .ref 13]) (H' := (c0 :: bk0 zh zi zn zu zo zl zf zc zs zq zr ze zg zd zm zj zk zt zb zp za po)) rfl ?_
      obtain ⟨x35, hx35, h⟩ := bnd h
      refine OEnds.plain hm_20 rfl rfl (x_iaload rfl hx35) ?_
      refine OEnds.adv hm_20 4 (pc' := 22) (L' := [qr 1, qi v1, qi x35, qu, qu, qu]) (S' := [.int x35, .ref 7]) (H' := (c0 :: bk0 zh zi zn zu zo zl zf zc zs zq zr ze zg zd zm zj zk zt zb zp za po)) rfl ?_
      obtain ⟨x36, hx36, h⟩ := bnd h
      refine OEnds.plain hm_20 rfl rfl (x_laload rfl hx36) ?_
      refine OEnds.adv hm_20 3 (pc' := 27) (L' := [qr 1, qi v1, qi x35, ql x36, qw, qi v1]) (S' := []) (H' := (c0 :: bk0 zh zi zn zu zo zl zf zc zs zq zr ze zg zd zm zj zk zt zb zp za po)) rfl ?_
      exact ok_sortLevel_27 (k73 := f_sortLevel_73 (f_sortLevel_2 zl za n) zl za) (ok_sortLevel_73 ih) 100000 h
    · simp only [if_neg hc32] at h
      refine OEnds.icmpT hm_20 rfl (q := 87) rfl ((flt hc32).2.1) ?_
      show OEnds own_P 20 87 [qr 1, qi v1, qu, qu, qu, qu] [] (c0 :: bk0 zh zi zn zu zo zl zf zc zs zq zr ze zg zd zm zj zk zt zb zp za po) _
      cases h
      exact OEnds.vret hm_20 rfl rfl
theorem ok_sortLevel {zh zi zn zu zo : List Int32} {zl : List Int64} {zf zc zs zq zr zg zd : List Int32} {zm zj zk : Int32} {zt : Int64} {zb zp za : Int32} {c0 : ACell} {po : List ACell} {ze w_o_lvlIds : List Int32} (h : f_sortLevel zl za ze = some w_o_lvlIds) : OEnds own_P 20 0 [qr 1, qu, qu, qu, qu, qu] [] (c0 :: bk0 zh zi zn zu zo zl zf zc zs zq zr ze zg zd zm zj zk zt zb zp za po) (none, (c0 :: bk0 zh zi zn zu zo zl zf zc zs zq zr w_o_lvlIds zg zd zm zj zk zt zb zp za po), 0, 0) := by
  unfold f_sortLevel at h
  refine OEnds.adv hm_20 2 (pc' := 2) (L' := [qr 1, qi 1, qu, qu, qu, qu]) (S' := []) (H' := (c0 :: bk0 zh zi zn zu zo zl zf zc zs zq zr ze zg zd zm zj zk zt zb zp za po)) rfl ?_
  exact ok_sortLevel_2 100000 h
theorem ok_topStep_80 {zh zi zn zu zo : List Int32} {zl : List Int64} {zf zc zs zq zr ze zg : List Int32} {zm zj zk : Int32} {zt : Int64} {zb zp za : Int32} {c0 : ACell} {po : List ACell} : ∀ {zd : List Int32} {v2 v4 : Int32} {d1 d3 : Slot} {res : Int32} {w_o_lvlA : List Int32}, f_topStep_80 zf ze zg zj za zd v2 v4 = some (res, w_o_lvlA) → OEnds own_P 22 80 [qr 1, d1, qi v2, d3, qi v4] [] (c0 :: bk0 zh zi zn zu zo zl zf zc zs zq zr ze zg zd zm zj zk zt zb zp za po) (some (.int res), (c0 :: bk0 zh zi zn zu zo zl zf zc zs zq zr ze zg w_o_lvlA zm zj zk zt zb zp za po), 0, 0) := by
  intro zd v2 v4 d1 d3 res w_o_lvlA h
  unfold f_topStep_80 at h
  refine OEnds.adv hm_22 4 (pc' := 86) (L' := [qr 1, qu, qi v2, qu, qi v4]) (S' := [.int v2, .ref 15, .int v2, .ref 15]) (H' := (c0 :: bk0 zh zi zn zu zo zl zf zc zs zq zr ze zg zd zm zj zk zt zb zp za po)) rfl ?_
  obtain ⟨x46, hx46, h⟩ := bnd h
  refine OEnds.plain hm_22 rfl rfl (x_iaload rfl hx46) ?_
  refine OEnds.adv hm_22 2 (pc' := 90) (L' := [qr 1, qu, qi v2, qu, qi v4]) (S' := [.int (x46 + v4), .int v2, .ref 15]) (H' := (c0 :: bk0 zh zi zn zu zo zl zf zc zs zq zr ze zg zd zm zj zk zt zb zp za po)) rfl ?_
  obtain ⟨A47, hA47, h⟩ := bnd h
  refine OEnds.plain hm_22 rfl rfl (x_iastore rfl (Nat.le_of_ble_eq_true rfl) hA47) ?_
  refine OEnds.adv hm_22 1 (pc' := 93) (L' := [qr 1, qu, qi v2, qu, qi v4]) (S' := [.int v4]) (H' := (c0 :: bk0 zh zi zn zu zo zl zf zc zs zq zr ze zg A47 zm zj zk zt zb zp za po)) rfl ?_
  cases h
  exact OEnds.iret hm_22 rfl rfl
theorem ok_topStep_72 {zh zi zn zu zo : List Int32} {zl : List Int64} {zf zc zs zq zr ze zg : List Int32} {zm zj zk : Int32} {zt : Int64} {zb zp za : Int32} {c0 : ACell} {po : List ACell} : ∀ {zd : List Int32} {v2 v4 : Int32} {d1 d3 : Slot} {res : Int32} {w_o_lvlA : List Int32}, f_topStep_72 zf ze zg zj za zd v2 v4 = some (res, w_o_lvlA) → OEnds own_P 22 72 [qr 1, d1, qi v2, d3, qi v4] [] (c0 :: bk0 zh zi zn zu zo zl zf zc zs zq zr ze zg zd zm zj zk zt zb zp za po) (some (.int res), (c0 :: bk0 zh zi zn zu zo zl zf zc zs zq zr ze zg w_o_lvlA zm zj zk zt zb zp za po), 0, 0) := by
  intro zd v2 v4 d1 d3 res w_o_lvlA h
  unfold f_topStep_72 at h
  refine OEnds.adv hm_22 1 (pc' := 74) (L' := [qr 1, qu, qi v2, qu, qi v4]) (S' := [.int v4]) (H' := (c0 :: bk0 zh zi zn zu zo zl zf zc zs zq zr ze zg zd zm zj zk zt zb zp za po)) rfl ?_
  by_cases hc33 : v4 < (0 : Int32)
  · simp only [if_pos hc33] at h
    refine OEnds.ifF hm_22 rfl ((tlt hc33).2.1) ?_
    refine OEnds.adv hm_22 2 (pc' := 80) (L' := [qr 1, qu, qi v2, qu, qi 0]) (S' := []) (H' := (c0 :: bk0 zh zi zn zu zo zl zf zc zs zq zr ze zg zd zm zj zk zt zb zp za po)) rfl ?_
    exact ok_topStep_80 h
  · simp only [if_neg hc33] at h
    refine OEnds.ifT hm_22 rfl (q := 80) rfl ((flt hc33).2.1) ?_
    show OEnds own_P 22 80 [qr 1, qu, qi v2, qu, qi v4] [] (c0 :: bk0 zh zi zn zu zo zl zf zc zs zq zr ze zg zd zm zj zk zt zb zp za po) _
    exact ok_topStep_80 h
theorem ok_topStep_57 {zh zi zn zu zo : List Int32} {zl : List Int64} {zf zc zs zq zr ze zg : List Int32} {zm zj zk : Int32} {zt : Int64} {zb zp za : Int32} {c0 : ACell} {po : List ACell} : ∀ {zd : List Int32} {v2 v4 : Int32} {d1 d3 : Slot} {res : Int32} {w_o_lvlA : List Int32}, f_topStep_57 zf ze zg zj za zd v2 v4 = some (res, w_o_lvlA) → OEnds own_P 22 57 [qr 1, d1, qi v2, d3, qi v4] [] (c0 :: bk0 zh zi zn zu zo zl zf zc zs zq zr ze zg zd zm zj zk zt zb zp za po) (some (.int res), (c0 :: bk0 zh zi zn zu zo zl zf zc zs zq zr ze zg w_o_lvlA zm zj zk zt zb zp za po), 0, 0) := by
  intro zd v2 v4 d1 d3 res w_o_lvlA h
  unfold f_topStep_57 at h
  refine OEnds.adv hm_22 3 (pc' := 63) (L' := [qr 1, qu, qi v2, qu, qi v4]) (S' := [.int v4, .int zj]) (H' := (c0 :: bk0 zh zi zn zu zo zl zf zc zs zq zr ze zg zd zm zj zk zt zb zp za po)) rfl ?_
  by_cases hc34 : zj < v4
  · simp only [if_pos hc34] at h
    refine OEnds.icmpF hm_22 rfl ((tlt hc34).2.1) ?_
    refine OEnds.adv hm_22 3 (pc' := 72) (L' := [qr 1, qu, qi v2, qu, qi zj]) (S' := []) (H' := (c0 :: bk0 zh zi zn zu zo zl zf zc zs zq zr ze zg zd zm zj zk zt zb zp za po)) rfl ?_
    exact ok_topStep_72 h
  · simp only [if_neg hc34] at h
    refine OEnds.icmpT hm_22 rfl (q := 72) rfl ((flt hc34).2.1) ?_
    show OEnds own_P 22 72 [qr 1, qu, qi v2, qu, qi v4] [] (c0 :: bk0 zh zi zn zu zo zl zf zc zs zq zr ze zg zd zm zj zk zt zb zp za po) _
    exact ok_topStep_72 h
theorem ok_topStep_35 {zh zi zn zu zo : List Int32} {zl : List Int64} {zf zc zs zq zr ze zg : List Int32} {zm zj zk : Int32} {zt : Int64} {zb zp za : Int32} {c0 : ACell} {po : List ACell} : ∀ {zd : List Int32} {v1 v2 : Int32} {d3 d4 : Slot} {res : Int32} {w_o_lvlA : List Int32}, f_topStep_35 zf ze zg zj za zd v1 v2 = some (res, w_o_lvlA) → OEnds own_P 22 35 [qr 1, qi v1, qi v2, d3, d4] [] (c0 :: bk0 zh zi zn zu zo zl zf zc zs zq zr ze zg zd zm zj zk zt zb zp za po) (some (.int res), (c0 :: bk0 zh zi zn zu zo zl zf zc zs zq zr ze zg w_o_lvlA zm zj zk zt zb zp za po), 0, 0) := by
  intro zd v1 v2 d3 d4 res w_o_lvlA h
  unfold f_topStep_35 at h
  refine OEnds.adv hm_22 5 (pc' := 43) (L' := [qr 1, qi v1, qi v2, qu, qi v1]) (S' := [.int v2, .ref 14]) (H' := (c0 :: bk0 zh zi zn zu zo zl zf zc zs zq zr ze zg zd zm zj zk zt zb zp za po)) rfl ?_
  obtain ⟨x44, hx44, h⟩ := bnd h
  refine OEnds.plain hm_22 rfl rfl (x_iaload rfl hx44) ?_
  refine OEnds.adv hm_22 1 (pc' := 46) (L' := [qr 1, qi v1, qi v2, qu, qi v1]) (S' := [.int v1, .int x44]) (H' := (c0 :: bk0 zh zi zn zu zo zl zf zc zs zq zr ze zg zd zm zj zk zt zb zp za po)) rfl ?_
  by_cases hc35 : x44 < v1
  · simp only [if_pos hc35] at h
    refine OEnds.icmpF hm_22 rfl ((tlt hc35).2.1) ?_
    refine OEnds.adv hm_22 3 (pc' := 54) (L' := [qr 1, qi v1, qi v2, qu, qi v1]) (S' := [.int v2, .ref 14]) (H' := (c0 :: bk0 zh zi zn zu zo zl zf zc zs zq zr ze zg zd zm zj zk zt zb zp za po)) rfl ?_
    obtain ⟨x45, hx45, h⟩ := bnd h
    refine OEnds.plain hm_22 rfl rfl (x_iaload rfl hx45) ?_
    refine OEnds.adv hm_22 1 (pc' := 57) (L' := [qr 1, qi v1, qi v2, qu, qi x45]) (S' := []) (H' := (c0 :: bk0 zh zi zn zu zo zl zf zc zs zq zr ze zg zd zm zj zk zt zb zp za po)) rfl ?_
    exact ok_topStep_57 h
  · simp only [if_neg hc35] at h
    refine OEnds.icmpT hm_22 rfl (q := 57) rfl ((flt hc35).2.1) ?_
    show OEnds own_P 22 57 [qr 1, qi v1, qi v2, qu, qi v1] [] (c0 :: bk0 zh zi zn zu zo zl zf zc zs zq zr ze zg zd zm zj zk zt zb zp za po) _
    exact ok_topStep_57 h
theorem ok_topStep_11 {zh zi zn zu zo : List Int32} {zl : List Int64} {zf zc zs zq zr ze zg : List Int32} {zm zj zk : Int32} {zt : Int64} {zb zp za : Int32} {c0 : ACell} {po : List ACell} {k35 : List Int32 → Int32 → Int32 → Option (Int32 × List Int32)} (hk35 : ∀ {zd : List Int32} {v1 v2 : Int32} {d3 d4 : Slot} {res : Int32} {w_o_lvlA : List Int32}, k35 zd v1 v2 = some (res, w_o_lvlA) → OEnds own_P 22 35 [qr 1, qi v1, qi v2, d3, d4] [] (c0 :: bk0 zh zi zn zu zo zl zf zc zs zq zr ze zg zd zm zj zk zt zb zp za po) (some (.int res), (c0 :: bk0 zh zi zn zu zo zl zf zc zs zq zr ze zg w_o_lvlA zm zj zk zt zb zp za po), 0, 0)) : ∀ (n : Nat), ∀ {zd : List Int32} {v1 v2 : Int32} {d3 d4 : Slot} {res : Int32} {w_o_lvlA : List Int32}, f_topStep_11 k35 zf ze zg zj za n zd v1 v2 = some (res, w_o_lvlA) → OEnds own_P 22 11 [qr 1, qi v1, qi v2, d3, d4] [] (c0 :: bk0 zh zi zn zu zo zl zf zc zs zq zr ze zg zd zm zj zk zt zb zp za po) (some (.int res), (c0 :: bk0 zh zi zn zu zo zl zf zc zs zq zr ze zg w_o_lvlA zm zj zk zt zb zp za po), 0, 0) := by
  intro n
  induction n with
  | zero => intro zd v1 v2 d3 d4 res w_o_lvlA h; cases h
  | succ n ih =>
    intro zd v1 v2 d3 d4 res w_o_lvlA h
    unfold f_topStep_11 at h
    refine OEnds.adv hm_22 3 (pc' := 16) (L' := [qr 1, qi v1, qi v2, qu, qu]) (S' := [.int za, .int v2]) (H' := (c0 :: bk0 zh zi zn zu zo zl zf zc zs zq zr ze zg zd zm zj zk zt zb zp za po)) rfl ?_
    by_cases hc36 : v2 < za
    · simp only [if_pos hc36] at h
      refine OEnds.icmpF hm_22 rfl ((tlt hc36).2.1) ?_
      refine OEnds.adv hm_22 3 (pc' := 24) (L' := [qr 1, qi v1, qi v2, qu, qu]) (S' := [.int v2, .ref 13]) (H' := (c0 :: bk0 zh zi zn zu zo zl zf zc zs zq zr ze zg zd zm zj zk zt zb zp za po)) rfl ?_
      obtain ⟨x42, hx42, h⟩ := bnd h
      refine OEnds.plain hm_22 rfl rfl (x_iaload rfl hx42) ?_
      refine OEnds.adv hm_22 4 (pc' := 31) (L' := [qr 1, qi v1, qi v2, qi x42, qu]) (S' := [.int x42, .ref 8]) (H' := (c0 :: bk0 zh zi zn zu zo zl zf zc zs zq zr ze zg zd zm zj zk zt zb zp za po)) rfl ?_
      obtain ⟨x43, hx43, h⟩ := bnd h
      refine OEnds.plain hm_22 rfl rfl (x_baload rfl hx43) ?_
      show OEnds own_P 22 32 [qr 1, qi v1, qi v2, qi x42, qu] [.int x43] (c0 :: bk0 zh zi zn zu zo zl zf zc zs zq zr ze zg zd zm zj zk zt zb zp za po) _
      by_cases hc37 : x43 = (0 : Int32)
      · simp only [if_pos hc37] at h
        refine OEnds.ifT hm_22 rfl (q := 94) rfl ((teq hc37).1) ?_
        refine OEnds.adv hm_22 2 (pc' := 11) (L' := [qr 1, qi v1, qi (v2 + (1 : Int32)), qi x42, qu]) (S' := []) (H' := (c0 :: bk0 zh zi zn zu zo zl zf zc zs zq zr ze zg zd zm zj zk zt zb zp za po)) rfl ?_
        exact ih h
      · simp only [if_neg hc37] at h
        refine OEnds.ifF hm_22 rfl ((feq hc37).1) ?_
        show OEnds own_P 22 35 [qr 1, qi v1, qi v2, qi x42, qu] [] (c0 :: bk0 zh zi zn zu zo zl zf zc zs zq zr ze zg zd zm zj zk zt zb zp za po) _
        exact hk35 h
    · simp only [if_neg hc36] at h
      refine OEnds.icmpT hm_22 rfl (q := 100) rfl ((flt hc36).2.1) ?_
      refine OEnds.adv hm_22 1 (pc' := 101) (L' := [qr 1, qi v1, qi v2, qu, qu]) (S' := [.int 0]) (H' := (c0 :: bk0 zh zi zn zu zo zl zf zc zs zq zr ze zg zd zm zj zk zt zb zp za po)) rfl ?_
      cases h
      exact OEnds.iret hm_22 rfl rfl
theorem ok_topStep {zh zi zn zu zo : List Int32} {zl : List Int64} {zf zc zs zq zr ze zg : List Int32} {zm zj zk : Int32} {zt : Int64} {zb zp za : Int32} {c0 : ACell} {po : List ACell} {zd : List Int32} {v1 res : Int32} {w_o_lvlA : List Int32} (h : f_topStep zf ze zg zj za zd v1 = some (res, w_o_lvlA)) : OEnds own_P 22 0 [qr 1, qi v1, qu, qu, qu] [] (c0 :: bk0 zh zi zn zu zo zl zf zc zs zq zr ze zg zd zm zj zk zt zb zp za po) (some (.int res), (c0 :: bk0 zh zi zn zu zo zl zf zc zs zq zr ze zg w_o_lvlA zm zj zk zt zb zp za po), 0, 0) := by
  unfold f_topStep at h
  refine OEnds.adv hm_22 2 (pc' := 4) (L' := [qr 1, qi v1, qu, qu, qu]) (S' := [.int zj]) (H' := (c0 :: bk0 zh zi zn zu zo zl zf zc zs zq zr ze zg zd zm zj zk zt zb zp za po)) rfl ?_
  by_cases hc38 : (0 : Int32) < zj
  · simp only [if_pos hc38] at h
    refine OEnds.ifT hm_22 rfl (q := 9) rfl ((tlt hc38).2.2.1) ?_
    refine OEnds.adv hm_22 2 (pc' := 11) (L' := [qr 1, qi v1, qi 0, qu, qu]) (S' := []) (H' := (c0 :: bk0 zh zi zn zu zo zl zf zc zs zq zr ze zg zd zm zj zk zt zb zp za po)) rfl ?_
    exact ok_topStep_11 (k35 := f_topStep_35 zf ze zg zj za) ok_topStep_35 100000 h
  · simp only [if_neg hc38] at h
    refine OEnds.ifF hm_22 rfl ((flt hc38).2.2.1) ?_
    refine OEnds.adv hm_22 1 (pc' := 8) (L' := [qr 1, qi v1, qu, qu, qu]) (S' := [.int 0]) (H' := (c0 :: bk0 zh zi zn zu zo zl zf zc zs zq zr ze zg zd zm zj zk zt zb zp za po)) rfl ?_
    cases h
    exact OEnds.iret hm_22 rfl rfl
theorem ok_proRataStep_102 {zh zi zn zu zo : List Int32} {zl : List Int64} {zf zc zs zq zr ze zg : List Int32} {zm zj zk : Int32} {zt : Int64} {zb zp za : Int32} {c0 : ACell} {po : List ACell} {kb : List Int32 → Int32 → Int64 → Int32 → Int32 → Option (Int32 × List Int32)} (hkb : ∀ {zd : List Int32} {v1 : Int32} {v2 : Int64} {v4 v5 : Int32} {d6 d7 d8 : Slot} {res : Int32} {w_o_lvlA : List Int32}, kb zd v1 v2 v4 v5 = some (res, w_o_lvlA) → OEnds own_P 30 53 [qr 1, qi v1, ql v2, qw, qi v4, qi v5, d6, d7, d8] [] (c0 :: bk0 zh zi zn zu zo zl zf zc zs zq zr ze zg zd zm zj zk zt zb zp za po) (some (.int res), (c0 :: bk0 zh zi zn zu zo zl zf zc zs zq zr ze zg w_o_lvlA zm zj zk zt zb zp za po), 0, 0)) : ∀ {zd : List Int32} {v1 : Int32} {v2 : Int64} {v4 v5 v8 : Int32} {d6 d7 : Slot} {res : Int32} {w_o_lvlA : List Int32}, f_proRataStep_102 kb zg zm za zd v1 v2 v4 v5 v8 = some (res, w_o_lvlA) → OEnds own_P 30 102 [qr 1, qi v1, ql v2, qw, qi v4, qi v5, d6, d7, qi v8] [] (c0 :: bk0 zh zi zn zu zo zl zf zc zs zq zr ze zg zd zm zj zk zt zb zp za po) (some (.int res), (c0 :: bk0 zh zi zn zu zo zl zf zc zs zq zr ze zg w_o_lvlA zm zj zk zt zb zp za po), 0, 0) := by
  intro zd v1 v2 v4 v5 v8 d6 d7 res w_o_lvlA h
  unfold f_proRataStep_102 at h
  refine OEnds.adv hm_30 4 (pc' := 109) (L' := [qr 1, qi v1, ql v2, qw, qi v4, qi v5, qu, qu, qi v8]) (S' := [.int v5, .ref 15, .int v5, .ref 15]) (H' := (c0 :: bk0 zh zi zn zu zo zl zf zc zs zq zr ze zg zd zm zj zk zt zb zp za po)) rfl ?_
  obtain ⟨x52, hx52, h⟩ := bnd h
  refine OEnds.plain hm_30 rfl rfl (x_iaload rfl hx52) ?_
  refine OEnds.adv hm_30 2 (pc' := 113) (L' := [qr 1, qi v1, ql v2, qw, qi v4, qi v5, qu, qu, qi v8]) (S' := [.int (x52 + v8), .int v5, .ref 15]) (H' := (c0 :: bk0 zh zi zn zu zo zl zf zc zs zq zr ze zg zd zm zj zk zt zb zp za po)) rfl ?_
  obtain ⟨A53, hA53, h⟩ := bnd h
  refine OEnds.plain hm_30 rfl rfl (x_iastore rfl (Nat.le_of_ble_eq_true rfl) hA53) ?_
  refine OEnds.adv hm_30 6 (pc' := 53) (L' := [qr 1, qi v1, ql v2, qw, qi (v4 + v8), qi (v5 + (1 : Int32)), qu, qu, qi v8]) (S' := []) (H' := (c0 :: bk0 zh zi zn zu zo zl zf zc zs zq zr ze zg A53 zm zj zk zt zb zp za po)) rfl ?_
  exact hkb h
theorem ok_proRataStep_53 {zh zi zn zu zo : List Int32} {zl : List Int64} {zf zc zs zq zr ze zg : List Int32} {zm zj zk : Int32} {zt : Int64} {zb zp za : Int32} {c0 : ACell} {po : List ACell} : ∀ (n : Nat), ∀ {zd : List Int32} {v1 : Int32} {v2 : Int64} {v4 v5 : Int32} {d6 d7 d8 : Slot} {res : Int32} {w_o_lvlA : List Int32}, f_proRataStep_53 zg zm za n zd v1 v2 v4 v5 = some (res, w_o_lvlA) → OEnds own_P 30 53 [qr 1, qi v1, ql v2, qw, qi v4, qi v5, d6, d7, d8] [] (c0 :: bk0 zh zi zn zu zo zl zf zc zs zq zr ze zg zd zm zj zk zt zb zp za po) (some (.int res), (c0 :: bk0 zh zi zn zu zo zl zf zc zs zq zr ze zg w_o_lvlA zm zj zk zt zb zp za po), 0, 0) := by
  intro n
  induction n with
  | zero => intro zd v1 v2 v4 v5 d6 d7 d8 res w_o_lvlA h; cases h
  | succ n ih =>
    intro zd v1 v2 v4 v5 d6 d7 d8 res w_o_lvlA h
    unfold f_proRataStep_53 at h
    refine OEnds.adv hm_30 3 (pc' := 59) (L' := [qr 1, qi v1, ql v2, qw, qi v4, qi v5, qu, qu, qu]) (S' := [.int za, .int v5]) (H' := (c0 :: bk0 zh zi zn zu zo zl zf zc zs zq zr ze zg zd zm zj zk zt zb zp za po)) rfl ?_
    by_cases hc39 : v5 < za
    · simp only [if_pos hc39] at h
      refine OEnds.icmpF hm_30 rfl ((tlt hc39).2.1) ?_
      refine OEnds.adv hm_30 3 (pc' := 68) (L' := [qr 1, qi v1, ql v2, qw, qi v4, qi v5, qu, qu, qu]) (S' := [.int v5, .ref 14]) (H' := (c0 :: bk0 zh zi zn zu zo zl zf zc zs zq zr ze zg zd zm zj zk zt zb zp za po)) rfl ?_
      obtain ⟨x50, hx50, h⟩ := bnd h
      refine OEnds.plain hm_30 rfl rfl (x_iaload rfl hx50) ?_
      refine OEnds.adv hm_30 3 (pc' := 75) (L' := [qr 1, qi v1, ql v2, qw, qi v4, qi v5, qu, qu, qu]) (S' := [.int v5, .ref 15, .int x50]) (H' := (c0 :: bk0 zh zi zn zu zo zl zf zc zs zq zr ze zg zd zm zj zk zt zb zp za po)) rfl ?_
      obtain ⟨x51, hx51, h⟩ := bnd h
      refine OEnds.plain hm_30 rfl rfl (x_iaload rfl hx51) ?_
      refine OEnds.adv hm_30 8 (pc' := 86) (L' := [qr 1, qi v1, ql v2, qw, qi v4, qi v5, ql (x50 - x51).toInt64, qw, qu]) (S' := [.long v2, .long (v1.toInt64 * (x50 - x51).toInt64)]) (H' := (c0 :: bk0 zh zi zn zu zo zl zf zc zs zq zr ze zg zd zm zj zk zt zb zp za po)) rfl ?_
      by_cases hz40 : v2 = 0
      · simp only [if_pos hz40] at h
        cases h
      simp only [if_neg hz40] at h
      refine OEnds.plain hm_30 rfl rfl (x_ldiv hz40) ?_
      refine OEnds.adv hm_30 5 (pc' := 96) (L' := [qr 1, qi v1, ql v2, qw, qi v4, qi v5, ql (x50 - x51).toInt64, qw, qi ((v1.toInt64 * (x50 - x51).toInt64) / v2).toInt32]) (S' := [.int zm, .int ((v1.toInt64 * (x50 - x51).toInt64) / v2).toInt32]) (H' := (c0 :: bk0 zh zi zn zu zo zl zf zc zs zq zr ze zg zd zm zj zk zt zb zp za po)) rfl ?_
      by_cases hc41 : ((v1.toInt64 * (x50 - x51).toInt64) / v2).toInt32 < zm
      · simp only [if_pos hc41] at h
        refine OEnds.icmpF hm_30 rfl ((tlt hc41).2.1) ?_
        refine OEnds.adv hm_30 2 (pc' := 102) (L' := [qr 1, qi v1, ql v2, qw, qi v4, qi v5, ql (x50 - x51).toInt64, qw, qi 0]) (S' := []) (H' := (c0 :: bk0 zh zi zn zu zo zl zf zc zs zq zr ze zg zd zm zj zk zt zb zp za po)) rfl ?_
        exact ok_proRataStep_102 ih h
      · simp only [if_neg hc41] at h
        refine OEnds.icmpT hm_30 rfl (q := 102) rfl ((flt hc41).2.1) ?_
        show OEnds own_P 30 102 [qr 1, qi v1, ql v2, qw, qi v4, qi v5, ql (x50 - x51).toInt64, qw, qi ((v1.toInt64 * (x50 - x51).toInt64) / v2).toInt32] [] (c0 :: bk0 zh zi zn zu zo zl zf zc zs zq zr ze zg zd zm zj zk zt zb zp za po) _
        exact ok_proRataStep_102 ih h
    · simp only [if_neg hc39] at h
      refine OEnds.icmpT hm_30 rfl (q := 127) rfl ((flt hc39).2.1) ?_
      refine OEnds.adv hm_30 1 (pc' := 129) (L' := [qr 1, qi v1, ql v2, qw, qi v4, qi v5, qu, qu, qu]) (S' := [.int v4]) (H' := (c0 :: bk0 zh zi zn zu zo zl zf zc zs zq zr ze zg zd zm zj zk zt zb zp za po)) rfl ?_
      cases h
      exact OEnds.iret hm_30 rfl rfl
theorem ok_proRataStep_39 {zh zi zn zu zo : List Int32} {zl : List Int64} {zf zc zs zq zr ze zg : List Int32} {zm zj zk : Int32} {zt : Int64} {zb zp za : Int32} {c0 : ACell} {po : List ACell} : ∀ {zd : List Int32} {v1 : Int32} {v2 : Int64} {d4 d5 d6 d7 d8 : Slot} {res : Int32} {w_o_lvlA : List Int32}, f_proRataStep_39 zg zm za zd v1 v2 = some (res, w_o_lvlA) → OEnds own_P 30 39 [qr 1, qi v1, ql v2, qw, d4, d5, d6, d7, d8] [] (c0 :: bk0 zh zi zn zu zo zl zf zc zs zq zr ze zg zd zm zj zk zt zb zp za po) (some (.int res), (c0 :: bk0 zh zi zn zu zo zl zf zc zs zq zr ze zg w_o_lvlA zm zj zk zt zb zp za po), 0, 0) := by
  intro zd v1 v2 d4 d5 d6 d7 d8 res w_o_lvlA h
  unfold f_proRataStep_39 at h
  refine OEnds.adv hm_30 3 (pc' := 42) (L' := [qr 1, qi v1, ql v2, qw, qu, qu, qu, qu, qu]) (S' := [.int (XT.cmpL v2 (0 : Int64))]) (H' := (c0 :: bk0 zh zi zn zu zo zl zf zc zs zq zr ze zg zd zm zj zk zt zb zp za po)) rfl ?_
  by_cases hc42 : (0 : Int64) < v2
  · simp only [if_pos hc42] at h
    refine OEnds.ifT hm_30 rfl (q := 47) rfl ((tlt (c_gt.mpr hc42)).2.2.1) ?_
    refine OEnds.adv hm_30 4 (pc' := 53) (L' := [qr 1, qi v1, ql v2, qw, qi 0, qi 0, qu, qu, qu]) (S' := []) (H' := (c0 :: bk0 zh zi zn zu zo zl zf zc zs zq zr ze zg zd zm zj zk zt zb zp za po)) rfl ?_
    exact ok_proRataStep_53 100000 h
  · simp only [if_neg hc42] at h
    refine OEnds.ifF hm_30 rfl ((flt (mt c_gt.mp hc42)).2.2.1) ?_
    refine OEnds.adv hm_30 1 (pc' := 46) (L' := [qr 1, qi v1, ql v2, qw, qu, qu, qu, qu, qu]) (S' := [.int 0]) (H' := (c0 :: bk0 zh zi zn zu zo zl zf zc zs zq zr ze zg zd zm zj zk zt zb zp za po)) rfl ?_
    cases h
    exact OEnds.iret hm_30 rfl rfl
theorem ok_proRataStep_5 {zh zi zn zu zo : List Int32} {zl : List Int64} {zf zc zs zq zr ze zg : List Int32} {zm zj zk : Int32} {zt : Int64} {zb zp za : Int32} {c0 : ACell} {po : List ACell} {k39 : List Int32 → Int32 → Int64 → Option (Int32 × List Int32)} (hk39 : ∀ {zd : List Int32} {v1 : Int32} {v2 : Int64} {d4 d5 d6 d7 d8 : Slot} {res : Int32} {w_o_lvlA : List Int32}, k39 zd v1 v2 = some (res, w_o_lvlA) → OEnds own_P 30 39 [qr 1, qi v1, ql v2, qw, d4, d5, d6, d7, d8] [] (c0 :: bk0 zh zi zn zu zo zl zf zc zs zq zr ze zg zd zm zj zk zt zb zp za po) (some (.int res), (c0 :: bk0 zh zi zn zu zo zl zf zc zs zq zr ze zg w_o_lvlA zm zj zk zt zb zp za po), 0, 0)) : ∀ (n : Nat), ∀ {zd : List Int32} {v1 : Int32} {v2 : Int64} {v4 : Int32} {d5 d6 d7 d8 : Slot} {res : Int32} {w_o_lvlA : List Int32}, f_proRataStep_5 k39 zg zm za n zd v1 v2 v4 = some (res, w_o_lvlA) → OEnds own_P 30 5 [qr 1, qi v1, ql v2, qw, qi v4, d5, d6, d7, d8] [] (c0 :: bk0 zh zi zn zu zo zl zf zc zs zq zr ze zg zd zm zj zk zt zb zp za po) (some (.int res), (c0 :: bk0 zh zi zn zu zo zl zf zc zs zq zr ze zg w_o_lvlA zm zj zk zt zb zp za po), 0, 0) := by
  intro n
  induction n with
  | zero => intro zd v1 v2 v4 d5 d6 d7 d8 res w_o_lvlA h; cases h
  | succ n ih =>
    intro zd v1 v2 v4 d5 d6 d7 d8 res w_o_lvlA h
    unfold f_proRataStep_5 at h
    refine OEnds.adv hm_30 3 (pc' := 11) (L' := [qr 1, qi v1, ql v2, qw, qi v4, qu, qu, qu, qu]) (S' := [.int za, .int v4]) (H' := (c0 :: bk0 zh zi zn zu zo zl zf zc zs zq zr ze zg zd zm zj zk zt zb zp za po)) rfl ?_
    by_cases hc43 : v4 < za
    · simp only [if_pos hc43] at h
      refine OEnds.icmpF hm_30 rfl ((tlt hc43).2.1) ?_
      refine OEnds.adv hm_30 4 (pc' := 21) (L' := [qr 1, qi v1, ql v2, qw, qi v4, qu, qu, qu, qu]) (S' := [.int v4, .ref 14, .long v2]) (H' := (c0 :: bk0 zh zi zn zu zo zl zf zc zs zq zr ze zg zd zm zj zk zt zb zp za po)) rfl ?_
      obtain ⟨x48, hx48, h⟩ := bnd h
      refine OEnds.plain hm_30 rfl rfl (x_iaload rfl hx48) ?_
      refine OEnds.adv hm_30 3 (pc' := 28) (L' := [qr 1, qi v1, ql v2, qw, qi v4, qu, qu, qu, qu]) (S' := [.int v4, .ref 15, .int x48, .long v2]) (H' := (c0 :: bk0 zh zi zn zu zo zl zf zc zs zq zr ze zg zd zm zj zk zt zb zp za po)) rfl ?_
      obtain ⟨x49, hx49, h⟩ := bnd h
      refine OEnds.plain hm_30 rfl rfl (x_iaload rfl hx49) ?_
      refine OEnds.adv hm_30 6 (pc' := 5) (L' := [qr 1, qi v1, ql (v2 + (x48 - x49).toInt64), qw, qi (v4 + (1 : Int32)), qu, qu, qu, qu]) (S' := []) (H' := (c0 :: bk0 zh zi zn zu zo zl zf zc zs zq zr ze zg zd zm zj zk zt zb zp za po)) rfl ?_
      exact ih h
    · simp only [if_neg hc43] at h
      refine OEnds.icmpT hm_30 rfl (q := 39) rfl ((flt hc43).2.1) ?_
      show OEnds own_P 30 39 [qr 1, qi v1, ql v2, qw, qi v4, qu, qu, qu, qu] [] (c0 :: bk0 zh zi zn zu zo zl zf zc zs zq zr ze zg zd zm zj zk zt zb zp za po) _
      exact hk39 h
theorem ok_proRataStep {zh zi zn zu zo : List Int32} {zl : List Int64} {zf zc zs zq zr ze zg : List Int32} {zm zj zk : Int32} {zt : Int64} {zb zp za : Int32} {c0 : ACell} {po : List ACell} {zd : List Int32} {v1 res : Int32} {w_o_lvlA : List Int32} (h : f_proRataStep zg zm za zd v1 = some (res, w_o_lvlA)) : OEnds own_P 30 0 [qr 1, qi v1, qu, qu, qu, qu, qu, qu, qu] [] (c0 :: bk0 zh zi zn zu zo zl zf zc zs zq zr ze zg zd zm zj zk zt zb zp za po) (some (.int res), (c0 :: bk0 zh zi zn zu zo zl zf zc zs zq zr ze zg w_o_lvlA zm zj zk zt zb zp za po), 0, 0) := by
  unfold f_proRataStep at h
  refine OEnds.adv hm_30 4 (pc' := 5) (L' := [qr 1, qi v1, ql 0, qw, qi 0, qu, qu, qu, qu]) (S' := []) (H' := (c0 :: bk0 zh zi zn zu zo zl zf zc zs zq zr ze zg zd zm zj zk zt zb zp za po)) rfl ?_
  exact ok_proRataStep_5 (k39 := f_proRataStep_39 zg zm za) ok_proRataStep_39 100000 h
theorem ok_timeStep_43 {zh zi zn zu zo : List Int32} {zl : List Int64} {zf zc zs zq zr ze zg : List Int32} {zm zj zk : Int32} {zt : Int64} {zb zp za : Int32} {c0 : ACell} {po : List ACell} {kb : List Int32 → Int32 → Int32 → Option (List Int32)} (hkb : ∀ {zd : List Int32} {v2 v3 : Int32} {d1 d4 d5 : Slot} {w_o_lvlA : List Int32}, kb zd v2 v3 = some w_o_lvlA → OEnds own_P 23 4 [qr 1, d1, qi v2, qi v3, d4, d5] [] (c0 :: bk0 zh zi zn zu zo zl zf zc zs zq zr ze zg zd zm zj zk zt zb zp za po) (none, (c0 :: bk0 zh zi zn zu zo zl zf zc zs zq zr ze zg w_o_lvlA zm zj zk zt zb zp za po), 0, 0)) : ∀ {zd : List Int32} {v2 v3 t0 : Int32} {d1 d4 d5 : Slot} {w_o_lvlA : List Int32}, f_timeStep_43 kb zg za zd v2 v3 t0 = some w_o_lvlA → OEnds own_P 23 43 [qr 1, d1, qi v2, qi v3, d4, d5] [.int t0] (c0 :: bk0 zh zi zn zu zo zl zf zc zs zq zr ze zg zd zm zj zk zt zb zp za po) (none, (c0 :: bk0 zh zi zn zu zo zl zf zc zs zq zr ze zg w_o_lvlA zm zj zk zt zb zp za po), 0, 0) := by
  intro zd v2 v3 t0 d1 d4 d5 w_o_lvlA h
  unfold f_timeStep_43 at h
  refine OEnds.adv hm_23 2 (pc' := 47) (L' := [qr 1, qu, qi v2, qi v3, qu, qi t0]) (S' := [.int t0]) (H' := (c0 :: bk0 zh zi zn zu zo zl zf zc zs zq zr ze zg zd zm zj zk zt zb zp za po)) rfl ?_
  by_cases hc44 : (0 : Int32) < t0
  · simp only [if_pos hc44] at h
    refine OEnds.ifF hm_23 rfl ((tlt hc44).2.2.2) ?_
    refine OEnds.adv hm_23 4 (pc' := 56) (L' := [qr 1, qu, qi v2, qi v3, qu, qi t0]) (S' := [.int v3, .ref 15, .int v3, .ref 15]) (H' := (c0 :: bk0 zh zi zn zu zo zl zf zc zs zq zr ze zg zd zm zj zk zt zb zp za po)) rfl ?_
    obtain ⟨x56, hx56, h⟩ := bnd h
    refine OEnds.plain hm_23 rfl rfl (x_iaload rfl hx56) ?_
    refine OEnds.adv hm_23 2 (pc' := 60) (L' := [qr 1, qu, qi v2, qi v3, qu, qi t0]) (S' := [.int (x56 + t0), .int v3, .ref 15]) (H' := (c0 :: bk0 zh zi zn zu zo zl zf zc zs zq zr ze zg zd zm zj zk zt zb zp za po)) rfl ?_
    obtain ⟨A57, hA57, h⟩ := bnd h
    refine OEnds.plain hm_23 rfl rfl (x_iastore rfl (Nat.le_of_ble_eq_true rfl) hA57) ?_
    refine OEnds.adv hm_23 6 (pc' := 4) (L' := [qr 1, qu, qi (v2 - t0), qi (v3 + (1 : Int32)), qu, qi t0]) (S' := []) (H' := (c0 :: bk0 zh zi zn zu zo zl zf zc zs zq zr ze zg A57 zm zj zk zt zb zp za po)) rfl ?_
    exact hkb h
  · simp only [if_neg hc44] at h
    refine OEnds.ifT hm_23 rfl (q := 66) rfl ((flt hc44).2.2.2) ?_
    refine OEnds.adv hm_23 2 (pc' := 4) (L' := [qr 1, qu, qi v2, qi (v3 + (1 : Int32)), qu, qi t0]) (S' := []) (H' := (c0 :: bk0 zh zi zn zu zo zl zf zc zs zq zr ze zg zd zm zj zk zt zb zp za po)) rfl ?_
    exact hkb h
theorem ok_timeStep_4 {zh zi zn zu zo : List Int32} {zl : List Int64} {zf zc zs zq zr ze zg : List Int32} {zm zj zk : Int32} {zt : Int64} {zb zp za : Int32} {c0 : ACell} {po : List ACell} : ∀ (n : Nat), ∀ {zd : List Int32} {v2 v3 : Int32} {d1 d4 d5 : Slot} {w_o_lvlA : List Int32}, f_timeStep_4 zg za n zd v2 v3 = some w_o_lvlA → OEnds own_P 23 4 [qr 1, d1, qi v2, qi v3, d4, d5] [] (c0 :: bk0 zh zi zn zu zo zl zf zc zs zq zr ze zg zd zm zj zk zt zb zp za po) (none, (c0 :: bk0 zh zi zn zu zo zl zf zc zs zq zr ze zg w_o_lvlA zm zj zk zt zb zp za po), 0, 0) := by
  intro n
  induction n with
  | zero => intro zd v2 v3 d1 d4 d5 w_o_lvlA h; cases h
  | succ n ih =>
    intro zd v2 v3 d1 d4 d5 w_o_lvlA h
    unfold f_timeStep_4 at h
    refine OEnds.adv hm_23 3 (pc' := 9) (L' := [qr 1, qu, qi v2, qi v3, qu, qu]) (S' := [.int za, .int v3]) (H' := (c0 :: bk0 zh zi zn zu zo zl zf zc zs zq zr ze zg zd zm zj zk zt zb zp za po)) rfl ?_
    by_cases hc45 : v3 < za
    · simp only [if_pos hc45] at h
      refine OEnds.icmpF hm_23 rfl ((tlt hc45).2.1) ?_
      refine OEnds.adv hm_23 1 (pc' := 13) (L' := [qr 1, qu, qi v2, qi v3, qu, qu]) (S' := [.int v2]) (H' := (c0 :: bk0 zh zi zn zu zo zl zf zc zs zq zr ze zg zd zm zj zk zt zb zp za po)) rfl ?_
      by_cases hc46 : (0 : Int32) < v2
      · simp only [if_pos hc46] at h
        refine OEnds.ifF hm_23 rfl ((tlt hc46).2.2.2) ?_
        refine OEnds.adv hm_23 3 (pc' := 21) (L' := [qr 1, qu, qi v2, qi v3, qu, qu]) (S' := [.int v3, .ref 14]) (H' := (c0 :: bk0 zh zi zn zu zo zl zf zc zs zq zr ze zg zd zm zj zk zt zb zp za po)) rfl ?_
        obtain ⟨x54, hx54, h⟩ := bnd h
        refine OEnds.plain hm_23 rfl rfl (x_iaload rfl hx54) ?_
        refine OEnds.adv hm_23 3 (pc' := 27) (L' := [qr 1, qu, qi v2, qi v3, qu, qu]) (S' := [.int v3, .ref 15, .int x54]) (H' := (c0 :: bk0 zh zi zn zu zo zl zf zc zs zq zr ze zg zd zm zj zk zt zb zp za po)) rfl ?_
        obtain ⟨x55, hx55, h⟩ := bnd h
        refine OEnds.plain hm_23 rfl rfl (x_iaload rfl hx55) ?_
        refine OEnds.adv hm_23 4 (pc' := 34) (L' := [qr 1, qu, qi v2, qi v3, qi (x54 - x55), qu]) (S' := [.int (x54 - x55), .int v2]) (H' := (c0 :: bk0 zh zi zn zu zo zl zf zc zs zq zr ze zg zd zm zj zk zt zb zp za po)) rfl ?_
        by_cases hc47 : v2 < (x54 - x55)
        · simp only [if_pos hc47] at h
          refine OEnds.icmpF hm_23 rfl ((tlt hc47).2.1) ?_
          refine OEnds.adv hm_23 2 (pc' := 43) (L' := [qr 1, qu, qi v2, qi v3, qi (x54 - x55), qu]) (S' := [.int v2]) (H' := (c0 :: bk0 zh zi zn zu zo zl zf zc zs zq zr ze zg zd zm zj zk zt zb zp za po)) rfl ?_
          exact ok_timeStep_43 ih h
        · simp only [if_neg hc47] at h
          refine OEnds.icmpT hm_23 rfl (q := 41) rfl ((flt hc47).2.1) ?_
          refine OEnds.adv hm_23 1 (pc' := 43) (L' := [qr 1, qu, qi v2, qi v3, qi (x54 - x55), qu]) (S' := [.int (x54 - x55)]) (H' := (c0 :: bk0 zh zi zn zu zo zl zf zc zs zq zr ze zg zd zm zj zk zt zb zp za po)) rfl ?_
          exact ok_timeStep_43 ih h
      · simp only [if_neg hc46] at h
        refine OEnds.ifT hm_23 rfl (q := 72) rfl ((flt hc46).2.2.2) ?_
        show OEnds own_P 23 72 [qr 1, qu, qi v2, qi v3, qu, qu] [] (c0 :: bk0 zh zi zn zu zo zl zf zc zs zq zr ze zg zd zm zj zk zt zb zp za po) _
        cases h
        exact OEnds.vret hm_23 rfl rfl
    · simp only [if_neg hc45] at h
      refine OEnds.icmpT hm_23 rfl (q := 72) rfl ((flt hc45).2.1) ?_
      show OEnds own_P 23 72 [qr 1, qu, qi v2, qi v3, qu, qu] [] (c0 :: bk0 zh zi zn zu zo zl zf zc zs zq zr ze zg zd zm zj zk zt zb zp za po) _
      cases h
      exact OEnds.vret hm_23 rfl rfl
theorem ok_timeStep {zh zi zn zu zo : List Int32} {zl : List Int64} {zf zc zs zq zr ze zg : List Int32} {zm zj zk : Int32} {zt : Int64} {zb zp za : Int32} {c0 : ACell} {po : List ACell} {zd : List Int32} {v1 : Int32} {w_o_lvlA : List Int32} (h : f_timeStep zg za zd v1 = some w_o_lvlA) : OEnds own_P 23 0 [qr 1, qi v1, qu, qu, qu, qu] [] (c0 :: bk0 zh zi zn zu zo zl zf zc zs zq zr ze zg zd zm zj zk zt zb zp za po) (none, (c0 :: bk0 zh zi zn zu zo zl zf zc zs zq zr ze zg w_o_lvlA zm zj zk zt zb zp za po), 0, 0) := by
  unfold f_timeStep at h
  refine OEnds.adv hm_23 4 (pc' := 4) (L' := [qr 1, qi v1, qi v1, qi 0, qu, qu]) (S' := []) (H' := (c0 :: bk0 zh zi zn zu zo zl zf zc zs zq zr ze zg zd zm zj zk zt zb zp za po)) rfl ?_
  exact ok_timeStep_4 100000 h
theorem ok_allocate_67 {zh zi zn zu zo : List Int32} {zl : List Int64} {zf zc zs zq zr ze zg : List Int32} {zm zj zk : Int32} {zt : Int64} {zb zp za : Int32} {c0 : ACell} {po : List ACell} : ∀ {zd : List Int32} {v3 v5 v6 : Int32} {d1 d2 d4 : Slot} {res : Int32} {w_o_lvlA : List Int32}, f_allocate_67 zf ze zg zm zj za zd v3 v5 v6 = some (res, w_o_lvlA) → OEnds own_P 21 67 [qr 1, d1, d2, qi v3, d4, qi v5, qi v6] [] (c0 :: bk0 zh zi zn zu zo zl zf zc zs zq zr ze zg zd zm zj zk zt zb zp za po) (some (.int res), (c0 :: bk0 zh zi zn zu zo zl zf zc zs zq zr ze zg w_o_lvlA zm zj zk zt zb zp za po), 0, 0) := by
  intro zd v3 v5 v6 d1 d2 d4 res w_o_lvlA h
  unfold f_allocate_67 at h
  refine OEnds.adv hm_21 4 (pc' := 73) (L' := [qr 1, qu, qu, qi v3, qu, qi v5, qi v6]) (S' := [.int (v5 - v6), .ref 1]) (H' := (c0 :: bk0 zh zi zn zu zo zl zf zc zs zq zr ze zg zd zm zj zk zt zb zp za po)) rfl ?_
  obtain ⟨s63, hq48, h⟩ := bnd h
  refine OEnds.call0 hm_21 rfl rfl (by decide) rfl (as := [.ref 1, .int (v5 - v6)]) (rest := []) rfl rfl (ok_timeStep hq48) ?_
  refine OEnds.adv hm_21 1 (pc' := 77) (L' := [qr 1, qu, qu, qi v3, qu, qi v5, qi v6]) (S' := [.int v3]) (H' := (c0 :: bk0 zh zi zn zu zo zl zf zc zs zq zr ze zg s63 zm zj zk zt zb zp za po)) rfl ?_
  cases h
  exact OEnds.iret hm_21 rfl rfl
theorem ok_allocate_37 {zh zi zn zu zo : List Int32} {zl : List Int64} {zf zc zs zq zr ze zg : List Int32} {zm zj zk : Int32} {zt : Int64} {zb zp za : Int32} {c0 : ACell} {po : List ACell} : ∀ {zd : List Int32} {t0 : Int32} {d1 d2 d3 d4 d5 d6 : Slot} {res : Int32} {w_o_lvlA : List Int32}, f_allocate_37 zf ze zg zm zj za zd t0 = some (res, w_o_lvlA) → OEnds own_P 21 37 [qr 1, d1, d2, d3, d4, d5, d6] [.int t0] (c0 :: bk0 zh zi zn zu zo zl zf zc zs zq zr ze zg zd zm zj zk zt zb zp za po) (some (.int res), (c0 :: bk0 zh zi zn zu zo zl zf zc zs zq zr ze zg w_o_lvlA zm zj zk zt zb zp za po), 0, 0) := by
  intro zd t0 d1 d2 d3 d4 d5 d6 res w_o_lvlA h
  unfold f_allocate_37 at h
  refine OEnds.adv hm_21 3 (pc' := 40) (L' := [qr 1, qu, qu, qi t0, qu, qu, qu]) (S' := [.int t0, .ref 1]) (H' := (c0 :: bk0 zh zi zn zu zo zl zf zc zs zq zr ze zg zd zm zj zk zt zb zp za po)) rfl ?_
  obtain ⟨⟨r59, s60⟩, hq49, h⟩ := bnd h
  refine OEnds.call0 hm_21 rfl rfl (by decide) rfl (as := [.ref 1, .int t0]) (rest := []) rfl rfl (ok_topStep hq49) ?_
  refine OEnds.adv hm_21 8 (pc' := 56) (L' := [qr 1, qu, qu, qi t0, qi r59, qi (t0 - r59), qi 0]) (S' := [.int (t0 - r59)]) (H' := (c0 :: bk0 zh zi zn zu zo zl zf zc zs zq zr ze zg s60 zm zj zk zt zb zp za po)) rfl ?_
  by_cases hc50 : (0 : Int32) < (t0 - r59)
  · simp only [if_pos hc50] at h
    refine OEnds.ifF hm_21 rfl ((tlt hc50).2.2.2) ?_
    refine OEnds.adv hm_21 2 (pc' := 62) (L' := [qr 1, qu, qu, qi t0, qi r59, qi (t0 - r59), qi 0]) (S' := [.int (t0 - r59), .ref 1]) (H' := (c0 :: bk0 zh zi zn zu zo zl zf zc zs zq zr ze zg s60 zm zj zk zt zb zp za po)) rfl ?_
    obtain ⟨⟨r61, s62⟩, hq51, h⟩ := bnd h
    refine OEnds.call0 hm_21 rfl rfl (by decide) rfl (as := [.ref 1, .int (t0 - r59)]) (rest := []) rfl rfl (ok_proRataStep hq51) ?_
    refine OEnds.adv hm_21 1 (pc' := 67) (L' := [qr 1, qu, qu, qi t0, qi r59, qi (t0 - r59), qi r61]) (S' := []) (H' := (c0 :: bk0 zh zi zn zu zo zl zf zc zs zq zr ze zg s62 zm zj zk zt zb zp za po)) rfl ?_
    exact ok_allocate_67 h
  · simp only [if_neg hc50] at h
    refine OEnds.ifT hm_21 rfl (q := 67) rfl ((flt hc50).2.2.2) ?_
    show OEnds own_P 21 67 [qr 1, qu, qu, qi t0, qi r59, qi (t0 - r59), qi 0] [] (c0 :: bk0 zh zi zn zu zo zl zf zc zs zq zr ze zg s60 zm zj zk zt zb zp za po) _
    exact ok_allocate_67 h
theorem ok_allocate_27 {zh zi zn zu zo : List Int32} {zl : List Int64} {zf zc zs zq zr ze zg : List Int32} {zm zj zk : Int32} {zt : Int64} {zb zp za : Int32} {c0 : ACell} {po : List ACell} : ∀ {zd : List Int32} {v1 v2 : Int32} {d3 d4 d5 d6 : Slot} {res : Int32} {w_o_lvlA : List Int32}, f_allocate_27 zf ze zg zm zj za zd v1 v2 = some (res, w_o_lvlA) → OEnds own_P 21 27 [qr 1, qi v1, qi v2, d3, d4, d5, d6] [] (c0 :: bk0 zh zi zn zu zo zl zf zc zs zq zr ze zg zd zm zj zk zt zb zp za po) (some (.int res), (c0 :: bk0 zh zi zn zu zo zl zf zc zs zq zr ze zg w_o_lvlA zm zj zk zt zb zp za po), 0, 0) := by
  intro zd v1 v2 d3 d4 d5 d6 res w_o_lvlA h
  unfold f_allocate_27 at h
  refine OEnds.adv hm_21 2 (pc' := 29) (L' := [qr 1, qi v1, qi v2, qu, qu, qu, qu]) (S' := [.int v2, .int v1]) (H' := (c0 :: bk0 zh zi zn zu zo zl zf zc zs zq zr ze zg zd zm zj zk zt zb zp za po)) rfl ?_
  by_cases hc52 : v1 < v2
  · simp only [if_pos hc52] at h
    refine OEnds.icmpF hm_21 rfl ((tlt hc52).2.1) ?_
    refine OEnds.adv hm_21 2 (pc' := 37) (L' := [qr 1, qi v1, qi v2, qu, qu, qu, qu]) (S' := [.int v1]) (H' := (c0 :: bk0 zh zi zn zu zo zl zf zc zs zq zr ze zg zd zm zj zk zt zb zp za po)) rfl ?_
    exact ok_allocate_37 h
  · simp only [if_neg hc52] at h
    refine OEnds.icmpT hm_21 rfl (q := 36) rfl ((flt hc52).2.1) ?_
    refine OEnds.adv hm_21 1 (pc' := 37) (L' := [qr 1, qi v1, qi v2, qu, qu, qu, qu]) (S' := [.int v2]) (H' := (c0 :: bk0 zh zi zn zu zo zl zf zc zs zq zr ze zg zd zm zj zk zt zb zp za po)) rfl ?_
    exact ok_allocate_37 h
theorem ok_allocate_4 {zh zi zn zu zo : List Int32} {zl : List Int64} {zf zc zs zq zr ze zg : List Int32} {zm zj zk : Int32} {zt : Int64} {zb zp za : Int32} {c0 : ACell} {po : List ACell} {k27 : List Int32 → Int32 → Int32 → Option (Int32 × List Int32)} (hk27 : ∀ {zd : List Int32} {v1 v2 : Int32} {d3 d4 d5 d6 : Slot} {res : Int32} {w_o_lvlA : List Int32}, k27 zd v1 v2 = some (res, w_o_lvlA) → OEnds own_P 21 27 [qr 1, qi v1, qi v2, d3, d4, d5, d6] [] (c0 :: bk0 zh zi zn zu zo zl zf zc zs zq zr ze zg zd zm zj zk zt zb zp za po) (some (.int res), (c0 :: bk0 zh zi zn zu zo zl zf zc zs zq zr ze zg w_o_lvlA zm zj zk zt zb zp za po), 0, 0)) : ∀ (n : Nat), ∀ {zd : List Int32} {v1 v2 v3 : Int32} {d4 d5 d6 : Slot} {res : Int32} {w_o_lvlA : List Int32}, f_allocate_4 k27 zf ze zg zm zj za n zd v1 v2 v3 = some (res, w_o_lvlA) → OEnds own_P 21 4 [qr 1, qi v1, qi v2, qi v3, d4, d5, d6] [] (c0 :: bk0 zh zi zn zu zo zl zf zc zs zq zr ze zg zd zm zj zk zt zb zp za po) (some (.int res), (c0 :: bk0 zh zi zn zu zo zl zf zc zs zq zr ze zg w_o_lvlA zm zj zk zt zb zp za po), 0, 0) := by
  intro n
  induction n with
  | zero => intro zd v1 v2 v3 d4 d5 d6 res w_o_lvlA h; cases h
  | succ n ih =>
    intro zd v1 v2 v3 d4 d5 d6 res w_o_lvlA h
    unfold f_allocate_4 at h
    refine OEnds.adv hm_21 3 (pc' := 9) (L' := [qr 1, qi v1, qi v2, qi v3, qu, qu, qu]) (S' := [.int za, .int v3]) (H' := (c0 :: bk0 zh zi zn zu zo zl zf zc zs zq zr ze zg zd zm zj zk zt zb zp za po)) rfl ?_
    by_cases hc53 : v3 < za
    · simp only [if_pos hc53] at h
      refine OEnds.icmpF hm_21 rfl ((tlt hc53).2.1) ?_
      refine OEnds.adv hm_21 4 (pc' := 18) (L' := [qr 1, qi v1, qi v2, qi v3, qu, qu, qu]) (S' := [.int v3, .ref 14, .int v2]) (H' := (c0 :: bk0 zh zi zn zu zo zl zf zc zs zq zr ze zg zd zm zj zk zt zb zp za po)) rfl ?_
      obtain ⟨x58, hx58, h⟩ := bnd h
      refine OEnds.plain hm_21 rfl rfl (x_iaload rfl hx58) ?_
      refine OEnds.adv hm_21 4 (pc' := 4) (L' := [qr 1, qi v1, qi (v2 + x58), qi (v3 + (1 : Int32)), qu, qu, qu]) (S' := []) (H' := (c0 :: bk0 zh zi zn zu zo zl zf zc zs zq zr ze zg zd zm zj zk zt zb zp za po)) rfl ?_
      exact ih h
    · simp only [if_neg hc53] at h
      refine OEnds.icmpT hm_21 rfl (q := 27) rfl ((flt hc53).2.1) ?_
      show OEnds own_P 21 27 [qr 1, qi v1, qi v2, qi v3, qu, qu, qu] [] (c0 :: bk0 zh zi zn zu zo zl zf zc zs zq zr ze zg zd zm zj zk zt zb zp za po) _
      exact hk27 h
theorem ok_allocate {zh zi zn zu zo : List Int32} {zl : List Int64} {zf zc zs zq zr ze zg : List Int32} {zm zj zk : Int32} {zt : Int64} {zb zp za : Int32} {c0 : ACell} {po : List ACell} {zd : List Int32} {v1 res : Int32} {w_o_lvlA : List Int32} (h : f_allocate zf ze zg zm zj za zd v1 = some (res, w_o_lvlA)) : OEnds own_P 21 0 [qr 1, qi v1, qu, qu, qu, qu, qu] [] (c0 :: bk0 zh zi zn zu zo zl zf zc zs zq zr ze zg zd zm zj zk zt zb zp za po) (some (.int res), (c0 :: bk0 zh zi zn zu zo zl zf zc zs zq zr ze zg w_o_lvlA zm zj zk zt zb zp za po), 0, 0) := by
  unfold f_allocate at h
  refine OEnds.adv hm_21 4 (pc' := 4) (L' := [qr 1, qi v1, qi 0, qi 0, qu, qu, qu]) (S' := []) (H' := (c0 :: bk0 zh zi zn zu zo zl zf zc zs zq zr ze zg zd zm zj zk zt zb zp za po)) rfl ?_
  exact ok_allocate_4 (k27 := f_allocate_27 zf ze zg zm zj za) ok_allocate_27 100000 h
theorem ok_removeResting_20 {zh zi zn zu zo : List Int32} {zl : List Int64} {zf zs zq zr ze zg zd : List Int32} {zm zj zk : Int32} {zt : Int64} {zp za : Int32} {c0 : ACell} {po : List ACell} : ∀ {zc : List Int32} {zb v2 : Int32} {d1 : Slot} {w_o_restIds : List Int32} {w_o_restN : Int32}, f_removeResting_20 zc zb v2 = some (w_o_restIds, w_o_restN) → OEnds own_P 29 20 [qr 1, d1, qi v2] [] (c0 :: bk0 zh zi zn zu zo zl zf zc zs zq zr ze zg zd zm zj zk zt zb zp za po) (none, (c0 :: bk0 zh zi zn zu zo zl zf w_o_restIds zs zq zr ze zg zd zm zj zk zt w_o_restN zp za po), 0, 0) := by
  intro zc zb v2 d1 w_o_restIds w_o_restN h
  unfold f_removeResting_20 at h
  refine OEnds.adv hm_29 9 (pc' := 35) (L' := [qr 1, qu, qi v2]) (S' := [.int (zb - (1 : Int32)), .ref 9, .int v2, .ref 9]) (H' := (c0 :: bk0 zh zi zn zu zo zl zf zc zs zq zr ze zg zd zm zj zk zt zb zp za po)) rfl ?_
  obtain ⟨x12, hx12, h⟩ := bnd h
  refine OEnds.plain hm_29 rfl rfl (x_iaload rfl hx12) ?_
  show OEnds own_P 29 36 [qr 1, qu, qi v2] [.int x12, .int v2, .ref 9] (c0 :: bk0 zh zi zn zu zo zl zf zc zs zq zr ze zg zd zm zj zk zt zb zp za po) _
  obtain ⟨A13, hA13, h⟩ := bnd h
  refine OEnds.plain hm_29 rfl rfl (x_iastore rfl (Nat.le_of_ble_eq_true rfl) hA13) ?_
  refine OEnds.adv hm_29 6 (pc' := 47) (L' := [qr 1, qu, qi v2]) (S' := []) (H' := (c0 :: bk0 zh zi zn zu zo zl zf A13 zs zq zr ze zg zd zm zj zk zt (zb - (1 : Int32)) zp za po)) rfl ?_
  cases h
  exact OEnds.vret hm_29 rfl rfl
theorem ok_removeResting_2 {zh zi zn zu zo : List Int32} {zl : List Int64} {zf zs zq zr ze zg zd : List Int32} {zm zj zk : Int32} {zt : Int64} {zp za : Int32} {c0 : ACell} {po : List ACell} {k20 : List Int32 → Int32 → Int32 → Option (List Int32 × Int32)} (hk20 : ∀ {zc : List Int32} {zb v2 : Int32} {d1 : Slot} {w_o_restIds : List Int32} {w_o_restN : Int32}, k20 zc zb v2 = some (w_o_restIds, w_o_restN) → OEnds own_P 29 20 [qr 1, d1, qi v2] [] (c0 :: bk0 zh zi zn zu zo zl zf zc zs zq zr ze zg zd zm zj zk zt zb zp za po) (none, (c0 :: bk0 zh zi zn zu zo zl zf w_o_restIds zs zq zr ze zg zd zm zj zk zt w_o_restN zp za po), 0, 0)) : ∀ (n : Nat), ∀ {zc : List Int32} {zb v1 v2 : Int32} {w_o_restIds : List Int32} {w_o_restN : Int32}, f_removeResting_2 k20 n zc zb v1 v2 = some (w_o_restIds, w_o_restN) → OEnds own_P 29 2 [qr 1, qi v1, qi v2] [] (c0 :: bk0 zh zi zn zu zo zl zf zc zs zq zr ze zg zd zm zj zk zt zb zp za po) (none, (c0 :: bk0 zh zi zn zu zo zl zf w_o_restIds zs zq zr ze zg zd zm zj zk zt w_o_restN zp za po), 0, 0) := by
  intro n
  induction n with
  | zero => intro zc zb v1 v2 w_o_restIds w_o_restN h; cases h
  | succ n ih =>
    intro zc zb v1 v2 w_o_restIds w_o_restN h
    unfold f_removeResting_2 at h
    refine OEnds.adv hm_29 3 (pc' := 7) (L' := [qr 1, qi v1, qi v2]) (S' := [.int zb, .int v2]) (H' := (c0 :: bk0 zh zi zn zu zo zl zf zc zs zq zr ze zg zd zm zj zk zt zb zp za po)) rfl ?_
    by_cases hc54 : v2 < zb
    · simp only [if_pos hc54] at h
      refine OEnds.icmpF hm_29 rfl ((tlt hc54).2.1) ?_
      refine OEnds.adv hm_29 3 (pc' := 15) (L' := [qr 1, qi v1, qi v2]) (S' := [.int v2, .ref 9]) (H' := (c0 :: bk0 zh zi zn zu zo zl zf zc zs zq zr ze zg zd zm zj zk zt zb zp za po)) rfl ?_
      obtain ⟨x11, hx11, h⟩ := bnd h
      refine OEnds.plain hm_29 rfl rfl (x_iaload rfl hx11) ?_
      refine OEnds.adv hm_29 1 (pc' := 17) (L' := [qr 1, qi v1, qi v2]) (S' := [.int v1, .int x11]) (H' := (c0 :: bk0 zh zi zn zu zo zl zf zc zs zq zr ze zg zd zm zj zk zt zb zp za po)) rfl ?_
      by_cases hc55 : x11 = v1
      · simp only [if_pos hc55] at h
        refine OEnds.icmpF hm_29 rfl ((teq hc55).2) ?_
        show OEnds own_P 29 20 [qr 1, qi v1, qi v2] [] (c0 :: bk0 zh zi zn zu zo zl zf zc zs zq zr ze zg zd zm zj zk zt zb zp za po) _
        exact hk20 h
      · simp only [if_neg hc55] at h
        refine OEnds.icmpT hm_29 rfl (q := 48) rfl ((feq hc55).2) ?_
        refine OEnds.adv hm_29 2 (pc' := 2) (L' := [qr 1, qi v1, qi (v2 + (1 : Int32))]) (S' := []) (H' := (c0 :: bk0 zh zi zn zu zo zl zf zc zs zq zr ze zg zd zm zj zk zt zb zp za po)) rfl ?_
        exact ih h
    · simp only [if_neg hc54] at h
      refine OEnds.icmpT hm_29 rfl (q := 54) rfl ((flt hc54).2.1) ?_
      show OEnds own_P 29 54 [qr 1, qi v1, qi v2] [] (c0 :: bk0 zh zi zn zu zo zl zf zc zs zq zr ze zg zd zm zj zk zt zb zp za po) _
      cases h
      exact OEnds.vret hm_29 rfl rfl
theorem ok_removeResting {zh zi zn zu zo : List Int32} {zl : List Int64} {zf zs zq zr ze zg zd : List Int32} {zm zj zk : Int32} {zt : Int64} {zp za : Int32} {c0 : ACell} {po : List ACell} {zc : List Int32} {zb v1 : Int32} {w_o_restIds : List Int32} {w_o_restN : Int32} (h : f_removeResting zc zb v1 = some (w_o_restIds, w_o_restN)) : OEnds own_P 29 0 [qr 1, qi v1, qu] [] (c0 :: bk0 zh zi zn zu zo zl zf zc zs zq zr ze zg zd zm zj zk zt zb zp za po) (none, (c0 :: bk0 zh zi zn zu zo zl zf w_o_restIds zs zq zr ze zg zd zm zj zk zt w_o_restN zp za po), 0, 0) := by
  unfold f_removeResting at h
  refine OEnds.adv hm_29 2 (pc' := 2) (L' := [qr 1, qi v1, qi 0]) (S' := []) (H' := (c0 :: bk0 zh zi zn zu zo zl zf zc zs zq zr ze zg zd zm zj zk zt zb zp za po)) rfl ?_
  exact ok_removeResting_2 (k20 := f_removeResting_20) ok_removeResting_20 100000 h
theorem ok_applyLevel_82 {zh zi : List Int32} {zl : List Int64} {ze zg zd : List Int32} {zm zj zk : Int32} {zt : Int64} {za : Int32} {c0 : ACell} {po : List ACell} {kb : List Int32 → List Int32 → List Int32 → List Int32 → List Int32 → List Int32 → List Int32 → List Int32 → Int32 → Int32 → Int32 → Int32 → Option (List Int32 × List Int32 × List Int32 × List Int32 × List Int32 × List Int32 × List Int32 × List Int32 × Int32 × Int32)} (hkb : ∀ {zn zu zo zf zc zs zq zr : List Int32} {zb zp v1 v2 : Int32} {d3 d4 : Slot} {w_o_oRem w_o_oFilled w_o_oStatus w_o_oTop w_o_restIds w_o_fIds w_o_fQty w_o_fPrice : List Int32} {w_o_restN : Int32} {w_o_fN : Int32}, kb zn zu zo zf zc zs zq zr zb zp v1 v2 = some (w_o_oRem, w_o_oFilled, w_o_oStatus, w_o_oTop, w_o_restIds, w_o_fIds, w_o_fQty, w_o_fPrice, w_o_restN, w_o_fN) → OEnds own_P 24 2 [qr 1, qi v1, qi v2, d3, d4] [] (c0 :: bk0 zh zi zn zu zo zl zf zc zs zq zr ze zg zd zm zj zk zt zb zp za po) (none, (c0 :: bk0 zh zi w_o_oRem w_o_oFilled w_o_oStatus zl w_o_oTop w_o_restIds w_o_fIds w_o_fQty w_o_fPrice ze zg zd zm zj zk zt w_o_restN w_o_fN za po), 0, 0)) : ∀ {zn zu zo zf zc zs zq zr : List Int32} {zb zp v1 v2 v3 v4 : Int32} {w_o_oRem w_o_oFilled w_o_oStatus w_o_oTop w_o_restIds w_o_fIds w_o_fQty w_o_fPrice : List Int32} {w_o_restN : Int32} {w_o_fN : Int32}, f_applyLevel_82 kb ze zd za zn zu zo zf zc zs zq zr zb zp v1 v2 v3 v4 = some (w_o_oRem, w_o_oFilled, w_o_oStatus, w_o_oTop, w_o_restIds, w_o_fIds, w_o_fQty, w_o_fPrice, w_o_restN, w_o_fN) → OEnds own_P 24 82 [qr 1, qi v1, qi v2, qi v3, qi v4] [] (c0 :: bk0 zh zi zn zu zo zl zf zc zs zq zr ze zg zd zm zj zk zt zb zp za po) (none, (c0 :: bk0 zh zi w_o_oRem w_o_oFilled w_o_oStatus zl w_o_oTop w_o_restIds w_o_fIds w_o_fQty w_o_fPrice ze zg zd zm zj zk zt w_o_restN w_o_fN za po), 0, 0) := by
  intro zn zu zo zf zc zs zq zr zb zp v1 v2 v3 v4 w_o_oRem w_o_oFilled w_o_oStatus w_o_oTop w_o_restIds w_o_fIds w_o_fQty w_o_fPrice w_o_restN w_o_fN h
  unfold f_applyLevel_82 at h
  refine OEnds.adv hm_24 4 (pc' := 89) (L' := [qr 1, qi v1, qi v2, qi v3, qi v4]) (S' := [.int v4, .ref 4, .int v4, .ref 4]) (H' := (c0 :: bk0 zh zi zn zu zo zl zf zc zs zq zr ze zg zd zm zj zk zt zb zp za po)) rfl ?_
  obtain ⟨x69, hx69, h⟩ := bnd h
  refine OEnds.plain hm_24 rfl rfl (x_iaload rfl hx69) ?_
  refine OEnds.adv hm_24 2 (pc' := 92) (L' := [qr 1, qi v1, qi v2, qi v3, qi v4]) (S' := [.int (x69 - v3), .int v4, .ref 4]) (H' := (c0 :: bk0 zh zi zn zu zo zl zf zc zs zq zr ze zg zd zm zj zk zt zb zp za po)) rfl ?_
  obtain ⟨A70, hA70, h⟩ := bnd h
  refine OEnds.plain hm_24 rfl rfl (x_iastore rfl (Nat.le_of_ble_eq_true rfl) hA70) ?_
  refine OEnds.adv hm_24 4 (pc' := 100) (L' := [qr 1, qi v1, qi v2, qi v3, qi v4]) (S' := [.int v4, .ref 5, .int v4, .ref 5]) (H' := (c0 :: bk0 zh zi A70 zu zo zl zf zc zs zq zr ze zg zd zm zj zk zt zb zp za po)) rfl ?_
  obtain ⟨x71, hx71, h⟩ := bnd h
  refine OEnds.plain hm_24 rfl rfl (x_iaload rfl hx71) ?_
  refine OEnds.adv hm_24 2 (pc' := 103) (L' := [qr 1, qi v1, qi v2, qi v3, qi v4]) (S' := [.int (x71 + v3), .int v4, .ref 5]) (H' := (c0 :: bk0 zh zi A70 zu zo zl zf zc zs zq zr ze zg zd zm zj zk zt zb zp za po)) rfl ?_
  obtain ⟨A72, hA72, h⟩ := bnd h
  refine OEnds.plain hm_24 rfl rfl (x_iastore rfl (Nat.le_of_ble_eq_true rfl) hA72) ?_
  refine OEnds.adv hm_24 3 (pc' := 110) (L' := [qr 1, qi v1, qi v2, qi v3, qi v4]) (S' := [.int v4, .ref 4]) (H' := (c0 :: bk0 zh zi A70 A72 zo zl zf zc zs zq zr ze zg zd zm zj zk zt zb zp za po)) rfl ?_
  obtain ⟨x73, hx73, h⟩ := bnd h
  refine OEnds.plain hm_24 rfl rfl (x_iaload rfl hx73) ?_
  show OEnds own_P 24 111 [qr 1, qi v1, qi v2, qi v3, qi v4] [.int x73] (c0 :: bk0 zh zi A70 A72 zo zl zf zc zs zq zr ze zg zd zm zj zk zt zb zp za po) _
  by_cases hc56 : (0 : Int32) < x73
  · simp only [if_pos hc56] at h
    refine OEnds.ifT hm_24 rfl (q := 144) rfl ((tlt hc56).2.2.1) ?_
    refine OEnds.adv hm_24 2 (pc' := 2) (L' := [qr 1, qi v1, qi (v2 + (1 : Int32)), qi v3, qi v4]) (S' := []) (H' := (c0 :: bk0 zh zi A70 A72 zo zl zf zc zs zq zr ze zg zd zm zj zk zt zb zp za po)) rfl ?_
    exact hkb h
  · simp only [if_neg hc56] at h
    refine OEnds.ifF hm_24 rfl ((flt hc56).2.2.1) ?_
    refine OEnds.adv hm_24 4 (pc' := 121) (L' := [qr 1, qi v1, qi v2, qi v3, qi v4]) (S' := [.int 0, .int v4, .ref 4]) (H' := (c0 :: bk0 zh zi A70 A72 zo zl zf zc zs zq zr ze zg zd zm zj zk zt zb zp za po)) rfl ?_
    obtain ⟨A74, hA74, h⟩ := bnd h
    refine OEnds.plain hm_24 rfl rfl (x_iastore rfl (Nat.le_of_ble_eq_true rfl) hA74) ?_
    refine OEnds.adv hm_24 4 (pc' := 129) (L' := [qr 1, qi v1, qi v2, qi v3, qi v4]) (S' := [.int 2, .int v4, .ref 6]) (H' := (c0 :: bk0 zh zi A74 A72 zo zl zf zc zs zq zr ze zg zd zm zj zk zt zb zp za po)) rfl ?_
    obtain ⟨A75, hA75, h⟩ := bnd h
    refine OEnds.plain hm_24 rfl rfl (x_iastore rfl (Nat.le_of_ble_eq_true rfl) hA75) ?_
    refine OEnds.adv hm_24 4 (pc' := 137) (L' := [qr 1, qi v1, qi v2, qi v3, qi v4]) (S' := [.int 0, .int v4, .ref 8]) (H' := (c0 :: bk0 zh zi A74 A72 A75 zl zf zc zs zq zr ze zg zd zm zj zk zt zb zp za po)) rfl ?_
    obtain ⟨A76, hA76, h⟩ := bnd h
    refine OEnds.plain hm_24 rfl rfl (x_bastore rfl (Nat.le_of_ble_eq_true rfl) hA76) ?_
    refine OEnds.adv hm_24 2 (pc' := 141) (L' := [qr 1, qi v1, qi v2, qi v3, qi v4]) (S' := [.int v4, .ref 1]) (H' := (c0 :: bk0 zh zi A74 A72 A75 zl A76 zc zs zq zr ze zg zd zm zj zk zt zb zp za po)) rfl ?_
    obtain ⟨⟨s77, s78⟩, hq57, h⟩ := bnd h
    refine OEnds.call0 hm_24 rfl rfl (by decide) rfl (as := [.ref 1, .int v4]) (rest := []) rfl rfl (ok_removeResting hq57) ?_
    refine OEnds.adv hm_24 2 (pc' := 2) (L' := [qr 1, qi v1, qi (v2 + (1 : Int32)), qi v3, qi v4]) (S' := []) (H' := (c0 :: bk0 zh zi A74 A72 A75 zl A76 s77 zs zq zr ze zg zd zm zj zk zt s78 zp za po)) rfl ?_
    exact hkb h
theorem ok_applyLevel_2 {zh zi : List Int32} {zl : List Int64} {ze zg zd : List Int32} {zm zj zk : Int32} {zt : Int64} {za : Int32} {c0 : ACell} {po : List ACell} : ∀ (n : Nat), ∀ {zn zu zo zf zc zs zq zr : List Int32} {zb zp v1 v2 : Int32} {d3 d4 : Slot} {w_o_oRem w_o_oFilled w_o_oStatus w_o_oTop w_o_restIds w_o_fIds w_o_fQty w_o_fPrice : List Int32} {w_o_restN : Int32} {w_o_fN : Int32}, f_applyLevel_2 ze zd za n zn zu zo zf zc zs zq zr zb zp v1 v2 = some (w_o_oRem, w_o_oFilled, w_o_oStatus, w_o_oTop, w_o_restIds, w_o_fIds, w_o_fQty, w_o_fPrice, w_o_restN, w_o_fN) → OEnds own_P 24 2 [qr 1, qi v1, qi v2, d3, d4] [] (c0 :: bk0 zh zi zn zu zo zl zf zc zs zq zr ze zg zd zm zj zk zt zb zp za po) (none, (c0 :: bk0 zh zi w_o_oRem w_o_oFilled w_o_oStatus zl w_o_oTop w_o_restIds w_o_fIds w_o_fQty w_o_fPrice ze zg zd zm zj zk zt w_o_restN w_o_fN za po), 0, 0) := by
  intro n
  induction n with
  | zero => intro zn zu zo zf zc zs zq zr zb zp v1 v2 d3 d4 w_o_oRem w_o_oFilled w_o_oStatus w_o_oTop w_o_restIds w_o_fIds w_o_fQty w_o_fPrice w_o_restN w_o_fN h; cases h
  | succ n ih =>
    intro zn zu zo zf zc zs zq zr zb zp v1 v2 d3 d4 w_o_oRem w_o_oFilled w_o_oStatus w_o_oTop w_o_restIds w_o_fIds w_o_fQty w_o_fPrice w_o_restN w_o_fN h
    unfold f_applyLevel_2 at h
    refine OEnds.adv hm_24 3 (pc' := 7) (L' := [qr 1, qi v1, qi v2, qu, qu]) (S' := [.int za, .int v2]) (H' := (c0 :: bk0 zh zi zn zu zo zl zf zc zs zq zr ze zg zd zm zj zk zt zb zp za po)) rfl ?_
    by_cases hc58 : v2 < za
    · simp only [if_pos hc58] at h
      refine OEnds.icmpF hm_24 rfl ((tlt hc58).2.1) ?_
      refine OEnds.adv hm_24 3 (pc' := 15) (L' := [qr 1, qi v1, qi v2, qu, qu]) (S' := [.int v2, .ref 15]) (H' := (c0 :: bk0 zh zi zn zu zo zl zf zc zs zq zr ze zg zd zm zj zk zt zb zp za po)) rfl ?_
      obtain ⟨x64, hx64, h⟩ := bnd h
      refine OEnds.plain hm_24 rfl rfl (x_iaload rfl hx64) ?_
      refine OEnds.adv hm_24 2 (pc' := 18) (L' := [qr 1, qi v1, qi v2, qi x64, qu]) (S' := [.int x64]) (H' := (c0 :: bk0 zh zi zn zu zo zl zf zc zs zq zr ze zg zd zm zj zk zt zb zp za po)) rfl ?_
      by_cases hc59 : (0 : Int32) < x64
      · simp only [if_pos hc59] at h
        refine OEnds.ifT hm_24 rfl (q := 24) rfl ((tlt hc59).2.2.1) ?_
        refine OEnds.adv hm_24 3 (pc' := 29) (L' := [qr 1, qi v1, qi v2, qi x64, qu]) (S' := [.int v2, .ref 13]) (H' := (c0 :: bk0 zh zi zn zu zo zl zf zc zs zq zr ze zg zd zm zj zk zt zb zp za po)) rfl ?_
        obtain ⟨x65, hx65, h⟩ := bnd h
        refine OEnds.plain hm_24 rfl rfl (x_iaload rfl hx65) ?_
        refine OEnds.adv hm_24 4 (pc' := 38) (L' := [qr 1, qi v1, qi v2, qi x64, qi x65]) (S' := [.int 64, .int zp]) (H' := (c0 :: bk0 zh zi zn zu zo zl zf zc zs zq zr ze zg zd zm zj zk zt zb zp za po)) rfl ?_
        by_cases hc60 : zp < (64 : Int32)
        · simp only [if_pos hc60] at h
          refine OEnds.icmpF hm_24 rfl ((tlt hc60).2.1) ?_
          refine OEnds.adv hm_24 5 (pc' := 51) (L' := [qr 1, qi v1, qi v2, qi x64, qi x65]) (S' := [.int x65, .int zp, .ref 10]) (H' := (c0 :: bk0 zh zi zn zu zo zl zf zc zs zq zr ze zg zd zm zj zk zt zb zp za po)) rfl ?_
          obtain ⟨A66, hA66, h⟩ := bnd h
          refine OEnds.plain hm_24 rfl rfl (x_iastore rfl (Nat.le_of_ble_eq_true rfl) hA66) ?_
          refine OEnds.adv hm_24 5 (pc' := 61) (L' := [qr 1, qi v1, qi v2, qi x64, qi x65]) (S' := [.int v1, .int zp, .ref 12]) (H' := (c0 :: bk0 zh zi zn zu zo zl zf zc A66 zq zr ze zg zd zm zj zk zt zb zp za po)) rfl ?_
          obtain ⟨A67, hA67, h⟩ := bnd h
          refine OEnds.plain hm_24 rfl rfl (x_iastore rfl (Nat.le_of_ble_eq_true rfl) hA67) ?_
          refine OEnds.adv hm_24 5 (pc' := 71) (L' := [qr 1, qi v1, qi v2, qi x64, qi x65]) (S' := [.int x64, .int zp, .ref 11]) (H' := (c0 :: bk0 zh zi zn zu zo zl zf zc A66 zq A67 ze zg zd zm zj zk zt zb zp za po)) rfl ?_
          obtain ⟨A68, hA68, h⟩ := bnd h
          refine OEnds.plain hm_24 rfl rfl (x_iastore rfl (Nat.le_of_ble_eq_true rfl) hA68) ?_
          refine OEnds.adv hm_24 6 (pc' := 82) (L' := [qr 1, qi v1, qi v2, qi x64, qi x65]) (S' := []) (H' := (c0 :: bk0 zh zi zn zu zo zl zf zc A66 A68 A67 ze zg zd zm zj zk zt zb (zp + (1 : Int32)) za po)) rfl ?_
          exact ok_applyLevel_82 ih h
        · simp only [if_neg hc60] at h
          refine OEnds.icmpT hm_24 rfl (q := 82) rfl ((flt hc60).2.1) ?_
          show OEnds own_P 24 82 [qr 1, qi v1, qi v2, qi x64, qi x65] [] (c0 :: bk0 zh zi zn zu zo zl zf zc zs zq zr ze zg zd zm zj zk zt zb zp za po) _
          exact ok_applyLevel_82 ih h
      · simp only [if_neg hc59] at h
        refine OEnds.ifF hm_24 rfl ((flt hc59).2.2.1) ?_
        refine OEnds.adv hm_24 3 (pc' := 2) (L' := [qr 1, qi v1, qi (v2 + (1 : Int32)), qi x64, qu]) (S' := []) (H' := (c0 :: bk0 zh zi zn zu zo zl zf zc zs zq zr ze zg zd zm zj zk zt zb zp za po)) rfl ?_
        exact ih h
    · simp only [if_neg hc58] at h
      refine OEnds.icmpT hm_24 rfl (q := 150) rfl ((flt hc58).2.1) ?_
      show OEnds own_P 24 150 [qr 1, qi v1, qi v2, qu, qu] [] (c0 :: bk0 zh zi zn zu zo zl zf zc zs zq zr ze zg zd zm zj zk zt zb zp za po) _
      cases h
      exact OEnds.vret hm_24 rfl rfl
theorem ok_applyLevel {zh zi : List Int32} {zl : List Int64} {ze zg zd : List Int32} {zm zj zk : Int32} {zt : Int64} {za : Int32} {c0 : ACell} {po : List ACell} {zn zu zo zf zc zs zq zr : List Int32} {zb zp v1 : Int32} {w_o_oRem w_o_oFilled w_o_oStatus w_o_oTop w_o_restIds w_o_fIds w_o_fQty w_o_fPrice : List Int32} {w_o_restN w_o_fN : Int32} (h : f_applyLevel ze zd za zn zu zo zf zc zs zq zr zb zp v1 = some (w_o_oRem, w_o_oFilled, w_o_oStatus, w_o_oTop, w_o_restIds, w_o_fIds, w_o_fQty, w_o_fPrice, w_o_restN, w_o_fN)) : OEnds own_P 24 0 [qr 1, qi v1, qu, qu, qu] [] (c0 :: bk0 zh zi zn zu zo zl zf zc zs zq zr ze zg zd zm zj zk zt zb zp za po) (none, (c0 :: bk0 zh zi w_o_oRem w_o_oFilled w_o_oStatus zl w_o_oTop w_o_restIds w_o_fIds w_o_fQty w_o_fPrice ze zg zd zm zj zk zt w_o_restN w_o_fN za po), 0, 0) := by
  unfold f_applyLevel at h
  refine OEnds.adv hm_24 2 (pc' := 2) (L' := [qr 1, qi v1, qi 0, qu, qu]) (S' := []) (H' := (c0 :: bk0 zh zi zn zu zo zl zf zc zs zq zr ze zg zd zm zj zk zt zb zp za po)) rfl ?_
  exact ok_applyLevel_2 100000 h
theorem ok_matchLevel_59 {zh zi : List Int32} {zl : List Int64} {zm zj zk : Int32} {zt : Int64} {c0 : ACell} {po : List ACell} : ∀ {zn zu zo zf zc zs zq zr ze zg zd : List Int32} {zb zp za v2 v3 : Int32} {d1 d4 d5 : Slot} {res : Int32} {w_o_oRem w_o_oFilled w_o_oStatus w_o_oTop w_o_restIds w_o_fIds w_o_fQty w_o_fPrice w_o_lvlIds w_o_lvlR w_o_lvlA : List Int32} {w_o_restN w_o_fN : Int32} {w_o_lvlN : Int32}, f_matchLevel_59 zh zi zl zm zj zn zu zo zf zc zs zq zr ze zg zd zb zp za v2 v3 = some (res, w_o_oRem, w_o_oFilled, w_o_oStatus, w_o_oTop, w_o_restIds, w_o_fIds, w_o_fQty, w_o_fPrice, w_o_lvlIds, w_o_lvlR, w_o_lvlA, w_o_restN, w_o_fN, w_o_lvlN) → OEnds own_P 18 59 [qr 1, d1, qi v2, qi v3, d4, d5] [] (c0 :: bk0 zh zi zn zu zo zl zf zc zs zq zr ze zg zd zm zj zk zt zb zp za po) (some (.int res), (c0 :: bk0 zh zi w_o_oRem w_o_oFilled w_o_oStatus zl w_o_oTop w_o_restIds w_o_fIds w_o_fQty w_o_fPrice w_o_lvlIds w_o_lvlR w_o_lvlA zm zj zk zt w_o_restN w_o_fN w_o_lvlN po), 0, 0) := by
  intro zn zu zo zf zc zs zq zr ze zg zd zb zp za v2 v3 d1 d4 d5 res w_o_oRem w_o_oFilled w_o_oStatus w_o_oTop w_o_restIds w_o_fIds w_o_fQty w_o_fPrice w_o_lvlIds w_o_lvlR w_o_lvlA w_o_restN w_o_fN w_o_lvlN h
  unfold f_matchLevel_59 at h
  refine OEnds.adv hm_18 2 (pc' := 61) (L' := [qr 1, qu, qi v2, qi v3, qu, qu]) (S' := [.int v3, .ref 1]) (H' := (c0 :: bk0 zh zi zn zu zo zl zf zc zs zq zr ze zg zd zm zj zk zt zb zp za po)) rfl ?_
  obtain ⟨⟨r86, s87⟩, hq61, h⟩ := bnd h
  refine OEnds.call0 hm_18 rfl rfl (by decide) rfl (as := [.ref 1, .int v3]) (rest := []) rfl rfl (ok_allocate hq61) ?_
  refine OEnds.adv hm_18 3 (pc' := 68) (L' := [qr 1, qu, qi v2, qi v3, qi r86, qu]) (S' := [.int v2, .ref 1]) (H' := (c0 :: bk0 zh zi zn zu zo zl zf zc zs zq zr ze zg s87 zm zj zk zt zb zp za po)) rfl ?_
  obtain ⟨⟨s88, s89, s90, s91, s92, s93, s94, s95, s96, s97⟩, hq62, h⟩ := bnd h
  refine OEnds.call0 hm_18 rfl rfl (by decide) rfl (as := [.ref 1, .int v2]) (rest := []) rfl rfl (ok_applyLevel hq62) ?_
  refine OEnds.adv hm_18 1 (pc' := 73) (L' := [qr 1, qu, qi v2, qi v3, qi r86, qu]) (S' := [.int r86]) (H' := (c0 :: bk0 zh zi s88 s89 s90 zl s91 s92 s93 s94 s95 ze zg s87 zm zj zk zt s96 s97 za po)) rfl ?_
  cases h
  exact OEnds.iret hm_18 rfl rfl
theorem ok_matchLevel_13 {zh zi : List Int32} {zl : List Int64} {zm zj zk : Int32} {zt : Int64} {c0 : ACell} {po : List ACell} {k59 : List Int32 → List Int32 → List Int32 → List Int32 → List Int32 → List Int32 → List Int32 → List Int32 → List Int32 → List Int32 → List Int32 → Int32 → Int32 → Int32 → Int32 → Int32 → Option (Int32 × List Int32 × List Int32 × List Int32 × List Int32 × List Int32 × List Int32 × List Int32 × List Int32 × List Int32 × List Int32 × List Int32 × Int32 × Int32 × Int32)} (hk59 : ∀ {zn zu zo zf zc zs zq zr ze zg zd : List Int32} {zb zp za v2 v3 : Int32} {d1 d4 d5 : Slot} {res : Int32} {w_o_oRem w_o_oFilled w_o_oStatus w_o_oTop w_o_restIds w_o_fIds w_o_fQty w_o_fPrice w_o_lvlIds w_o_lvlR w_o_lvlA : List Int32} {w_o_restN w_o_fN : Int32} {w_o_lvlN : Int32}, k59 zn zu zo zf zc zs zq zr ze zg zd zb zp za v2 v3 = some (res, w_o_oRem, w_o_oFilled, w_o_oStatus, w_o_oTop, w_o_restIds, w_o_fIds, w_o_fQty, w_o_fPrice, w_o_lvlIds, w_o_lvlR, w_o_lvlA, w_o_restN, w_o_fN, w_o_lvlN) → OEnds own_P 18 59 [qr 1, d1, qi v2, qi v3, d4, d5] [] (c0 :: bk0 zh zi zn zu zo zl zf zc zs zq zr ze zg zd zm zj zk zt zb zp za po) (some (.int res), (c0 :: bk0 zh zi w_o_oRem w_o_oFilled w_o_oStatus zl w_o_oTop w_o_restIds w_o_fIds w_o_fQty w_o_fPrice w_o_lvlIds w_o_lvlR w_o_lvlA zm zj zk zt w_o_restN w_o_fN w_o_lvlN po), 0, 0)) : ∀ (n : Nat), ∀ {zn zu zo zf zc zs zq zr ze zg zd : List Int32} {zb zp za v2 v3 v4 : Int32} {d1 d5 : Slot} {res : Int32} {w_o_oRem w_o_oFilled w_o_oStatus w_o_oTop w_o_restIds w_o_fIds w_o_fQty w_o_fPrice w_o_lvlIds w_o_lvlR w_o_lvlA : List Int32} {w_o_restN w_o_fN : Int32} {w_o_lvlN : Int32}, f_matchLevel_13 k59 zh zi zl zm zj n zn zu zo zf zc zs zq zr ze zg zd zb zp za v2 v3 v4 = some (res, w_o_oRem, w_o_oFilled, w_o_oStatus, w_o_oTop, w_o_restIds, w_o_fIds, w_o_fQty, w_o_fPrice, w_o_lvlIds, w_o_lvlR, w_o_lvlA, w_o_restN, w_o_fN, w_o_lvlN) → OEnds own_P 18 13 [qr 1, d1, qi v2, qi v3, qi v4, d5] [] (c0 :: bk0 zh zi zn zu zo zl zf zc zs zq zr ze zg zd zm zj zk zt zb zp za po) (some (.int res), (c0 :: bk0 zh zi w_o_oRem w_o_oFilled w_o_oStatus zl w_o_oTop w_o_restIds w_o_fIds w_o_fQty w_o_fPrice w_o_lvlIds w_o_lvlR w_o_lvlA zm zj zk zt w_o_restN w_o_fN w_o_lvlN po), 0, 0) := by
  intro n
  induction n with
  | zero => intro zn zu zo zf zc zs zq zr ze zg zd zb zp za v2 v3 v4 d1 d5 res w_o_oRem w_o_oFilled w_o_oStatus w_o_oTop w_o_restIds w_o_fIds w_o_fQty w_o_fPrice w_o_lvlIds w_o_lvlR w_o_lvlA w_o_restN w_o_fN w_o_lvlN h; cases h
  | succ n ih =>
    intro zn zu zo zf zc zs zq zr ze zg zd zb zp za v2 v3 v4 d1 d5 res w_o_oRem w_o_oFilled w_o_oStatus w_o_oTop w_o_restIds w_o_fIds w_o_fQty w_o_fPrice w_o_lvlIds w_o_lvlR w_o_lvlA w_o_restN w_o_fN w_o_lvlN h
    unfold f_matchLevel_13 at h
    refine OEnds.adv hm_18 3 (pc' := 19) (L' := [qr 1, qu, qi v2, qi v3, qi v4, qu]) (S' := [.int za, .int v4]) (H' := (c0 :: bk0 zh zi zn zu zo zl zf zc zs zq zr ze zg zd zm zj zk zt zb zp za po)) rfl ?_
    by_cases hc63 : v4 < za
    · simp only [if_pos hc63] at h
      refine OEnds.icmpF hm_18 rfl ((tlt hc63).2.1) ?_
      refine OEnds.adv hm_18 3 (pc' := 28) (L' := [qr 1, qu, qi v2, qi v3, qi v4, qu]) (S' := [.int v4, .ref 13]) (H' := (c0 :: bk0 zh zi zn zu zo zl zf zc zs zq zr ze zg zd zm zj zk zt zb zp za po)) rfl ?_
      obtain ⟨x82, hx82, h⟩ := bnd h
      refine OEnds.plain hm_18 rfl rfl (x_iaload rfl hx82) ?_
      refine OEnds.adv hm_18 7 (pc' := 43) (L' := [qr 1, qu, qi v2, qi v3, qi v4, qi x82]) (S' := [.int x82, .ref 4, .int v4, .ref 14]) (H' := (c0 :: bk0 zh zi zn zu zo zl zf zc zs zq zr ze zg zd zm zj zk zt zb zp za po)) rfl ?_
      obtain ⟨x83, hx83, h⟩ := bnd h
      refine OEnds.plain hm_18 rfl rfl (x_iaload rfl hx83) ?_
      show OEnds own_P 18 44 [qr 1, qu, qi v2, qi v3, qi v4, qi x82] [.int x83, .int v4, .ref 14] (c0 :: bk0 zh zi zn zu zo zl zf zc zs zq zr ze zg zd zm zj zk zt zb zp za po) _
      obtain ⟨A84, hA84, h⟩ := bnd h
      refine OEnds.plain hm_18 rfl rfl (x_iastore rfl (Nat.le_of_ble_eq_true rfl) hA84) ?_
      refine OEnds.adv hm_18 4 (pc' := 52) (L' := [qr 1, qu, qi v2, qi v3, qi v4, qi x82]) (S' := [.int 0, .int v4, .ref 15]) (H' := (c0 :: bk0 zh zi zn zu zo zl zf zc zs zq zr ze A84 zd zm zj zk zt zb zp za po)) rfl ?_
      obtain ⟨A85, hA85, h⟩ := bnd h
      refine OEnds.plain hm_18 rfl rfl (x_iastore rfl (Nat.le_of_ble_eq_true rfl) hA85) ?_
      refine OEnds.adv hm_18 2 (pc' := 13) (L' := [qr 1, qu, qi v2, qi v3, qi (v4 + (1 : Int32)), qi x82]) (S' := []) (H' := (c0 :: bk0 zh zi zn zu zo zl zf zc zs zq zr ze A84 A85 zm zj zk zt zb zp za po)) rfl ?_
      exact ih h
    · simp only [if_neg hc63] at h
      refine OEnds.icmpT hm_18 rfl (q := 59) rfl ((flt hc63).2.1) ?_
      show OEnds own_P 18 59 [qr 1, qu, qi v2, qi v3, qi v4, qu] [] (c0 :: bk0 zh zi zn zu zo zl zf zc zs zq zr ze zg zd zm zj zk zt zb zp za po) _
      exact hk59 h
theorem ok_matchLevel {zh zi : List Int32} {zl : List Int64} {zm zj zk : Int32} {zt : Int64} {c0 : ACell} {po : List ACell} {zn zu zo zf zc zs zq zr ze zg zd : List Int32} {zb zp za v1 v2 v3 res : Int32} {w_o_oRem w_o_oFilled w_o_oStatus w_o_oTop w_o_restIds w_o_fIds w_o_fQty w_o_fPrice w_o_lvlIds w_o_lvlR w_o_lvlA : List Int32} {w_o_restN w_o_fN w_o_lvlN : Int32} (h : f_matchLevel zh zi zl zm zj zn zu zo zf zc zs zq zr ze zg zd zb zp za v1 v2 v3 = some (res, w_o_oRem, w_o_oFilled, w_o_oStatus, w_o_oTop, w_o_restIds, w_o_fIds, w_o_fQty, w_o_fPrice, w_o_lvlIds, w_o_lvlR, w_o_lvlA, w_o_restN, w_o_fN, w_o_lvlN)) : OEnds own_P 18 0 [qr 1, qi v1, qi v2, qi v3, qu, qu] [] (c0 :: bk0 zh zi zn zu zo zl zf zc zs zq zr ze zg zd zm zj zk zt zb zp za po) (some (.int res), (c0 :: bk0 zh zi w_o_oRem w_o_oFilled w_o_oStatus zl w_o_oTop w_o_restIds w_o_fIds w_o_fQty w_o_fPrice w_o_lvlIds w_o_lvlR w_o_lvlA zm zj zk zt w_o_restN w_o_fN w_o_lvlN po), 0, 0) := by
  unfold f_matchLevel at h
  refine OEnds.adv hm_18 3 (pc' := 3) (L' := [qr 1, qi v1, qi v2, qi v3, qu, qu]) (S' := [.int v2, .int v1, .ref 1]) (H' := (c0 :: bk0 zh zi zn zu zo zl zf zc zs zq zr ze zg zd zm zj zk zt zb zp za po)) rfl ?_
  obtain ⟨⟨s79, s80⟩, hq64, h⟩ := bnd h
  refine OEnds.call0 hm_18 rfl rfl (by decide) rfl (as := [.ref 1, .int v1, .int v2]) (rest := []) rfl rfl (ok_gatherLevel hq64) ?_
  refine OEnds.adv hm_18 1 (pc' := 7) (L' := [qr 1, qi v1, qi v2, qi v3, qu, qu]) (S' := [.ref 1]) (H' := (c0 :: bk0 zh zi zn zu zo zl zf zc zs zq zr s79 zg zd zm zj zk zt zb zp s80 po)) rfl ?_
  obtain ⟨s81, hq65, h⟩ := bnd h
  refine OEnds.call0 hm_18 rfl rfl (by decide) rfl (as := [.ref 1]) (rest := []) rfl rfl (ok_sortLevel hq65) ?_
  refine OEnds.adv hm_18 2 (pc' := 13) (L' := [qr 1, qi v1, qi v2, qi v3, qi 0, qu]) (S' := []) (H' := (c0 :: bk0 zh zi zn zu zo zl zf zc zs zq zr s81 zg zd zm zj zk zt zb zp s80 po)) rfl ?_
  exact ok_matchLevel_13 (k59 := f_matchLevel_59 zh zi zl zm zj) ok_matchLevel_59 100000 h
theorem ok_matchIncoming_12 {zh zi : List Int32} {zl : List Int64} {zm zj zk : Int32} {zt : Int64} {c0 : ACell} {po : List ACell} : ∀ (n : Nat), ∀ {zn zu zo zf zc zs zq zr ze zg zd : List Int32} {zb zp za v1 v2 v3 v5 v6 v7 : Int32} {d4 d8 d9 : Slot} {res : Int32} {w_o_oRem w_o_oFilled w_o_oStatus w_o_oTop w_o_restIds w_o_fIds w_o_fQty w_o_fPrice w_o_lvlIds w_o_lvlR w_o_lvlA : List Int32} {w_o_restN w_o_fN : Int32} {w_o_lvlN : Int32}, f_matchIncoming_12 zh zi zl zm zj n zn zu zo zf zc zs zq zr ze zg zd zb zp za v1 v2 v3 v5 v6 v7 = some (res, w_o_oRem, w_o_oFilled, w_o_oStatus, w_o_oTop, w_o_restIds, w_o_fIds, w_o_fQty, w_o_fPrice, w_o_lvlIds, w_o_lvlR, w_o_lvlA, w_o_restN, w_o_fN, w_o_lvlN) → OEnds own_P 7 12 [qr 1, qi v1, qi v2, qi v3, d4, qi v5, qi v6, qi v7, d8, d9] [] (c0 :: bk0 zh zi zn zu zo zl zf zc zs zq zr ze zg zd zm zj zk zt zb zp za po) (some (.int res), (c0 :: bk0 zh zi w_o_oRem w_o_oFilled w_o_oStatus zl w_o_oTop w_o_restIds w_o_fIds w_o_fQty w_o_fPrice w_o_lvlIds w_o_lvlR w_o_lvlA zm zj zk zt w_o_restN w_o_fN w_o_lvlN po), 0, 0) := by
  intro n
  induction n with
  | zero => intro zn zu zo zf zc zs zq zr ze zg zd zb zp za v1 v2 v3 v5 v6 v7 d4 d8 d9 res w_o_oRem w_o_oFilled w_o_oStatus w_o_oTop w_o_restIds w_o_fIds w_o_fQty w_o_fPrice w_o_lvlIds w_o_lvlR w_o_lvlA w_o_restN w_o_fN w_o_lvlN h; cases h
  | succ n ih =>
    intro zn zu zo zf zc zs zq zr ze zg zd zb zp za v1 v2 v3 v5 v6 v7 d4 d8 d9 res w_o_oRem w_o_oFilled w_o_oStatus w_o_oTop w_o_restIds w_o_fIds w_o_fQty w_o_fPrice w_o_lvlIds w_o_lvlR w_o_lvlA w_o_restN w_o_fN w_o_lvlN h
    unfold f_matchIncoming_12 at h
    refine OEnds.adv hm_7 2 (pc' := 16) (L' := [qr 1, qi v1, qi v2, qi v3, qu, qi v5, qi v6, qi v7, qu, qu]) (S' := [.int 64, .int v7]) (H' := (c0 :: bk0 zh zi zn zu zo zl zf zc zs zq zr ze zg zd zm zj zk zt zb zp za po)) rfl ?_
    by_cases hc66 : (64 : Int32) < v7
    · simp only [if_pos hc66] at h
      refine OEnds.icmpT hm_7 rfl (q := 98) rfl ((tlt hc66).2.2.1) ?_
      refine OEnds.adv hm_7 1 (pc' := 100) (L' := [qr 1, qi v1, qi v2, qi v3, qu, qi v5, qi v6, qi v7, qu, qu]) (S' := [.int v5]) (H' := (c0 :: bk0 zh zi zn zu zo zl zf zc zs zq zr ze zg zd zm zj zk zt zb zp za po)) rfl ?_
      cases h
      exact OEnds.iret hm_7 rfl rfl
    · simp only [if_neg hc66] at h
      refine OEnds.icmpF hm_7 rfl ((flt hc66).2.2.1) ?_
      refine OEnds.adv hm_7 1 (pc' := 21) (L' := [qr 1, qi v1, qi v2, qi v3, qu, qi v5, qi v6, qi v7, qu, qu]) (S' := [.int v5]) (H' := (c0 :: bk0 zh zi zn zu zo zl zf zc zs zq zr ze zg zd zm zj zk zt zb zp za po)) rfl ?_
      by_cases hc67 : (0 : Int32) < v5
      · simp only [if_pos hc67] at h
        refine OEnds.ifF hm_7 rfl ((tlt hc67).2.2.2) ?_
        refine OEnds.adv hm_7 2 (pc' := 27) (L' := [qr 1, qi v1, qi v2, qi v3, qu, qi v5, qi v6, qi v7, qu, qu]) (S' := [.int v6, .ref 1]) (H' := (c0 :: bk0 zh zi zn zu zo zl zf zc zs zq zr ze zg zd zm zj zk zt zb zp za po)) rfl ?_
        obtain ⟨r98, hq68, h⟩ := bnd h
        refine OEnds.call0 hm_7 rfl rfl (by decide) rfl (as := [.ref 1, .int v6]) (rest := []) rfl rfl (ok_bestOf hq68) ?_
        refine OEnds.adv hm_7 2 (pc' := 34) (L' := [qr 1, qi v1, qi v2, qi v3, qu, qi v5, qi v6, qi v7, qi r98, qu]) (S' := [.int r98]) (H' := (c0 :: bk0 zh zi zn zu zo zl zf zc zs zq zr ze zg zd zm zj zk zt zb zp za po)) rfl ?_
        by_cases hc69 : r98 = (0 : Int32)
        · simp only [if_pos hc69] at h
          refine OEnds.ifF hm_7 rfl ((teq hc69).2) ?_
          refine OEnds.adv hm_7 2 (pc' := 100) (L' := [qr 1, qi v1, qi v2, qi v3, qu, qi v5, qi v6, qi v7, qi r98, qu]) (S' := [.int v5]) (H' := (c0 :: bk0 zh zi zn zu zo zl zf zc zs zq zr ze zg zd zm zj zk zt zb zp za po)) rfl ?_
          cases h
          exact OEnds.iret hm_7 rfl rfl
        · simp only [if_neg hc69] at h
          refine OEnds.ifT hm_7 rfl (q := 40) rfl ((feq hc69).2) ?_
          refine OEnds.adv hm_7 4 (pc' := 45) (L' := [qr 1, qi v1, qi v2, qi v3, qu, qi v5, qi v6, qi v7, qi r98, qu]) (S' := [.int r98, .int v3, .int v2, .ref 1]) (H' := (c0 :: bk0 zh zi zn zu zo zl zf zc zs zq zr ze zg zd zm zj zk zt zb zp za po)) rfl ?_
          obtain ⟨r99, hq70, h⟩ := bnd h
          refine OEnds.call0 hm_7 rfl rfl (by decide) rfl (as := [.ref 1, .int v2, .int v3, .int r98]) (rest := []) rfl rfl (ok_crosses hq70) ?_
          show OEnds own_P 7 48 [qr 1, qi v1, qi v2, qi v3, qu, qi v5, qi v6, qi v7, qi r98, qu] [.int r99] (c0 :: bk0 zh zi zn zu zo zl zf zc zs zq zr ze zg zd zm zj zk zt zb zp za po) _
          by_cases hc71 : r99 = (0 : Int32)
          · simp only [if_pos hc71] at h
            refine OEnds.ifF hm_7 rfl ((teq hc71).2) ?_
            refine OEnds.adv hm_7 2 (pc' := 100) (L' := [qr 1, qi v1, qi v2, qi v3, qu, qi v5, qi v6, qi v7, qi r98, qu]) (S' := [.int v5]) (H' := (c0 :: bk0 zh zi zn zu zo zl zf zc zs zq zr ze zg zd zm zj zk zt zb zp za po)) rfl ?_
            cases h
            exact OEnds.iret hm_7 rfl rfl
          · simp only [if_neg hc71] at h
            refine OEnds.ifT hm_7 rfl (q := 54) rfl ((feq hc71).2) ?_
            refine OEnds.adv hm_7 4 (pc' := 61) (L' := [qr 1, qi v1, qi v2, qi v3, qu, qi v5, qi v6, qi v7, qi r98, qu]) (S' := [.int v5, .int r98, .int v6, .ref 1]) (H' := (c0 :: bk0 zh zi zn zu zo zl zf zc zs zq zr ze zg zd zm zj zk zt zb zp za po)) rfl ?_
            obtain ⟨⟨r100, s101, s102, s103, s104, s105, s106, s107, s108, s109, s110, s111, s112, s113, s114⟩, hq72, h⟩ := bnd h
            refine OEnds.call0 hm_7 rfl rfl (by decide) rfl (as := [.ref 1, .int v6, .int r98, .int v5]) (rest := []) rfl rfl (ok_matchLevel hq72) ?_
            refine OEnds.adv hm_7 2 (pc' := 68) (L' := [qr 1, qi v1, qi v2, qi v3, qu, qi v5, qi v6, qi v7, qi r98, qi r100]) (S' := [.int r100]) (H' := (c0 :: bk0 zh zi s101 s102 s103 zl s104 s105 s106 s107 s108 s109 s110 s111 zm zj zk zt s112 s113 s114 po)) rfl ?_
            by_cases hc73 : (0 : Int32) < r100
            · simp only [if_pos hc73] at h
              refine OEnds.ifT hm_7 rfl (q := 74) rfl ((tlt hc73).2.2.1) ?_
              refine OEnds.adv hm_7 8 (pc' := 87) (L' := [qr 1, qi v1, qi v2, qi v3, qu, qi (v5 - r100), qi v6, qi v7, qi r98, qi r100]) (S' := [.int v1, .ref 5, .int v1, .ref 5]) (H' := (c0 :: bk0 zh zi s101 s102 s103 zl s104 s105 s106 s107 s108 s109 s110 s111 zm zj zk zt s112 s113 s114 po)) rfl ?_
              obtain ⟨x115, hx115, h⟩ := bnd h
              refine OEnds.plain hm_7 rfl rfl (x_iaload rfl hx115) ?_
              refine OEnds.adv hm_7 2 (pc' := 91) (L' := [qr 1, qi v1, qi v2, qi v3, qu, qi (v5 - r100), qi v6, qi v7, qi r98, qi r100]) (S' := [.int (x115 + r100), .int v1, .ref 5]) (H' := (c0 :: bk0 zh zi s101 s102 s103 zl s104 s105 s106 s107 s108 s109 s110 s111 zm zj zk zt s112 s113 s114 po)) rfl ?_
              obtain ⟨A116, hA116, h⟩ := bnd h
              refine OEnds.plain hm_7 rfl rfl (x_iastore rfl (Nat.le_of_ble_eq_true rfl) hA116) ?_
              refine OEnds.adv hm_7 2 (pc' := 12) (L' := [qr 1, qi v1, qi v2, qi v3, qu, qi (v5 - r100), qi v6, qi (v7 + (1 : Int32)), qi r98, qi r100]) (S' := []) (H' := (c0 :: bk0 zh zi s101 A116 s103 zl s104 s105 s106 s107 s108 s109 s110 s111 zm zj zk zt s112 s113 s114 po)) rfl ?_
              exact ih h
            · simp only [if_neg hc73] at h
              refine OEnds.ifF hm_7 rfl ((flt hc73).2.2.1) ?_
              refine OEnds.adv hm_7 2 (pc' := 100) (L' := [qr 1, qi v1, qi v2, qi v3, qu, qi v5, qi v6, qi v7, qi r98, qi r100]) (S' := [.int v5]) (H' := (c0 :: bk0 zh zi s101 s102 s103 zl s104 s105 s106 s107 s108 s109 s110 s111 zm zj zk zt s112 s113 s114 po)) rfl ?_
              cases h
              exact OEnds.iret hm_7 rfl rfl
      · simp only [if_neg hc67] at h
        refine OEnds.ifT hm_7 rfl (q := 98) rfl ((flt hc67).2.2.2) ?_
        refine OEnds.adv hm_7 1 (pc' := 100) (L' := [qr 1, qi v1, qi v2, qi v3, qu, qi v5, qi v6, qi v7, qu, qu]) (S' := [.int v5]) (H' := (c0 :: bk0 zh zi zn zu zo zl zf zc zs zq zr ze zg zd zm zj zk zt zb zp za po)) rfl ?_
        cases h
        exact OEnds.iret hm_7 rfl rfl
theorem ok_matchIncoming {zh zi : List Int32} {zl : List Int64} {zm zj zk : Int32} {zt : Int64} {c0 : ACell} {po : List ACell} {zn zu zo zf zc zs zq zr ze zg zd : List Int32} {zb zp za v1 v2 v3 v4 res : Int32} {w_o_oRem w_o_oFilled w_o_oStatus w_o_oTop w_o_restIds w_o_fIds w_o_fQty w_o_fPrice w_o_lvlIds w_o_lvlR w_o_lvlA : List Int32} {w_o_restN w_o_fN w_o_lvlN : Int32} (h : f_matchIncoming zh zi zl zm zj zn zu zo zf zc zs zq zr ze zg zd zb zp za v1 v2 v3 v4 = some (res, w_o_oRem, w_o_oFilled, w_o_oStatus, w_o_oTop, w_o_restIds, w_o_fIds, w_o_fQty, w_o_fPrice, w_o_lvlIds, w_o_lvlR, w_o_lvlA, w_o_restN, w_o_fN, w_o_lvlN)) : OEnds own_P 7 0 [qr 1, qi v1, qi v2, qi v3, qi v4, qu, qu, qu, qu, qu] [] (c0 :: bk0 zh zi zn zu zo zl zf zc zs zq zr ze zg zd zm zj zk zt zb zp za po) (some (.int res), (c0 :: bk0 zh zi w_o_oRem w_o_oFilled w_o_oStatus zl w_o_oTop w_o_restIds w_o_fIds w_o_fQty w_o_fPrice w_o_lvlIds w_o_lvlR w_o_lvlA zm zj zk zt w_o_restN w_o_fN w_o_lvlN po), 0, 0) := by
  unfold f_matchIncoming at h
  refine OEnds.adv hm_7 8 (pc' := 12) (L' := [qr 1, qi v1, qi v2, qi v3, qi v4, qi v4, qi ((1 : Int32) - v2), qi 0, qu, qu]) (S' := []) (H' := (c0 :: bk0 zh zi zn zu zo zl zf zc zs zq zr ze zg zd zm zj zk zt zb zp za po)) rfl ?_
  exact ok_matchIncoming_12 100000 h
theorem ok_clearFlags_2 {zh zi zn zu zo : List Int32} {zl : List Int64} {zc zs zq zr ze zg zd : List Int32} {zm zj zk : Int32} {zt : Int64} {zb zp za : Int32} {c0 : ACell} {po : List ACell} : ∀ (n : Nat), ∀ {zf : List Int32} {v1 v2 : Int32} {d3 : Slot} {w_o_oTop : List Int32}, f_clearFlags_2 zh zc zb n zf v1 v2 = some w_o_oTop → OEnds own_P 10 2 [qr 1, qi v1, qi v2, d3] [] (c0 :: bk0 zh zi zn zu zo zl zf zc zs zq zr ze zg zd zm zj zk zt zb zp za po) (none, (c0 :: bk0 zh zi zn zu zo zl w_o_oTop zc zs zq zr ze zg zd zm zj zk zt zb zp za po), 0, 0) := by
  intro n
  induction n with
  | zero => intro zf v1 v2 d3 w_o_oTop h; cases h
  | succ n ih =>
    intro zf v1 v2 d3 w_o_oTop h
    unfold f_clearFlags_2 at h
    refine OEnds.adv hm_10 3 (pc' := 7) (L' := [qr 1, qi v1, qi v2, qu]) (S' := [.int zb, .int v2]) (H' := (c0 :: bk0 zh zi zn zu zo zl zf zc zs zq zr ze zg zd zm zj zk zt zb zp za po)) rfl ?_
    by_cases hc74 : v2 < zb
    · simp only [if_pos hc74] at h
      refine OEnds.icmpF hm_10 rfl ((tlt hc74).2.1) ?_
      refine OEnds.adv hm_10 3 (pc' := 15) (L' := [qr 1, qi v1, qi v2, qu]) (S' := [.int v2, .ref 9]) (H' := (c0 :: bk0 zh zi zn zu zo zl zf zc zs zq zr ze zg zd zm zj zk zt zb zp za po)) rfl ?_
      obtain ⟨x117, hx117, h⟩ := bnd h
      refine OEnds.plain hm_10 rfl rfl (x_iaload rfl hx117) ?_
      refine OEnds.adv hm_10 4 (pc' := 22) (L' := [qr 1, qi v1, qi v2, qi x117]) (S' := [.int x117, .ref 2]) (H' := (c0 :: bk0 zh zi zn zu zo zl zf zc zs zq zr ze zg zd zm zj zk zt zb zp za po)) rfl ?_
      obtain ⟨x118, hx118, h⟩ := bnd h
      refine OEnds.plain hm_10 rfl rfl (x_iaload rfl hx118) ?_
      refine OEnds.adv hm_10 1 (pc' := 24) (L' := [qr 1, qi v1, qi v2, qi x117]) (S' := [.int v1, .int x118]) (H' := (c0 :: bk0 zh zi zn zu zo zl zf zc zs zq zr ze zg zd zm zj zk zt zb zp za po)) rfl ?_
      by_cases hc75 : x118 = v1
      · simp only [if_pos hc75] at h
        refine OEnds.icmpF hm_10 rfl ((teq hc75).2) ?_
        refine OEnds.adv hm_10 4 (pc' := 33) (L' := [qr 1, qi v1, qi v2, qi x117]) (S' := [.int 0, .int x117, .ref 8]) (H' := (c0 :: bk0 zh zi zn zu zo zl zf zc zs zq zr ze zg zd zm zj zk zt zb zp za po)) rfl ?_
        obtain ⟨A119, hA119, h⟩ := bnd h
        refine OEnds.plain hm_10 rfl rfl (x_bastore rfl (Nat.le_of_ble_eq_true rfl) hA119) ?_
        refine OEnds.adv hm_10 2 (pc' := 2) (L' := [qr 1, qi v1, qi (v2 + (1 : Int32)), qi x117]) (S' := []) (H' := (c0 :: bk0 zh zi zn zu zo zl A119 zc zs zq zr ze zg zd zm zj zk zt zb zp za po)) rfl ?_
        exact ih h
      · simp only [if_neg hc75] at h
        refine OEnds.icmpT hm_10 rfl (q := 34) rfl ((feq hc75).2) ?_
        refine OEnds.adv hm_10 2 (pc' := 2) (L' := [qr 1, qi v1, qi (v2 + (1 : Int32)), qi x117]) (S' := []) (H' := (c0 :: bk0 zh zi zn zu zo zl zf zc zs zq zr ze zg zd zm zj zk zt zb zp za po)) rfl ?_
        exact ih h
    · simp only [if_neg hc74] at h
      refine OEnds.icmpT hm_10 rfl (q := 40) rfl ((flt hc74).2.1) ?_
      show OEnds own_P 10 40 [qr 1, qi v1, qi v2, qu] [] (c0 :: bk0 zh zi zn zu zo zl zf zc zs zq zr ze zg zd zm zj zk zt zb zp za po) _
      cases h
      exact OEnds.vret hm_10 rfl rfl
theorem ok_clearFlags {zh zi zn zu zo : List Int32} {zl : List Int64} {zc zs zq zr ze zg zd : List Int32} {zm zj zk : Int32} {zt : Int64} {zb zp za : Int32} {c0 : ACell} {po : List ACell} {zf : List Int32} {v1 : Int32} {w_o_oTop : List Int32} (h : f_clearFlags zh zc zb zf v1 = some w_o_oTop) : OEnds own_P 10 0 [qr 1, qi v1, qu, qu] [] (c0 :: bk0 zh zi zn zu zo zl zf zc zs zq zr ze zg zd zm zj zk zt zb zp za po) (none, (c0 :: bk0 zh zi zn zu zo zl w_o_oTop zc zs zq zr ze zg zd zm zj zk zt zb zp za po), 0, 0) := by
  unfold f_clearFlags at h
  refine OEnds.adv hm_10 2 (pc' := 2) (L' := [qr 1, qi v1, qi 0, qu]) (S' := []) (H' := (c0 :: bk0 zh zi zn zu zo zl zf zc zs zq zr ze zg zd zm zj zk zt zb zp za po)) rfl ?_
  exact ok_clearFlags_2 100000 h
theorem ok_finishIncoming_90 {zh zi zu zs zq zr ze zg zd : List Int32} {zm zj zk zp za : Int32} {c0 : ACell} {po : List ACell} : ∀ {zn zo : List Int32} {zl : List Int64} {zf zc : List Int32} {zt : Int64} {zb v1 v4 v7 : Int32} {d2 d3 d5 d6 : Slot} {w_o_oRem w_o_oStatus : List Int32} {w_o_oStamp : List Int64} {w_o_oTop w_o_restIds : List Int32} {w_o_stampCounter : Int64} {w_o_restN : Int32}, f_finishIncoming_90 zh zi zn zo zl zf zc zt zb v1 v4 v7 = some (w_o_oRem, w_o_oStatus, w_o_oStamp, w_o_oTop, w_o_restIds, w_o_stampCounter, w_o_restN) → OEnds own_P 9 90 [qr 1, qi v1, d2, d3, qi v4, d5, d6, qi v7] [] (c0 :: bk0 zh zi zn zu zo zl zf zc zs zq zr ze zg zd zm zj zk zt zb zp za po) (none, (c0 :: bk0 zh zi w_o_oRem zu w_o_oStatus w_o_oStamp w_o_oTop w_o_restIds zs zq zr ze zg zd zm zj zk w_o_stampCounter w_o_restN zp za po), 0, 0) := by
  intro zn zo zl zf zc zt zb v1 v4 v7 d2 d3 d5 d6 w_o_oRem w_o_oStatus w_o_oStamp w_o_oTop w_o_restIds w_o_stampCounter w_o_restN h
  unfold f_finishIncoming_90 at h
  refine OEnds.adv hm_9 11 (pc' := 109) (L' := [qr 1, qi v1, qu, qu, qi v4, qu, qu, qi v7]) (S' := [.long (zt + (1 : Int64)), .int v1, .ref 7]) (H' := (c0 :: bk0 zh zi zn zu zo zl zf zc zs zq zr ze zg zd zm zj zk (zt + (1 : Int64)) zb zp za po)) rfl ?_
  obtain ⟨A125, hA125, h⟩ := bnd h
  refine OEnds.plain hm_9 rfl rfl (x_lastore rfl (Nat.le_of_ble_eq_true rfl) hA125) ?_
  refine OEnds.adv hm_9 4 (pc' := 117) (L' := [qr 1, qi v1, qu, qu, qi v4, qu, qu, qi v7]) (S' := [.int v4, .int v1, .ref 4]) (H' := (c0 :: bk0 zh zi zn zu zo A125 zf zc zs zq zr ze zg zd zm zj zk (zt + (1 : Int64)) zb zp za po)) rfl ?_
  obtain ⟨A126, hA126, h⟩ := bnd h
  refine OEnds.plain hm_9 rfl rfl (x_iastore rfl (Nat.le_of_ble_eq_true rfl) hA126) ?_
  refine OEnds.adv hm_9 4 (pc' := 124) (L' := [qr 1, qi v1, qu, qu, qi v4, qu, qu, qi v7]) (S' := [.int 1, .int v1, .ref 6]) (H' := (c0 :: bk0 zh zi A126 zu zo A125 zf zc zs zq zr ze zg zd zm zj zk (zt + (1 : Int64)) zb zp za po)) rfl ?_
  obtain ⟨A127, hA127, h⟩ := bnd h
  refine OEnds.plain hm_9 rfl rfl (x_iastore rfl (Nat.le_of_ble_eq_true rfl) hA127) ?_
  refine OEnds.adv hm_9 4 (pc' := 132) (L' := [qr 1, qi v1, qu, qu, qi v4, qu, qu, qi v7]) (S' := [.int v7, .int v1, .ref 8]) (H' := (c0 :: bk0 zh zi A126 zu A127 A125 zf zc zs zq zr ze zg zd zm zj zk (zt + (1 : Int64)) zb zp za po)) rfl ?_
  obtain ⟨A128, hA128, h⟩ := bnd h
  refine OEnds.plain hm_9 rfl rfl (x_bastore rfl (Nat.le_of_ble_eq_true rfl) hA128) ?_
  refine OEnds.adv hm_9 5 (pc' := 142) (L' := [qr 1, qi v1, qu, qu, qi v4, qu, qu, qi v7]) (S' := [.int v1, .int zb, .ref 9]) (H' := (c0 :: bk0 zh zi A126 zu A127 A125 A128 zc zs zq zr ze zg zd zm zj zk (zt + (1 : Int64)) zb zp za po)) rfl ?_
  obtain ⟨A129, hA129, h⟩ := bnd h
  refine OEnds.plain hm_9 rfl rfl (x_iastore rfl (Nat.le_of_ble_eq_true rfl) hA129) ?_
  refine OEnds.adv hm_9 6 (pc' := 153) (L' := [qr 1, qi v1, qu, qu, qi v4, qu, qu, qi v7]) (S' := []) (H' := (c0 :: bk0 zh zi A126 zu A127 A125 A128 A129 zs zq zr ze zg zd zm zj zk (zt + (1 : Int64)) (zb + (1 : Int32)) zp za po)) rfl ?_
  cases h
  exact OEnds.vret hm_9 rfl rfl
theorem ok_finishIncoming_78 {zh zi zu zs zq zr ze zg zd : List Int32} {zm zj zk zp za : Int32} {c0 : ACell} {po : List ACell} : ∀ {zn zo : List Int32} {zl : List Int64} {zf zc : List Int32} {zt : Int64} {zb v1 v2 v4 t0 : Int32} {d3 d5 d6 d7 : Slot} {w_o_oRem w_o_oStatus : List Int32} {w_o_oStamp : List Int64} {w_o_oTop w_o_restIds : List Int32} {w_o_stampCounter : Int64} {w_o_restN : Int32}, f_finishIncoming_78 zh zi zn zo zl zf zc zt zb v1 v2 v4 t0 = some (w_o_oRem, w_o_oStatus, w_o_oStamp, w_o_oTop, w_o_restIds, w_o_stampCounter, w_o_restN) → OEnds own_P 9 78 [qr 1, qi v1, qi v2, d3, qi v4, d5, d6, d7] [.int t0] (c0 :: bk0 zh zi zn zu zo zl zf zc zs zq zr ze zg zd zm zj zk zt zb zp za po) (none, (c0 :: bk0 zh zi w_o_oRem zu w_o_oStatus w_o_oStamp w_o_oTop w_o_restIds zs zq zr ze zg zd zm zj zk w_o_stampCounter w_o_restN zp za po), 0, 0) := by
  intro zn zo zl zf zc zt zb v1 v2 v4 t0 d3 d5 d6 d7 w_o_oRem w_o_oStatus w_o_oStamp w_o_oTop w_o_restIds w_o_stampCounter w_o_restN h
  unfold f_finishIncoming_78 at h
  refine OEnds.adv hm_9 2 (pc' := 82) (L' := [qr 1, qi v1, qi v2, qu, qi v4, qu, qu, qi t0]) (S' := [.int t0]) (H' := (c0 :: bk0 zh zi zn zu zo zl zf zc zs zq zr ze zg zd zm zj zk zt zb zp za po)) rfl ?_
  by_cases hc76 : t0 = (0 : Int32)
  · simp only [if_pos hc76] at h
    refine OEnds.ifT hm_9 rfl (q := 90) rfl ((teq hc76).1) ?_
    show OEnds own_P 9 90 [qr 1, qi v1, qi v2, qu, qi v4, qu, qu, qi t0] [] (c0 :: bk0 zh zi zn zu zo zl zf zc zs zq zr ze zg zd zm zj zk zt zb zp za po) _
    exact ok_finishIncoming_90 h
  · simp only [if_neg hc76] at h
    refine OEnds.ifF hm_9 rfl ((feq hc76).1) ?_
    refine OEnds.adv hm_9 2 (pc' := 87) (L' := [qr 1, qi v1, qi v2, qu, qi v4, qu, qu, qi t0]) (S' := [.int v2, .ref 1]) (H' := (c0 :: bk0 zh zi zn zu zo zl zf zc zs zq zr ze zg zd zm zj zk zt zb zp za po)) rfl ?_
    obtain ⟨s124, hq77, h⟩ := bnd h
    refine OEnds.call0 hm_9 rfl rfl (by decide) rfl (as := [.ref 1, .int v2]) (rest := []) rfl rfl (ok_clearFlags hq77) ?_
    show OEnds own_P 9 90 [qr 1, qi v1, qi v2, qu, qi v4, qu, qu, qi t0] [] (c0 :: bk0 zh zi zn zu zo zl s124 zc zs zq zr ze zg zd zm zj zk zt zb zp za po) _
    exact ok_finishIncoming_90 h
theorem ok_finishIncoming_35 {zh zi zu zs zq zr ze zg zd : List Int32} {zm zj zk zp za : Int32} {c0 : ACell} {po : List ACell} : ∀ {zn zo : List Int32} {zl : List Int64} {zf zc : List Int32} {zt : Int64} {zb v1 : Int32} {d2 d3 d4 d5 d6 d7 : Slot} {w_o_oRem w_o_oStatus : List Int32} {w_o_oStamp : List Int64} {w_o_oTop w_o_restIds : List Int32} {w_o_stampCounter : Int64} {w_o_restN : Int32}, f_finishIncoming_35 zh zi zn zo zl zf zc zt zb v1 = some (w_o_oRem, w_o_oStatus, w_o_oStamp, w_o_oTop, w_o_restIds, w_o_stampCounter, w_o_restN) → OEnds own_P 9 35 [qr 1, qi v1, d2, d3, d4, d5, d6, d7] [] (c0 :: bk0 zh zi zn zu zo zl zf zc zs zq zr ze zg zd zm zj zk zt zb zp za po) (none, (c0 :: bk0 zh zi w_o_oRem zu w_o_oStatus w_o_oStamp w_o_oTop w_o_restIds zs zq zr ze zg zd zm zj zk w_o_stampCounter w_o_restN zp za po), 0, 0) := by
  intro zn zo zl zf zc zt zb v1 d2 d3 d4 d5 d6 d7 w_o_oRem w_o_oStatus w_o_oStamp w_o_oTop w_o_restIds w_o_stampCounter w_o_restN h
  unfold f_finishIncoming_35 at h
  refine OEnds.adv hm_9 4 (pc' := 41) (L' := [qr 1, qi v1, qu, qu, qu, qu, qu, qu]) (S' := [.int 4, .int v1, .ref 6]) (H' := (c0 :: bk0 zh zi zn zu zo zl zf zc zs zq zr ze zg zd zm zj zk zt zb zp za po)) rfl ?_
  obtain ⟨A130, hA130, h⟩ := bnd h
  refine OEnds.plain hm_9 rfl rfl (x_iastore rfl (Nat.le_of_ble_eq_true rfl) hA130) ?_
  refine OEnds.adv hm_9 4 (pc' := 48) (L' := [qr 1, qi v1, qu, qu, qu, qu, qu, qu]) (S' := [.int 0, .int v1, .ref 4]) (H' := (c0 :: bk0 zh zi zn zu A130 zl zf zc zs zq zr ze zg zd zm zj zk zt zb zp za po)) rfl ?_
  obtain ⟨A131, hA131, h⟩ := bnd h
  refine OEnds.plain hm_9 rfl rfl (x_iastore rfl (Nat.le_of_ble_eq_true rfl) hA131) ?_
  show OEnds own_P 9 49 [qr 1, qi v1, qu, qu, qu, qu, qu, qu] [] (c0 :: bk0 zh zi A131 zu A130 zl zf zc zs zq zr ze zg zd zm zj zk zt zb zp za po) _
  cases h
  exact OEnds.vret hm_9 rfl rfl
theorem ok_finishIncoming {zh zi zu zs zq zr ze zg zd : List Int32} {zm zj zk zp za : Int32} {c0 : ACell} {po : List ACell} {zn zo : List Int32} {zl : List Int64} {zf zc : List Int32} {zt : Int64} {zb v1 v2 v3 v4 v5 : Int32} {w_o_oRem w_o_oStatus : List Int32} {w_o_oStamp : List Int64} {w_o_oTop w_o_restIds : List Int32} {w_o_stampCounter : Int64} {w_o_restN : Int32} (h : f_finishIncoming zh zi zn zo zl zf zc zt zb v1 v2 v3 v4 v5 = some (w_o_oRem, w_o_oStatus, w_o_oStamp, w_o_oTop, w_o_restIds, w_o_stampCounter, w_o_restN)) : OEnds own_P 9 0 [qr 1, qi v1, qi v2, qi v3, qi v4, qi v5, qu, qu] [] (c0 :: bk0 zh zi zn zu zo zl zf zc zs zq zr ze zg zd zm zj zk zt zb zp za po) (none, (c0 :: bk0 zh zi w_o_oRem zu w_o_oStatus w_o_oStamp w_o_oTop w_o_restIds zs zq zr ze zg zd zm zj zk w_o_stampCounter w_o_restN zp za po), 0, 0) := by
  unfold f_finishIncoming at h
  refine OEnds.adv hm_9 1 (pc' := 2) (L' := [qr 1, qi v1, qi v2, qi v3, qi v4, qi v5, qu, qu]) (S' := [.int v4]) (H' := (c0 :: bk0 zh zi zn zu zo zl zf zc zs zq zr ze zg zd zm zj zk zt zb zp za po)) rfl ?_
  by_cases hc78 : v4 = (0 : Int32)
  · simp only [if_pos hc78] at h
    refine OEnds.ifF hm_9 rfl ((teq hc78).2) ?_
    refine OEnds.adv hm_9 4 (pc' := 11) (L' := [qr 1, qi v1, qi v2, qi v3, qi v4, qi v5, qu, qu]) (S' := [.int 2, .int v1, .ref 6]) (H' := (c0 :: bk0 zh zi zn zu zo zl zf zc zs zq zr ze zg zd zm zj zk zt zb zp za po)) rfl ?_
    obtain ⟨A122, hA122, h⟩ := bnd h
    refine OEnds.plain hm_9 rfl rfl (x_iastore rfl (Nat.le_of_ble_eq_true rfl) hA122) ?_
    refine OEnds.adv hm_9 4 (pc' := 18) (L' := [qr 1, qi v1, qi v2, qi v3, qi v4, qi v5, qu, qu]) (S' := [.int 0, .int v1, .ref 4]) (H' := (c0 :: bk0 zh zi zn zu A122 zl zf zc zs zq zr ze zg zd zm zj zk zt zb zp za po)) rfl ?_
    obtain ⟨A123, hA123, h⟩ := bnd h
    refine OEnds.plain hm_9 rfl rfl (x_iastore rfl (Nat.le_of_ble_eq_true rfl) hA123) ?_
    show OEnds own_P 9 19 [qr 1, qi v1, qi v2, qi v3, qi v4, qi v5, qu, qu] [] (c0 :: bk0 zh zi A123 zu A122 zl zf zc zs zq zr ze zg zd zm zj zk zt zb zp za po) _
    cases h
    exact OEnds.vret hm_9 rfl rfl
  · simp only [if_neg hc78] at h
    refine OEnds.ifT hm_9 rfl (q := 20) rfl ((feq hc78).2) ?_
    refine OEnds.adv hm_9 2 (pc' := 23) (L' := [qr 1, qi v1, qi v2, qi v3, qi v4, qi v5, qu, qu]) (S' := [.int 1, .int v5]) (H' := (c0 :: bk0 zh zi zn zu zo zl zf zc zs zq zr ze zg zd zm zj zk zt zb zp za po)) rfl ?_
    by_cases hc79 : v5 = (1 : Int32)
    · simp only [if_pos hc79] at h
      refine OEnds.icmpT hm_9 rfl (q := 35) rfl ((teq hc79).1) ?_
      show OEnds own_P 9 35 [qr 1, qi v1, qi v2, qi v3, qi v4, qi v5, qu, qu] [] (c0 :: bk0 zh zi zn zu zo zl zf zc zs zq zr ze zg zd zm zj zk zt zb zp za po) _
      exact ok_finishIncoming_35 h
    · simp only [if_neg hc79] at h
      refine OEnds.icmpF hm_9 rfl ((feq hc79).1) ?_
      refine OEnds.adv hm_9 3 (pc' := 32) (L' := [qr 1, qi v1, qi v2, qi v3, qi v4, qi v5, qu, qu]) (S' := [.int 64, .int zb]) (H' := (c0 :: bk0 zh zi zn zu zo zl zf zc zs zq zr ze zg zd zm zj zk zt zb zp za po)) rfl ?_
      by_cases hc80 : zb < (64 : Int32)
      · simp only [if_pos hc80] at h
        refine OEnds.icmpT hm_9 rfl (q := 50) rfl ((tlt hc80).1) ?_
        refine OEnds.adv hm_9 2 (pc' := 52) (L' := [qr 1, qi v1, qi v2, qi v3, qi v4, qi v5, qu, qu]) (S' := [.int v2, .ref 1]) (H' := (c0 :: bk0 zh zi zn zu zo zl zf zc zs zq zr ze zg zd zm zj zk zt zb zp za po)) rfl ?_
        obtain ⟨r120, hq81, h⟩ := bnd h
        refine OEnds.call0 hm_9 rfl rfl (by decide) rfl (as := [.ref 1, .int v2]) (rest := []) rfl rfl (ok_bestOf hq81) ?_
        refine OEnds.adv hm_9 2 (pc' := 59) (L' := [qr 1, qi v1, qi v2, qi v3, qi v4, qi v5, qi r120, qu]) (S' := [.int r120]) (H' := (c0 :: bk0 zh zi zn zu zo zl zf zc zs zq zr ze zg zd zm zj zk zt zb zp za po)) rfl ?_
        by_cases hc82 : r120 = (0 : Int32)
        · simp only [if_pos hc82] at h
          refine OEnds.ifT hm_9 rfl (q := 73) rfl ((teq hc82).1) ?_
          refine OEnds.adv hm_9 2 (pc' := 78) (L' := [qr 1, qi v1, qi v2, qi v3, qi v4, qi v5, qi r120, qu]) (S' := [.int 1]) (H' := (c0 :: bk0 zh zi zn zu zo zl zf zc zs zq zr ze zg zd zm zj zk zt zb zp za po)) rfl ?_
          exact ok_finishIncoming_78 h
        · simp only [if_neg hc82] at h
          refine OEnds.ifF hm_9 rfl ((feq hc82).1) ?_
          refine OEnds.adv hm_9 4 (pc' := 67) (L' := [qr 1, qi v1, qi v2, qi v3, qi v4, qi v5, qi r120, qu]) (S' := [.int r120, .int v3, .int v2, .ref 1]) (H' := (c0 :: bk0 zh zi zn zu zo zl zf zc zs zq zr ze zg zd zm zj zk zt zb zp za po)) rfl ?_
          obtain ⟨r121, hq83, h⟩ := bnd h
          refine OEnds.call0 hm_9 rfl rfl (by decide) rfl (as := [.ref 1, .int v2, .int v3, .int r120]) (rest := []) rfl rfl (ok_better hq83) ?_
          show OEnds own_P 9 70 [qr 1, qi v1, qi v2, qi v3, qi v4, qi v5, qi r120, qu] [.int r121] (c0 :: bk0 zh zi zn zu zo zl zf zc zs zq zr ze zg zd zm zj zk zt zb zp za po) _
          by_cases hc84 : r121 = (0 : Int32)
          · simp only [if_pos hc84] at h
            refine OEnds.ifT hm_9 rfl (q := 77) rfl ((teq hc84).1) ?_
            refine OEnds.adv hm_9 1 (pc' := 78) (L' := [qr 1, qi v1, qi v2, qi v3, qi v4, qi v5, qi r120, qu]) (S' := [.int 0]) (H' := (c0 :: bk0 zh zi zn zu zo zl zf zc zs zq zr ze zg zd zm zj zk zt zb zp za po)) rfl ?_
            exact ok_finishIncoming_78 h
          · simp only [if_neg hc84] at h
            refine OEnds.ifF hm_9 rfl ((feq hc84).1) ?_
            refine OEnds.adv hm_9 2 (pc' := 78) (L' := [qr 1, qi v1, qi v2, qi v3, qi v4, qi v5, qi r120, qu]) (S' := [.int 1]) (H' := (c0 :: bk0 zh zi zn zu zo zl zf zc zs zq zr ze zg zd zm zj zk zt zb zp za po)) rfl ?_
            exact ok_finishIncoming_78 h
      · simp only [if_neg hc80] at h
        refine OEnds.icmpF hm_9 rfl ((flt hc80).1) ?_
        show OEnds own_P 9 35 [qr 1, qi v1, qi v2, qi v3, qi v4, qi v5, qu, qu] [] (c0 :: bk0 zh zi zn zu zo zl zf zc zs zq zr ze zg zd zm zj zk zt zb zp za po) _
        exact ok_finishIncoming_35 h
theorem ok_submit_55 {zm zj : Int32} {c0 : ACell} {po : List ACell} : ∀ {zh zi zn zu zo : List Int32} {zl : List Int64} {zf zc zs zq zr ze zg zd : List Int32} {zk : Int32} {zt : Int64} {zb zp za v1 v2 v3 v4 : Int32} {d5 d6 : Slot} {res : Int32} {w_o_oSide w_o_oPrice w_o_oRem w_o_oFilled w_o_oStatus : List Int32} {w_o_oStamp : List Int64} {w_o_oTop w_o_restIds w_o_fIds w_o_fQty w_o_fPrice w_o_lvlIds w_o_lvlR w_o_lvlA : List Int32} {w_o_accepted : Int32} {w_o_stampCounter : Int64} {w_o_restN w_o_fN : Int32} {w_o_lvlN : Int32}, f_submit_55 zm zj zh zi zn zu zo zl zf zc zs zq zr ze zg zd zk zt zb zp za v1 v2 v3 v4 = some (res, w_o_oSide, w_o_oPrice, w_o_oRem, w_o_oFilled, w_o_oStatus, w_o_oStamp, w_o_oTop, w_o_restIds, w_o_fIds, w_o_fQty, w_o_fPrice, w_o_lvlIds, w_o_lvlR, w_o_lvlA, w_o_accepted, w_o_stampCounter, w_o_restN, w_o_fN, w_o_lvlN) → OEnds own_P 6 55 [qr 1, qi v1, qi v2, qi v3, qi v4, d5, d6] [] (c0 :: bk0 zh zi zn zu zo zl zf zc zs zq zr ze zg zd zm zj zk zt zb zp za po) (some (.int res), (c0 :: bk0 w_o_oSide w_o_oPrice w_o_oRem w_o_oFilled w_o_oStatus w_o_oStamp w_o_oTop w_o_restIds w_o_fIds w_o_fQty w_o_fPrice w_o_lvlIds w_o_lvlR w_o_lvlA zm zj w_o_accepted w_o_stampCounter w_o_restN w_o_fN w_o_lvlN po), 0, 0) := by
  intro zh zi zn zu zo zl zf zc zs zq zr ze zg zd zk zt zb zp za v1 v2 v3 v4 d5 d6 res w_o_oSide w_o_oPrice w_o_oRem w_o_oFilled w_o_oStatus w_o_oStamp w_o_oTop w_o_restIds w_o_fIds w_o_fQty w_o_fPrice w_o_lvlIds w_o_lvlR w_o_lvlA w_o_accepted w_o_stampCounter w_o_restN w_o_fN w_o_lvlN h
  unfold f_submit_55 at h
  refine OEnds.adv hm_6 3 (pc' := 62) (L' := [qr 1, qi v1, qi v2, qi v3, qi v4, qu, qu]) (S' := [.int 255, .int zk]) (H' := (c0 :: bk0 zh zi zn zu zo zl zf zc zs zq zr ze zg zd zm zj zk zt zb zp za po)) rfl ?_
  by_cases hc85 : zk < (255 : Int32)
  · simp only [if_pos hc85] at h
    refine OEnds.icmpT hm_6 rfl (q := 68) rfl ((tlt hc85).1) ?_
    refine OEnds.adv hm_6 16 (pc' := 96) (L' := [qr 1, qi v1, qi v2, qi v3, qi v4, qi (zk + (1 : Int32)), qu]) (S' := [.int v1, .int (zk + (1 : Int32)), .ref 2]) (H' := (c0 :: bk0 zh zi zn zu zo zl zf zc zs zq zr ze zg zd zm zj (zk + (1 : Int32)) zt zb 0 za po)) rfl ?_
    obtain ⟨A132, hA132, h⟩ := bnd h
    refine OEnds.plain hm_6 rfl rfl (x_iastore rfl (Nat.le_of_ble_eq_true rfl) hA132) ?_
    refine OEnds.adv hm_6 4 (pc' := 104) (L' := [qr 1, qi v1, qi v2, qi v3, qi v4, qi (zk + (1 : Int32)), qu]) (S' := [.int v2, .int (zk + (1 : Int32)), .ref 3]) (H' := (c0 :: bk0 A132 zi zn zu zo zl zf zc zs zq zr ze zg zd zm zj (zk + (1 : Int32)) zt zb 0 za po)) rfl ?_
    obtain ⟨A133, hA133, h⟩ := bnd h
    refine OEnds.plain hm_6 rfl rfl (x_iastore rfl (Nat.le_of_ble_eq_true rfl) hA133) ?_
    refine OEnds.adv hm_6 4 (pc' := 112) (L' := [qr 1, qi v1, qi v2, qi v3, qi v4, qi (zk + (1 : Int32)), qu]) (S' := [.int 0, .int (zk + (1 : Int32)), .ref 4]) (H' := (c0 :: bk0 A132 A133 zn zu zo zl zf zc zs zq zr ze zg zd zm zj (zk + (1 : Int32)) zt zb 0 za po)) rfl ?_
    obtain ⟨A134, hA134, h⟩ := bnd h
    refine OEnds.plain hm_6 rfl rfl (x_iastore rfl (Nat.le_of_ble_eq_true rfl) hA134) ?_
    refine OEnds.adv hm_6 4 (pc' := 120) (L' := [qr 1, qi v1, qi v2, qi v3, qi v4, qi (zk + (1 : Int32)), qu]) (S' := [.int 0, .int (zk + (1 : Int32)), .ref 5]) (H' := (c0 :: bk0 A132 A133 A134 zu zo zl zf zc zs zq zr ze zg zd zm zj (zk + (1 : Int32)) zt zb 0 za po)) rfl ?_
    obtain ⟨A135, hA135, h⟩ := bnd h
    refine OEnds.plain hm_6 rfl rfl (x_iastore rfl (Nat.le_of_ble_eq_true rfl) hA135) ?_
    refine OEnds.adv hm_6 4 (pc' := 128) (L' := [qr 1, qi v1, qi v2, qi v3, qi v4, qi (zk + (1 : Int32)), qu]) (S' := [.int 0, .int (zk + (1 : Int32)), .ref 8]) (H' := (c0 :: bk0 A132 A133 A134 A135 zo zl zf zc zs zq zr ze zg zd zm zj (zk + (1 : Int32)) zt zb 0 za po)) rfl ?_
    obtain ⟨A136, hA136, h⟩ := bnd h
    refine OEnds.plain hm_6 rfl rfl (x_bastore rfl (Nat.le_of_ble_eq_true rfl) hA136) ?_
    refine OEnds.adv hm_6 4 (pc' := 136) (L' := [qr 1, qi v1, qi v2, qi v3, qi v4, qi (zk + (1 : Int32)), qu]) (S' := [.long 0, .int (zk + (1 : Int32)), .ref 7]) (H' := (c0 :: bk0 A132 A133 A134 A135 zo zl A136 zc zs zq zr ze zg zd zm zj (zk + (1 : Int32)) zt zb 0 za po)) rfl ?_
    obtain ⟨A137, hA137, h⟩ := bnd h
    refine OEnds.plain hm_6 rfl rfl (x_lastore rfl (Nat.le_of_ble_eq_true rfl) hA137) ?_
    refine OEnds.adv hm_6 5 (pc' := 143) (L' := [qr 1, qi v1, qi v2, qi v3, qi v4, qi (zk + (1 : Int32)), qu]) (S' := [.int v3, .int v2, .int v1, .int (zk + (1 : Int32)), .ref 1]) (H' := (c0 :: bk0 A132 A133 A134 A135 zo A137 A136 zc zs zq zr ze zg zd zm zj (zk + (1 : Int32)) zt zb 0 za po)) rfl ?_
    obtain ⟨⟨r138, s139, s140, s141, s142, s143, s144, s145, s146, s147, s148, s149, s150, s151, s152⟩, hq86, h⟩ := bnd h
    refine OEnds.call0 hm_6 rfl rfl (by decide) rfl (as := [.ref 1, .int (zk + (1 : Int32)), .int v1, .int v2, .int v3]) (rest := []) rfl rfl (ok_matchIncoming hq86) ?_
    refine OEnds.adv hm_6 7 (pc' := 157) (L' := [qr 1, qi v1, qi v2, qi v3, qi v4, qi (zk + (1 : Int32)), qi r138]) (S' := [.int v4, .int r138, .int v2, .int v1, .int (zk + (1 : Int32)), .ref 1]) (H' := (c0 :: bk0 A132 A133 s139 s140 s141 A137 s142 s143 s144 s145 s146 s147 s148 s149 zm zj (zk + (1 : Int32)) zt s150 s151 s152 po)) rfl ?_
    obtain ⟨⟨s153, s154, s155, s156, s157, s158, s159⟩, hq87, h⟩ := bnd h
    refine OEnds.call0 hm_6 rfl rfl (by decide) rfl (as := [.ref 1, .int (zk + (1 : Int32)), .int v1, .int v2, .int r138, .int v4]) (rest := []) rfl rfl (ok_finishIncoming hq87) ?_
    refine OEnds.adv hm_6 1 (pc' := 162) (L' := [qr 1, qi v1, qi v2, qi v3, qi v4, qi (zk + (1 : Int32)), qi r138]) (S' := [.int (zk + (1 : Int32))]) (H' := (c0 :: bk0 A132 A133 s153 s140 s154 s155 s156 s157 s144 s145 s146 s147 s148 s149 zm zj (zk + (1 : Int32)) s158 s159 s151 s152 po)) rfl ?_
    cases h
    exact OEnds.iret hm_6 rfl rfl
  · simp only [if_neg hc85] at h
    refine OEnds.icmpF hm_6 rfl ((flt hc85).1) ?_
    refine OEnds.adv hm_6 1 (pc' := 67) (L' := [qr 1, qi v1, qi v2, qi v3, qi v4, qu, qu]) (S' := [.int (-5)]) (H' := (c0 :: bk0 zh zi zn zu zo zl zf zc zs zq zr ze zg zd zm zj zk zt zb zp za po)) rfl ?_
    cases h
    exact OEnds.iret hm_6 rfl rfl
theorem ok_submit_11 {zm zj : Int32} {c0 : ACell} {po : List ACell} : ∀ {zh zi zn zu zo : List Int32} {zl : List Int64} {zf zc zs zq zr ze zg zd : List Int32} {zk : Int32} {zt : Int64} {zb zp za v1 v2 v3 v4 : Int32} {d5 d6 : Slot} {res : Int32} {w_o_oSide w_o_oPrice w_o_oRem w_o_oFilled w_o_oStatus : List Int32} {w_o_oStamp : List Int64} {w_o_oTop w_o_restIds w_o_fIds w_o_fQty w_o_fPrice w_o_lvlIds w_o_lvlR w_o_lvlA : List Int32} {w_o_accepted : Int32} {w_o_stampCounter : Int64} {w_o_restN w_o_fN : Int32} {w_o_lvlN : Int32}, f_submit_11 zm zj zh zi zn zu zo zl zf zc zs zq zr ze zg zd zk zt zb zp za v1 v2 v3 v4 = some (res, w_o_oSide, w_o_oPrice, w_o_oRem, w_o_oFilled, w_o_oStatus, w_o_oStamp, w_o_oTop, w_o_restIds, w_o_fIds, w_o_fQty, w_o_fPrice, w_o_lvlIds, w_o_lvlR, w_o_lvlA, w_o_accepted, w_o_stampCounter, w_o_restN, w_o_fN, w_o_lvlN) → OEnds own_P 6 11 [qr 1, qi v1, qi v2, qi v3, qi v4, d5, d6] [] (c0 :: bk0 zh zi zn zu zo zl zf zc zs zq zr ze zg zd zm zj zk zt zb zp za po) (some (.int res), (c0 :: bk0 w_o_oSide w_o_oPrice w_o_oRem w_o_oFilled w_o_oStatus w_o_oStamp w_o_oTop w_o_restIds w_o_fIds w_o_fQty w_o_fPrice w_o_lvlIds w_o_lvlR w_o_lvlA zm zj w_o_accepted w_o_stampCounter w_o_restN w_o_fN w_o_lvlN po), 0, 0) := by
  intro zh zi zn zu zo zl zf zc zs zq zr ze zg zd zk zt zb zp za v1 v2 v3 v4 d5 d6 res w_o_oSide w_o_oPrice w_o_oRem w_o_oFilled w_o_oStatus w_o_oStamp w_o_oTop w_o_restIds w_o_fIds w_o_fQty w_o_fPrice w_o_lvlIds w_o_lvlR w_o_lvlA w_o_accepted w_o_stampCounter w_o_restN w_o_fN w_o_lvlN h
  unfold f_submit_11 at h
  refine OEnds.adv hm_6 2 (pc' := 13) (L' := [qr 1, qi v1, qi v2, qi v3, qi v4, qu, qu]) (S' := [.int 1, .int v2]) (H' := (c0 :: bk0 zh zi zn zu zo zl zf zc zs zq zr ze zg zd zm zj zk zt zb zp za po)) rfl ?_
  by_cases hc88 : v2 < (1 : Int32)
  · simp only [if_pos hc88] at h
    refine OEnds.icmpT hm_6 rfl (q := 23) rfl ((tlt hc88).1) ?_
    refine OEnds.adv hm_6 1 (pc' := 25) (L' := [qr 1, qi v1, qi v2, qi v3, qi v4, qu, qu]) (S' := [.int (-2)]) (H' := (c0 :: bk0 zh zi zn zu zo zl zf zc zs zq zr ze zg zd zm zj zk zt zb zp za po)) rfl ?_
    cases h
    exact OEnds.iret hm_6 rfl rfl
  · simp only [if_neg hc88] at h
    refine OEnds.icmpF hm_6 rfl ((flt hc88).1) ?_
    refine OEnds.adv hm_6 2 (pc' := 20) (L' := [qr 1, qi v1, qi v2, qi v3, qi v4, qu, qu]) (S' := [.int 1000, .int v2]) (H' := (c0 :: bk0 zh zi zn zu zo zl zf zc zs zq zr ze zg zd zm zj zk zt zb zp za po)) rfl ?_
    by_cases hc89 : (1000 : Int32) < v2
    · simp only [if_pos hc89] at h
      refine OEnds.icmpF hm_6 rfl ((tlt hc89).2.2.2) ?_
      refine OEnds.adv hm_6 1 (pc' := 25) (L' := [qr 1, qi v1, qi v2, qi v3, qi v4, qu, qu]) (S' := [.int (-2)]) (H' := (c0 :: bk0 zh zi zn zu zo zl zf zc zs zq zr ze zg zd zm zj zk zt zb zp za po)) rfl ?_
      cases h
      exact OEnds.iret hm_6 rfl rfl
    · simp only [if_neg hc89] at h
      refine OEnds.icmpT hm_6 rfl (q := 26) rfl ((flt hc89).2.2.2) ?_
      refine OEnds.adv hm_6 2 (pc' := 28) (L' := [qr 1, qi v1, qi v2, qi v3, qi v4, qu, qu]) (S' := [.int 1, .int v3]) (H' := (c0 :: bk0 zh zi zn zu zo zl zf zc zs zq zr ze zg zd zm zj zk zt zb zp za po)) rfl ?_
      by_cases hc90 : v3 < (1 : Int32)
      · simp only [if_pos hc90] at h
        refine OEnds.icmpT hm_6 rfl (q := 38) rfl ((tlt hc90).1) ?_
        refine OEnds.adv hm_6 1 (pc' := 40) (L' := [qr 1, qi v1, qi v2, qi v3, qi v4, qu, qu]) (S' := [.int (-3)]) (H' := (c0 :: bk0 zh zi zn zu zo zl zf zc zs zq zr ze zg zd zm zj zk zt zb zp za po)) rfl ?_
        cases h
        exact OEnds.iret hm_6 rfl rfl
      · simp only [if_neg hc90] at h
        refine OEnds.icmpF hm_6 rfl ((flt hc90).1) ?_
        refine OEnds.adv hm_6 2 (pc' := 35) (L' := [qr 1, qi v1, qi v2, qi v3, qi v4, qu, qu]) (S' := [.int 10000, .int v3]) (H' := (c0 :: bk0 zh zi zn zu zo zl zf zc zs zq zr ze zg zd zm zj zk zt zb zp za po)) rfl ?_
        by_cases hc91 : (10000 : Int32) < v3
        · simp only [if_pos hc91] at h
          refine OEnds.icmpF hm_6 rfl ((tlt hc91).2.2.2) ?_
          refine OEnds.adv hm_6 1 (pc' := 40) (L' := [qr 1, qi v1, qi v2, qi v3, qi v4, qu, qu]) (S' := [.int (-3)]) (H' := (c0 :: bk0 zh zi zn zu zo zl zf zc zs zq zr ze zg zd zm zj zk zt zb zp za po)) rfl ?_
          cases h
          exact OEnds.iret hm_6 rfl rfl
        · simp only [if_neg hc91] at h
          refine OEnds.icmpT hm_6 rfl (q := 41) rfl ((flt hc91).2.2.2) ?_
          refine OEnds.adv hm_6 1 (pc' := 43) (L' := [qr 1, qi v1, qi v2, qi v3, qi v4, qu, qu]) (S' := [.int v4]) (H' := (c0 :: bk0 zh zi zn zu zo zl zf zc zs zq zr ze zg zd zm zj zk zt zb zp za po)) rfl ?_
          by_cases hc92 : v4 = (0 : Int32)
          · simp only [if_pos hc92] at h
            refine OEnds.ifT hm_6 rfl (q := 55) rfl ((teq hc92).1) ?_
            show OEnds own_P 6 55 [qr 1, qi v1, qi v2, qi v3, qi v4, qu, qu] [] (c0 :: bk0 zh zi zn zu zo zl zf zc zs zq zr ze zg zd zm zj zk zt zb zp za po) _
            exact ok_submit_55 h
          · simp only [if_neg hc92] at h
            refine OEnds.ifF hm_6 rfl ((feq hc92).1) ?_
            refine OEnds.adv hm_6 2 (pc' := 49) (L' := [qr 1, qi v1, qi v2, qi v3, qi v4, qu, qu]) (S' := [.int 1, .int v4]) (H' := (c0 :: bk0 zh zi zn zu zo zl zf zc zs zq zr ze zg zd zm zj zk zt zb zp za po)) rfl ?_
            by_cases hc93 : v4 = (1 : Int32)
            · simp only [if_pos hc93] at h
              refine OEnds.icmpT hm_6 rfl (q := 55) rfl ((teq hc93).1) ?_
              show OEnds own_P 6 55 [qr 1, qi v1, qi v2, qi v3, qi v4, qu, qu] [] (c0 :: bk0 zh zi zn zu zo zl zf zc zs zq zr ze zg zd zm zj zk zt zb zp za po) _
              exact ok_submit_55 h
            · simp only [if_neg hc93] at h
              refine OEnds.icmpF hm_6 rfl ((feq hc93).1) ?_
              refine OEnds.adv hm_6 1 (pc' := 54) (L' := [qr 1, qi v1, qi v2, qi v3, qi v4, qu, qu]) (S' := [.int (-4)]) (H' := (c0 :: bk0 zh zi zn zu zo zl zf zc zs zq zr ze zg zd zm zj zk zt zb zp za po)) rfl ?_
              cases h
              exact OEnds.iret hm_6 rfl rfl
theorem ok_submit {zm zj : Int32} {c0 : ACell} {po : List ACell} {zh zi zn zu zo : List Int32} {zl : List Int64} {zf zc zs zq zr ze zg zd : List Int32} {zk : Int32} {zt : Int64} {zb zp za v1 v2 v3 v4 res : Int32} {w_o_oSide w_o_oPrice w_o_oRem w_o_oFilled w_o_oStatus : List Int32} {w_o_oStamp : List Int64} {w_o_oTop w_o_restIds w_o_fIds w_o_fQty w_o_fPrice w_o_lvlIds w_o_lvlR w_o_lvlA : List Int32} {w_o_accepted : Int32} {w_o_stampCounter : Int64} {w_o_restN w_o_fN w_o_lvlN : Int32} (h : f_submit zm zj zh zi zn zu zo zl zf zc zs zq zr ze zg zd zk zt zb zp za v1 v2 v3 v4 = some (res, w_o_oSide, w_o_oPrice, w_o_oRem, w_o_oFilled, w_o_oStatus, w_o_oStamp, w_o_oTop, w_o_restIds, w_o_fIds, w_o_fQty, w_o_fPrice, w_o_lvlIds, w_o_lvlR, w_o_lvlA, w_o_accepted, w_o_stampCounter, w_o_restN, w_o_fN, w_o_lvlN)) : OEnds own_P 6 0 [qr 1, qi v1, qi v2, qi v3, qi v4, qu, qu] [] (c0 :: bk0 zh zi zn zu zo zl zf zc zs zq zr ze zg zd zm zj zk zt zb zp za po) (some (.int res), (c0 :: bk0 w_o_oSide w_o_oPrice w_o_oRem w_o_oFilled w_o_oStatus w_o_oStamp w_o_oTop w_o_restIds w_o_fIds w_o_fQty w_o_fPrice w_o_lvlIds w_o_lvlR w_o_lvlA zm zj w_o_accepted w_o_stampCounter w_o_restN w_o_fN w_o_lvlN po), 0, 0) := by
  unfold f_submit at h
  refine OEnds.adv hm_6 1 (pc' := 1) (L' := [qr 1, qi v1, qi v2, qi v3, qi v4, qu, qu]) (S' := [.int v1]) (H' := (c0 :: bk0 zh zi zn zu zo zl zf zc zs zq zr ze zg zd zm zj zk zt zb zp za po)) rfl ?_
  by_cases hc94 : v1 = (0 : Int32)
  · simp only [if_pos hc94] at h
    refine OEnds.ifT hm_6 rfl (q := 11) rfl ((teq hc94).1) ?_
    show OEnds own_P 6 11 [qr 1, qi v1, qi v2, qi v3, qi v4, qu, qu] [] (c0 :: bk0 zh zi zn zu zo zl zf zc zs zq zr ze zg zd zm zj zk zt zb zp za po) _
    exact ok_submit_11 h
  · simp only [if_neg hc94] at h
    refine OEnds.ifF hm_6 rfl ((feq hc94).1) ?_
    refine OEnds.adv hm_6 2 (pc' := 6) (L' := [qr 1, qi v1, qi v2, qi v3, qi v4, qu, qu]) (S' := [.int 1, .int v1]) (H' := (c0 :: bk0 zh zi zn zu zo zl zf zc zs zq zr ze zg zd zm zj zk zt zb zp za po)) rfl ?_
    by_cases hc95 : v1 = (1 : Int32)
    · simp only [if_pos hc95] at h
      refine OEnds.icmpT hm_6 rfl (q := 11) rfl ((teq hc95).1) ?_
      show OEnds own_P 6 11 [qr 1, qi v1, qi v2, qi v3, qi v4, qu, qu] [] (c0 :: bk0 zh zi zn zu zo zl zf zc zs zq zr ze zg zd zm zj zk zt zb zp za po) _
      exact ok_submit_11 h
    · simp only [if_neg hc95] at h
      refine OEnds.icmpF hm_6 rfl ((feq hc95).1) ?_
      refine OEnds.adv hm_6 1 (pc' := 10) (L' := [qr 1, qi v1, qi v2, qi v3, qi v4, qu, qu]) (S' := [.int (-1)]) (H' := (c0 :: bk0 zh zi zn zu zo zl zf zc zs zq zr ze zg zd zm zj zk zt zb zp za po)) rfl ?_
      cases h
      exact OEnds.iret hm_6 rfl rfl
theorem ok_filled {zh zi zn zu zo : List Int32} {zl : List Int64} {zf zc zs zq zr ze zg zd : List Int32} {zm zj zk : Int32} {zt : Int64} {zb zp za : Int32} {c0 : ACell} {po : List ACell} {v1 res : Int32} (h : f_filled zu zk v1 = some res) : OEnds own_P 11 0 [qr 1, qi v1] [] (c0 :: bk0 zh zi zn zu zo zl zf zc zs zq zr ze zg zd zm zj zk zt zb zp za po) (some (.int res), (c0 :: bk0 zh zi zn zu zo zl zf zc zs zq zr ze zg zd zm zj zk zt zb zp za po), 0, 0) := by
  unfold f_filled at h
  refine OEnds.adv hm_11 2 (pc' := 2) (L' := [qr 1, qi v1]) (S' := [.int 1, .int v1]) (H' := (c0 :: bk0 zh zi zn zu zo zl zf zc zs zq zr ze zg zd zm zj zk zt zb zp za po)) rfl ?_
  by_cases hc96 : v1 < (1 : Int32)
  · simp only [if_pos hc96] at h
    refine OEnds.icmpT hm_11 rfl (q := 13) rfl ((tlt hc96).1) ?_
    refine OEnds.adv hm_11 1 (pc' := 14) (L' := [qr 1, qi v1]) (S' := [.int 0]) (H' := (c0 :: bk0 zh zi zn zu zo zl zf zc zs zq zr ze zg zd zm zj zk zt zb zp za po)) rfl ?_
    cases h
    exact OEnds.iret hm_11 rfl rfl
  · simp only [if_neg hc96] at h
    refine OEnds.icmpF hm_11 rfl ((flt hc96).1) ?_
    refine OEnds.adv hm_11 3 (pc' := 10) (L' := [qr 1, qi v1]) (S' := [.int zk, .int v1]) (H' := (c0 :: bk0 zh zi zn zu zo zl zf zc zs zq zr ze zg zd zm zj zk zt zb zp za po)) rfl ?_
    by_cases hc97 : zk < v1
    · simp only [if_pos hc97] at h
      refine OEnds.icmpF hm_11 rfl ((tlt hc97).2.2.2) ?_
      refine OEnds.adv hm_11 1 (pc' := 14) (L' := [qr 1, qi v1]) (S' := [.int 0]) (H' := (c0 :: bk0 zh zi zn zu zo zl zf zc zs zq zr ze zg zd zm zj zk zt zb zp za po)) rfl ?_
      cases h
      exact OEnds.iret hm_11 rfl rfl
    · simp only [if_neg hc97] at h
      refine OEnds.icmpT hm_11 rfl (q := 15) rfl ((flt hc97).2.2.2) ?_
      refine OEnds.adv hm_11 3 (pc' := 20) (L' := [qr 1, qi v1]) (S' := [.int v1, .ref 5]) (H' := (c0 :: bk0 zh zi zn zu zo zl zf zc zs zq zr ze zg zd zm zj zk zt zb zp za po)) rfl ?_
      obtain ⟨x160, hx160, h⟩ := bnd h
      refine OEnds.plain hm_11 rfl rfl (x_iaload rfl hx160) ?_
      show OEnds own_P 11 21 [qr 1, qi v1] [.int x160] (c0 :: bk0 zh zi zn zu zo zl zf zc zs zq zr ze zg zd zm zj zk zt zb zp za po) _
      cases h
      exact OEnds.iret hm_11 rfl rfl
theorem ok_fillId {zh zi zn zu zo : List Int32} {zl : List Int64} {zf zc zs zq zr ze zg zd : List Int32} {zm zj zk : Int32} {zt : Int64} {zb zp za : Int32} {c0 : ACell} {po : List ACell} {v1 res : Int32} (h : f_fillId zs zp v1 = some res) : OEnds own_P 25 0 [qr 1, qi v1] [] (c0 :: bk0 zh zi zn zu zo zl zf zc zs zq zr ze zg zd zm zj zk zt zb zp za po) (some (.int res), (c0 :: bk0 zh zi zn zu zo zl zf zc zs zq zr ze zg zd zm zj zk zt zb zp za po), 0, 0) := by
  unfold f_fillId at h
  refine OEnds.adv hm_25 1 (pc' := 1) (L' := [qr 1, qi v1]) (S' := [.int v1]) (H' := (c0 :: bk0 zh zi zn zu zo zl zf zc zs zq zr ze zg zd zm zj zk zt zb zp za po)) rfl ?_
  by_cases hc98 : v1 < (0 : Int32)
  · simp only [if_pos hc98] at h
    refine OEnds.ifT hm_25 rfl (q := 12) rfl ((tlt hc98).1) ?_
    refine OEnds.adv hm_25 1 (pc' := 13) (L' := [qr 1, qi v1]) (S' := [.int 0]) (H' := (c0 :: bk0 zh zi zn zu zo zl zf zc zs zq zr ze zg zd zm zj zk zt zb zp za po)) rfl ?_
    cases h
    exact OEnds.iret hm_25 rfl rfl
  · simp only [if_neg hc98] at h
    refine OEnds.ifF hm_25 rfl ((flt hc98).1) ?_
    refine OEnds.adv hm_25 3 (pc' := 9) (L' := [qr 1, qi v1]) (S' := [.int zp, .int v1]) (H' := (c0 :: bk0 zh zi zn zu zo zl zf zc zs zq zr ze zg zd zm zj zk zt zb zp za po)) rfl ?_
    by_cases hc99 : v1 < zp
    · simp only [if_pos hc99] at h
      refine OEnds.icmpT hm_25 rfl (q := 14) rfl ((tlt hc99).1) ?_
      refine OEnds.adv hm_25 3 (pc' := 19) (L' := [qr 1, qi v1]) (S' := [.int v1, .ref 10]) (H' := (c0 :: bk0 zh zi zn zu zo zl zf zc zs zq zr ze zg zd zm zj zk zt zb zp za po)) rfl ?_
      obtain ⟨x161, hx161, h⟩ := bnd h
      refine OEnds.plain hm_25 rfl rfl (x_iaload rfl hx161) ?_
      show OEnds own_P 25 20 [qr 1, qi v1] [.int x161] (c0 :: bk0 zh zi zn zu zo zl zf zc zs zq zr ze zg zd zm zj zk zt zb zp za po) _
      cases h
      exact OEnds.iret hm_25 rfl rfl
    · simp only [if_neg hc99] at h
      refine OEnds.icmpF hm_25 rfl ((flt hc99).1) ?_
      refine OEnds.adv hm_25 1 (pc' := 13) (L' := [qr 1, qi v1]) (S' := [.int 0]) (H' := (c0 :: bk0 zh zi zn zu zo zl zf zc zs zq zr ze zg zd zm zj zk zt zb zp za po)) rfl ?_
      cases h
      exact OEnds.iret hm_25 rfl rfl
theorem ok_fillQty {zh zi zn zu zo : List Int32} {zl : List Int64} {zf zc zs zq zr ze zg zd : List Int32} {zm zj zk : Int32} {zt : Int64} {zb zp za : Int32} {c0 : ACell} {po : List ACell} {v1 res : Int32} (h : f_fillQty zq zp v1 = some res) : OEnds own_P 26 0 [qr 1, qi v1] [] (c0 :: bk0 zh zi zn zu zo zl zf zc zs zq zr ze zg zd zm zj zk zt zb zp za po) (some (.int res), (c0 :: bk0 zh zi zn zu zo zl zf zc zs zq zr ze zg zd zm zj zk zt zb zp za po), 0, 0) := by
  unfold f_fillQty at h
  refine OEnds.adv hm_26 1 (pc' := 1) (L' := [qr 1, qi v1]) (S' := [.int v1]) (H' := (c0 :: bk0 zh zi zn zu zo zl zf zc zs zq zr ze zg zd zm zj zk zt zb zp za po)) rfl ?_
  by_cases hc100 : v1 < (0 : Int32)
  · simp only [if_pos hc100] at h
    refine OEnds.ifT hm_26 rfl (q := 12) rfl ((tlt hc100).1) ?_
    refine OEnds.adv hm_26 1 (pc' := 13) (L' := [qr 1, qi v1]) (S' := [.int 0]) (H' := (c0 :: bk0 zh zi zn zu zo zl zf zc zs zq zr ze zg zd zm zj zk zt zb zp za po)) rfl ?_
    cases h
    exact OEnds.iret hm_26 rfl rfl
  · simp only [if_neg hc100] at h
    refine OEnds.ifF hm_26 rfl ((flt hc100).1) ?_
    refine OEnds.adv hm_26 3 (pc' := 9) (L' := [qr 1, qi v1]) (S' := [.int zp, .int v1]) (H' := (c0 :: bk0 zh zi zn zu zo zl zf zc zs zq zr ze zg zd zm zj zk zt zb zp za po)) rfl ?_
    by_cases hc101 : v1 < zp
    · simp only [if_pos hc101] at h
      refine OEnds.icmpT hm_26 rfl (q := 14) rfl ((tlt hc101).1) ?_
      refine OEnds.adv hm_26 3 (pc' := 19) (L' := [qr 1, qi v1]) (S' := [.int v1, .ref 11]) (H' := (c0 :: bk0 zh zi zn zu zo zl zf zc zs zq zr ze zg zd zm zj zk zt zb zp za po)) rfl ?_
      obtain ⟨x162, hx162, h⟩ := bnd h
      refine OEnds.plain hm_26 rfl rfl (x_iaload rfl hx162) ?_
      show OEnds own_P 26 20 [qr 1, qi v1] [.int x162] (c0 :: bk0 zh zi zn zu zo zl zf zc zs zq zr ze zg zd zm zj zk zt zb zp za po) _
      cases h
      exact OEnds.iret hm_26 rfl rfl
    · simp only [if_neg hc101] at h
      refine OEnds.icmpF hm_26 rfl ((flt hc101).1) ?_
      refine OEnds.adv hm_26 1 (pc' := 13) (L' := [qr 1, qi v1]) (S' := [.int 0]) (H' := (c0 :: bk0 zh zi zn zu zo zl zf zc zs zq zr ze zg zd zm zj zk zt zb zp za po)) rfl ?_
      cases h
      exact OEnds.iret hm_26 rfl rfl
theorem ok_fillPrice {zh zi zn zu zo : List Int32} {zl : List Int64} {zf zc zs zq zr ze zg zd : List Int32} {zm zj zk : Int32} {zt : Int64} {zb zp za : Int32} {c0 : ACell} {po : List ACell} {v1 res : Int32} (h : f_fillPrice zr zp v1 = some res) : OEnds own_P 27 0 [qr 1, qi v1] [] (c0 :: bk0 zh zi zn zu zo zl zf zc zs zq zr ze zg zd zm zj zk zt zb zp za po) (some (.int res), (c0 :: bk0 zh zi zn zu zo zl zf zc zs zq zr ze zg zd zm zj zk zt zb zp za po), 0, 0) := by
  unfold f_fillPrice at h
  refine OEnds.adv hm_27 1 (pc' := 1) (L' := [qr 1, qi v1]) (S' := [.int v1]) (H' := (c0 :: bk0 zh zi zn zu zo zl zf zc zs zq zr ze zg zd zm zj zk zt zb zp za po)) rfl ?_
  by_cases hc102 : v1 < (0 : Int32)
  · simp only [if_pos hc102] at h
    refine OEnds.ifT hm_27 rfl (q := 12) rfl ((tlt hc102).1) ?_
    refine OEnds.adv hm_27 1 (pc' := 13) (L' := [qr 1, qi v1]) (S' := [.int 0]) (H' := (c0 :: bk0 zh zi zn zu zo zl zf zc zs zq zr ze zg zd zm zj zk zt zb zp za po)) rfl ?_
    cases h
    exact OEnds.iret hm_27 rfl rfl
  · simp only [if_neg hc102] at h
    refine OEnds.ifF hm_27 rfl ((flt hc102).1) ?_
    refine OEnds.adv hm_27 3 (pc' := 9) (L' := [qr 1, qi v1]) (S' := [.int zp, .int v1]) (H' := (c0 :: bk0 zh zi zn zu zo zl zf zc zs zq zr ze zg zd zm zj zk zt zb zp za po)) rfl ?_
    by_cases hc103 : v1 < zp
    · simp only [if_pos hc103] at h
      refine OEnds.icmpT hm_27 rfl (q := 14) rfl ((tlt hc103).1) ?_
      refine OEnds.adv hm_27 3 (pc' := 19) (L' := [qr 1, qi v1]) (S' := [.int v1, .ref 12]) (H' := (c0 :: bk0 zh zi zn zu zo zl zf zc zs zq zr ze zg zd zm zj zk zt zb zp za po)) rfl ?_
      obtain ⟨x163, hx163, h⟩ := bnd h
      refine OEnds.plain hm_27 rfl rfl (x_iaload rfl hx163) ?_
      show OEnds own_P 27 20 [qr 1, qi v1] [.int x163] (c0 :: bk0 zh zi zn zu zo zl zf zc zs zq zr ze zg zd zm zj zk zt zb zp za po) _
      cases h
      exact OEnds.iret hm_27 rfl rfl
    · simp only [if_neg hc103] at h
      refine OEnds.icmpF hm_27 rfl ((flt hc103).1) ?_
      refine OEnds.adv hm_27 1 (pc' := 13) (L' := [qr 1, qi v1]) (S' := [.int 0]) (H' := (c0 :: bk0 zh zi zn zu zo zl zf zc zs zq zr ze zg zd zm zj zk zt zb zp za po)) rfl ?_
      cases h
      exact OEnds.iret hm_27 rfl rfl
theorem ok_status {zh zi zn zu zo : List Int32} {zl : List Int64} {zf zc zs zq zr ze zg zd : List Int32} {zm zj zk : Int32} {zt : Int64} {zb zp za : Int32} {c0 : ACell} {po : List ACell} {v1 res : Int32} (h : f_status zo zk v1 = some res) : OEnds own_P 12 0 [qr 1, qi v1] [] (c0 :: bk0 zh zi zn zu zo zl zf zc zs zq zr ze zg zd zm zj zk zt zb zp za po) (some (.int res), (c0 :: bk0 zh zi zn zu zo zl zf zc zs zq zr ze zg zd zm zj zk zt zb zp za po), 0, 0) := by
  unfold f_status at h
  refine OEnds.adv hm_12 2 (pc' := 2) (L' := [qr 1, qi v1]) (S' := [.int 1, .int v1]) (H' := (c0 :: bk0 zh zi zn zu zo zl zf zc zs zq zr ze zg zd zm zj zk zt zb zp za po)) rfl ?_
  by_cases hc104 : v1 < (1 : Int32)
  · simp only [if_pos hc104] at h
    refine OEnds.icmpT hm_12 rfl (q := 13) rfl ((tlt hc104).1) ?_
    refine OEnds.adv hm_12 1 (pc' := 14) (L' := [qr 1, qi v1]) (S' := [.int 0]) (H' := (c0 :: bk0 zh zi zn zu zo zl zf zc zs zq zr ze zg zd zm zj zk zt zb zp za po)) rfl ?_
    cases h
    exact OEnds.iret hm_12 rfl rfl
  · simp only [if_neg hc104] at h
    refine OEnds.icmpF hm_12 rfl ((flt hc104).1) ?_
    refine OEnds.adv hm_12 3 (pc' := 10) (L' := [qr 1, qi v1]) (S' := [.int zk, .int v1]) (H' := (c0 :: bk0 zh zi zn zu zo zl zf zc zs zq zr ze zg zd zm zj zk zt zb zp za po)) rfl ?_
    by_cases hc105 : zk < v1
    · simp only [if_pos hc105] at h
      refine OEnds.icmpF hm_12 rfl ((tlt hc105).2.2.2) ?_
      refine OEnds.adv hm_12 1 (pc' := 14) (L' := [qr 1, qi v1]) (S' := [.int 0]) (H' := (c0 :: bk0 zh zi zn zu zo zl zf zc zs zq zr ze zg zd zm zj zk zt zb zp za po)) rfl ?_
      cases h
      exact OEnds.iret hm_12 rfl rfl
    · simp only [if_neg hc105] at h
      refine OEnds.icmpT hm_12 rfl (q := 15) rfl ((flt hc105).2.2.2) ?_
      refine OEnds.adv hm_12 3 (pc' := 20) (L' := [qr 1, qi v1]) (S' := [.int v1, .ref 6]) (H' := (c0 :: bk0 zh zi zn zu zo zl zf zc zs zq zr ze zg zd zm zj zk zt zb zp za po)) rfl ?_
      obtain ⟨x7, hx7, h⟩ := bnd h
      refine OEnds.plain hm_12 rfl rfl (x_iaload rfl hx7) ?_
      show OEnds own_P 12 21 [qr 1, qi v1] [.int x7] (c0 :: bk0 zh zi zn zu zo zl zf zc zs zq zr ze zg zd zm zj zk zt zb zp za po) _
      cases h
      exact OEnds.iret hm_12 rfl rfl
theorem ok_isResting {zh zi zn zu zo : List Int32} {zl : List Int64} {zf zc zs zq zr ze zg zd : List Int32} {zm zj zk : Int32} {zt : Int64} {zb zp za : Int32} {c0 : ACell} {po : List ACell} {v1 res : Int32} (h : f_isResting zo zk v1 = some res) : OEnds own_P 14 0 [qr 1, qi v1] [] (c0 :: bk0 zh zi zn zu zo zl zf zc zs zq zr ze zg zd zm zj zk zt zb zp za po) (some (.int res), (c0 :: bk0 zh zi zn zu zo zl zf zc zs zq zr ze zg zd zm zj zk zt zb zp za po), 0, 0) := by
  unfold f_isResting at h
  refine OEnds.adv hm_14 2 (pc' := 2) (L' := [qr 1, qi v1]) (S' := [.int 1, .int v1]) (H' := (c0 :: bk0 zh zi zn zu zo zl zf zc zs zq zr ze zg zd zm zj zk zt zb zp za po)) rfl ?_
  by_cases hc106 : v1 < (1 : Int32)
  · simp only [if_pos hc106] at h
    refine OEnds.icmpT hm_14 rfl (q := 27) rfl ((tlt hc106).1) ?_
    refine OEnds.adv hm_14 1 (pc' := 28) (L' := [qr 1, qi v1]) (S' := [.int 0]) (H' := (c0 :: bk0 zh zi zn zu zo zl zf zc zs zq zr ze zg zd zm zj zk zt zb zp za po)) rfl ?_
    cases h
    exact OEnds.iret hm_14 rfl rfl
  · simp only [if_neg hc106] at h
    refine OEnds.icmpF hm_14 rfl ((flt hc106).1) ?_
    refine OEnds.adv hm_14 3 (pc' := 10) (L' := [qr 1, qi v1]) (S' := [.int zk, .int v1]) (H' := (c0 :: bk0 zh zi zn zu zo zl zf zc zs zq zr ze zg zd zm zj zk zt zb zp za po)) rfl ?_
    by_cases hc107 : zk < v1
    · simp only [if_pos hc107] at h
      refine OEnds.icmpT hm_14 rfl (q := 27) rfl ((tlt hc107).2.2.1) ?_
      refine OEnds.adv hm_14 1 (pc' := 28) (L' := [qr 1, qi v1]) (S' := [.int 0]) (H' := (c0 :: bk0 zh zi zn zu zo zl zf zc zs zq zr ze zg zd zm zj zk zt zb zp za po)) rfl ?_
      cases h
      exact OEnds.iret hm_14 rfl rfl
    · simp only [if_neg hc107] at h
      refine OEnds.icmpF hm_14 rfl ((flt hc107).2.2.1) ?_
      refine OEnds.adv hm_14 3 (pc' := 18) (L' := [qr 1, qi v1]) (S' := [.int v1, .ref 6]) (H' := (c0 :: bk0 zh zi zn zu zo zl zf zc zs zq zr ze zg zd zm zj zk zt zb zp za po)) rfl ?_
      obtain ⟨x8, hx8, h⟩ := bnd h
      refine OEnds.plain hm_14 rfl rfl (x_iaload rfl hx8) ?_
      refine OEnds.adv hm_14 1 (pc' := 20) (L' := [qr 1, qi v1]) (S' := [.int 1, .int x8]) (H' := (c0 :: bk0 zh zi zn zu zo zl zf zc zs zq zr ze zg zd zm zj zk zt zb zp za po)) rfl ?_
      by_cases hc108 : x8 = (1 : Int32)
      · simp only [if_pos hc108] at h
        refine OEnds.icmpF hm_14 rfl ((teq hc108).2) ?_
        refine OEnds.adv hm_14 2 (pc' := 28) (L' := [qr 1, qi v1]) (S' := [.int 1]) (H' := (c0 :: bk0 zh zi zn zu zo zl zf zc zs zq zr ze zg zd zm zj zk zt zb zp za po)) rfl ?_
        cases h
        exact OEnds.iret hm_14 rfl rfl
      · simp only [if_neg hc108] at h
        refine OEnds.icmpT hm_14 rfl (q := 27) rfl ((feq hc108).2) ?_
        refine OEnds.adv hm_14 1 (pc' := 28) (L' := [qr 1, qi v1]) (S' := [.int 0]) (H' := (c0 :: bk0 zh zi zn zu zo zl zf zc zs zq zr ze zg zd zm zj zk zt zb zp za po)) rfl ?_
        cases h
        exact OEnds.iret hm_14 rfl rfl
theorem ok_remaining {zh zi zn zu zo : List Int32} {zl : List Int64} {zf zc zs zq zr ze zg zd : List Int32} {zm zj zk : Int32} {zt : Int64} {zb zp za : Int32} {c0 : ACell} {po : List ACell} {v1 res : Int32} (h : f_remaining zn zo zk v1 = some res) : OEnds own_P 13 0 [qr 1, qi v1] [] (c0 :: bk0 zh zi zn zu zo zl zf zc zs zq zr ze zg zd zm zj zk zt zb zp za po) (some (.int res), (c0 :: bk0 zh zi zn zu zo zl zf zc zs zq zr ze zg zd zm zj zk zt zb zp za po), 0, 0) := by
  unfold f_remaining at h
  refine OEnds.adv hm_13 2 (pc' := 2) (L' := [qr 1, qi v1]) (S' := [.int v1, .ref 1]) (H' := (c0 :: bk0 zh zi zn zu zo zl zf zc zs zq zr ze zg zd zm zj zk zt zb zp za po)) rfl ?_
  obtain ⟨r9, hq109, h⟩ := bnd h
  refine OEnds.call0 hm_13 rfl rfl (by decide) rfl (as := [.ref 1, .int v1]) (rest := []) rfl rfl (ok_isResting hq109) ?_
  show OEnds own_P 13 5 [qr 1, qi v1] [.int r9] (c0 :: bk0 zh zi zn zu zo zl zf zc zs zq zr ze zg zd zm zj zk zt zb zp za po) _
  by_cases hc110 : r9 = (0 : Int32)
  · simp only [if_pos hc110] at h
    refine OEnds.ifF hm_13 rfl ((teq hc110).2) ?_
    refine OEnds.adv hm_13 1 (pc' := 9) (L' := [qr 1, qi v1]) (S' := [.int 0]) (H' := (c0 :: bk0 zh zi zn zu zo zl zf zc zs zq zr ze zg zd zm zj zk zt zb zp za po)) rfl ?_
    cases h
    exact OEnds.iret hm_13 rfl rfl
  · simp only [if_neg hc110] at h
    refine OEnds.ifT hm_13 rfl (q := 10) rfl ((feq hc110).2) ?_
    refine OEnds.adv hm_13 3 (pc' := 15) (L' := [qr 1, qi v1]) (S' := [.int v1, .ref 4]) (H' := (c0 :: bk0 zh zi zn zu zo zl zf zc zs zq zr ze zg zd zm zj zk zt zb zp za po)) rfl ?_
    obtain ⟨x10, hx10, h⟩ := bnd h
    refine OEnds.plain hm_13 rfl rfl (x_iaload rfl hx10) ?_
    show OEnds own_P 13 16 [qr 1, qi v1] [.int x10] (c0 :: bk0 zh zi zn zu zo zl zf zc zs zq zr ze zg zd zm zj zk zt zb zp za po) _
    cases h
    exact OEnds.iret hm_13 rfl rfl
theorem ok_bestPrice_11 {zh zi zn zu zo : List Int32} {zl : List Int64} {zf zc zs zq zr ze zg zd : List Int32} {zm zj zk : Int32} {zt : Int64} {zb zp za : Int32} {c0 : ACell} {po : List ACell} : ∀ {v1 : Int32} {res : Int32}, f_bestPrice_11 zh zi zc zb v1 = some res → OEnds own_P 15 11 [qr 1, qi v1] [] (c0 :: bk0 zh zi zn zu zo zl zf zc zs zq zr ze zg zd zm zj zk zt zb zp za po) (some (.int res), (c0 :: bk0 zh zi zn zu zo zl zf zc zs zq zr ze zg zd zm zj zk zt zb zp za po), 0, 0) := by
  intro v1 res h
  unfold f_bestPrice_11 at h
  refine OEnds.adv hm_15 2 (pc' := 13) (L' := [qr 1, qi v1]) (S' := [.int v1, .ref 1]) (H' := (c0 :: bk0 zh zi zn zu zo zl zf zc zs zq zr ze zg zd zm zj zk zt zb zp za po)) rfl ?_
  obtain ⟨r164, hq111, h⟩ := bnd h
  refine OEnds.call0 hm_15 rfl rfl (by decide) rfl (as := [.ref 1, .int v1]) (rest := []) rfl rfl (ok_bestOf hq111) ?_
  show OEnds own_P 15 16 [qr 1, qi v1] [.int r164] (c0 :: bk0 zh zi zn zu zo zl zf zc zs zq zr ze zg zd zm zj zk zt zb zp za po) _
  cases h
  exact OEnds.iret hm_15 rfl rfl
theorem ok_bestPrice {zh zi zn zu zo : List Int32} {zl : List Int64} {zf zc zs zq zr ze zg zd : List Int32} {zm zj zk : Int32} {zt : Int64} {zb zp za : Int32} {c0 : ACell} {po : List ACell} {v1 res : Int32} (h : f_bestPrice zh zi zc zb v1 = some res) : OEnds own_P 15 0 [qr 1, qi v1] [] (c0 :: bk0 zh zi zn zu zo zl zf zc zs zq zr ze zg zd zm zj zk zt zb zp za po) (some (.int res), (c0 :: bk0 zh zi zn zu zo zl zf zc zs zq zr ze zg zd zm zj zk zt zb zp za po), 0, 0) := by
  unfold f_bestPrice at h
  refine OEnds.adv hm_15 1 (pc' := 1) (L' := [qr 1, qi v1]) (S' := [.int v1]) (H' := (c0 :: bk0 zh zi zn zu zo zl zf zc zs zq zr ze zg zd zm zj zk zt zb zp za po)) rfl ?_
  by_cases hc112 : v1 = (0 : Int32)
  · simp only [if_pos hc112] at h
    refine OEnds.ifT hm_15 rfl (q := 11) rfl ((teq hc112).1) ?_
    show OEnds own_P 15 11 [qr 1, qi v1] [] (c0 :: bk0 zh zi zn zu zo zl zf zc zs zq zr ze zg zd zm zj zk zt zb zp za po) _
    exact ok_bestPrice_11 h
  · simp only [if_neg hc112] at h
    refine OEnds.ifF hm_15 rfl ((feq hc112).1) ?_
    refine OEnds.adv hm_15 2 (pc' := 6) (L' := [qr 1, qi v1]) (S' := [.int 1, .int v1]) (H' := (c0 :: bk0 zh zi zn zu zo zl zf zc zs zq zr ze zg zd zm zj zk zt zb zp za po)) rfl ?_
    by_cases hc113 : v1 = (1 : Int32)
    · simp only [if_pos hc113] at h
      refine OEnds.icmpT hm_15 rfl (q := 11) rfl ((teq hc113).1) ?_
      show OEnds own_P 15 11 [qr 1, qi v1] [] (c0 :: bk0 zh zi zn zu zo zl zf zc zs zq zr ze zg zd zm zj zk zt zb zp za po) _
      exact ok_bestPrice_11 h
    · simp only [if_neg hc113] at h
      refine OEnds.icmpF hm_15 rfl ((feq hc113).1) ?_
      refine OEnds.adv hm_15 1 (pc' := 10) (L' := [qr 1, qi v1]) (S' := [.int 0]) (H' := (c0 :: bk0 zh zi zn zu zo zl zf zc zs zq zr ze zg zd zm zj zk zt zb zp za po)) rfl ?_
      cases h
      exact OEnds.iret hm_15 rfl rfl
theorem ok_cancel {zh zi zu : List Int32} {zl : List Int64} {zs zq zr ze zg zd : List Int32} {zm zj zk : Int32} {zt : Int64} {zp za : Int32} {c0 : ACell} {po : List ACell} {zn zo zf zc : List Int32} {zb v1 res : Int32} {w_o_oRem w_o_oStatus w_o_oTop w_o_restIds : List Int32} {w_o_restN : Int32} (h : f_cancel zk zn zo zf zc zb v1 = some (res, w_o_oRem, w_o_oStatus, w_o_oTop, w_o_restIds, w_o_restN)) : OEnds own_P 28 0 [qr 1, qi v1] [] (c0 :: bk0 zh zi zn zu zo zl zf zc zs zq zr ze zg zd zm zj zk zt zb zp za po) (some (.int res), (c0 :: bk0 zh zi w_o_oRem zu w_o_oStatus zl w_o_oTop w_o_restIds zs zq zr ze zg zd zm zj zk zt w_o_restN zp za po), 0, 0) := by
  unfold f_cancel at h
  refine OEnds.adv hm_28 2 (pc' := 2) (L' := [qr 1, qi v1]) (S' := [.int v1, .ref 1]) (H' := (c0 :: bk0 zh zi zn zu zo zl zf zc zs zq zr ze zg zd zm zj zk zt zb zp za po)) rfl ?_
  obtain ⟨r14, hq114, h⟩ := bnd h
  refine OEnds.call0 hm_28 rfl rfl (by decide) rfl (as := [.ref 1, .int v1]) (rest := []) rfl rfl (ok_isResting hq114) ?_
  show OEnds own_P 28 5 [qr 1, qi v1] [.int r14] (c0 :: bk0 zh zi zn zu zo zl zf zc zs zq zr ze zg zd zm zj zk zt zb zp za po) _
  by_cases hc115 : r14 = (0 : Int32)
  · simp only [if_pos hc115] at h
    refine OEnds.ifF hm_28 rfl ((teq hc115).2) ?_
    refine OEnds.adv hm_28 1 (pc' := 10) (L' := [qr 1, qi v1]) (S' := [.int (-6)]) (H' := (c0 :: bk0 zh zi zn zu zo zl zf zc zs zq zr ze zg zd zm zj zk zt zb zp za po)) rfl ?_
    cases h
    exact OEnds.iret hm_28 rfl rfl
  · simp only [if_neg hc115] at h
    refine OEnds.ifT hm_28 rfl (q := 11) rfl ((feq hc115).2) ?_
    refine OEnds.adv hm_28 4 (pc' := 17) (L' := [qr 1, qi v1]) (S' := [.int 3, .int v1, .ref 6]) (H' := (c0 :: bk0 zh zi zn zu zo zl zf zc zs zq zr ze zg zd zm zj zk zt zb zp za po)) rfl ?_
    obtain ⟨A15, hA15, h⟩ := bnd h
    refine OEnds.plain hm_28 rfl rfl (x_iastore rfl (Nat.le_of_ble_eq_true rfl) hA15) ?_
    refine OEnds.adv hm_28 4 (pc' := 24) (L' := [qr 1, qi v1]) (S' := [.int 0, .int v1, .ref 4]) (H' := (c0 :: bk0 zh zi zn zu A15 zl zf zc zs zq zr ze zg zd zm zj zk zt zb zp za po)) rfl ?_
    obtain ⟨A16, hA16, h⟩ := bnd h
    refine OEnds.plain hm_28 rfl rfl (x_iastore rfl (Nat.le_of_ble_eq_true rfl) hA16) ?_
    refine OEnds.adv hm_28 4 (pc' := 31) (L' := [qr 1, qi v1]) (S' := [.int 0, .int v1, .ref 8]) (H' := (c0 :: bk0 zh zi A16 zu A15 zl zf zc zs zq zr ze zg zd zm zj zk zt zb zp za po)) rfl ?_
    obtain ⟨A17, hA17, h⟩ := bnd h
    refine OEnds.plain hm_28 rfl rfl (x_bastore rfl (Nat.le_of_ble_eq_true rfl) hA17) ?_
    refine OEnds.adv hm_28 2 (pc' := 34) (L' := [qr 1, qi v1]) (S' := [.int v1, .ref 1]) (H' := (c0 :: bk0 zh zi A16 zu A15 zl A17 zc zs zq zr ze zg zd zm zj zk zt zb zp za po)) rfl ?_
    obtain ⟨⟨s18, s19⟩, hq116, h⟩ := bnd h
    refine OEnds.call0 hm_28 rfl rfl (by decide) rfl (as := [.ref 1, .int v1]) (rest := []) rfl rfl (ok_removeResting hq116) ?_
    refine OEnds.adv hm_28 1 (pc' := 38) (L' := [qr 1, qi v1]) (S' := [.int 0]) (H' := (c0 :: bk0 zh zi A16 zu A15 zl A17 s18 zs zq zr ze zg zd zm zj zk zt s19 zp za po)) rfl ?_
    cases h
    exact OEnds.iret hm_28 rfl rfl
theorem ok_amend {zh zi zu zo zc zs zq zr ze zg zd : List Int32} {zm zj zk zb zp za : Int32} {c0 : ACell} {po : List ACell} {zn : List Int32} {zl : List Int64} {zf : List Int32} {zt : Int64} {v1 v2 res : Int32} {w_o_oRem : List Int32} {w_o_oStamp : List Int64} {w_o_oTop : List Int32} {w_o_stampCounter : Int64} (h : f_amend zo zk zn zl zf zt v1 v2 = some (res, w_o_oRem, w_o_oStamp, w_o_oTop, w_o_stampCounter)) : OEnds own_P 31 0 [qr 1, qi v1, qi v2] [] (c0 :: bk0 zh zi zn zu zo zl zf zc zs zq zr ze zg zd zm zj zk zt zb zp za po) (some (.int res), (c0 :: bk0 zh zi w_o_oRem zu zo w_o_oStamp w_o_oTop zc zs zq zr ze zg zd zm zj zk w_o_stampCounter zb zp za po), 0, 0) := by
  unfold f_amend at h
  refine OEnds.adv hm_31 2 (pc' := 2) (L' := [qr 1, qi v1, qi v2]) (S' := [.int v1, .ref 1]) (H' := (c0 :: bk0 zh zi zn zu zo zl zf zc zs zq zr ze zg zd zm zj zk zt zb zp za po)) rfl ?_
  obtain ⟨r20, hq117, h⟩ := bnd h
  refine OEnds.call0 hm_31 rfl rfl (by decide) rfl (as := [.ref 1, .int v1]) (rest := []) rfl rfl (ok_isResting hq117) ?_
  show OEnds own_P 31 5 [qr 1, qi v1, qi v2] [.int r20] (c0 :: bk0 zh zi zn zu zo zl zf zc zs zq zr ze zg zd zm zj zk zt zb zp za po) _
  by_cases hc118 : r20 = (0 : Int32)
  · simp only [if_pos hc118] at h
    refine OEnds.ifF hm_31 rfl ((teq hc118).2) ?_
    refine OEnds.adv hm_31 1 (pc' := 10) (L' := [qr 1, qi v1, qi v2]) (S' := [.int (-6)]) (H' := (c0 :: bk0 zh zi zn zu zo zl zf zc zs zq zr ze zg zd zm zj zk zt zb zp za po)) rfl ?_
    cases h
    exact OEnds.iret hm_31 rfl rfl
  · simp only [if_neg hc118] at h
    refine OEnds.ifT hm_31 rfl (q := 11) rfl ((feq hc118).2) ?_
    refine OEnds.adv hm_31 2 (pc' := 13) (L' := [qr 1, qi v1, qi v2]) (S' := [.int 1, .int v2]) (H' := (c0 :: bk0 zh zi zn zu zo zl zf zc zs zq zr ze zg zd zm zj zk zt zb zp za po)) rfl ?_
    by_cases hc119 : v2 < (1 : Int32)
    · simp only [if_pos hc119] at h
      refine OEnds.icmpT hm_31 rfl (q := 23) rfl ((tlt hc119).1) ?_
      refine OEnds.adv hm_31 1 (pc' := 25) (L' := [qr 1, qi v1, qi v2]) (S' := [.int (-3)]) (H' := (c0 :: bk0 zh zi zn zu zo zl zf zc zs zq zr ze zg zd zm zj zk zt zb zp za po)) rfl ?_
      cases h
      exact OEnds.iret hm_31 rfl rfl
    · simp only [if_neg hc119] at h
      refine OEnds.icmpF hm_31 rfl ((flt hc119).1) ?_
      refine OEnds.adv hm_31 2 (pc' := 20) (L' := [qr 1, qi v1, qi v2]) (S' := [.int 10000, .int v2]) (H' := (c0 :: bk0 zh zi zn zu zo zl zf zc zs zq zr ze zg zd zm zj zk zt zb zp za po)) rfl ?_
      by_cases hc120 : (10000 : Int32) < v2
      · simp only [if_pos hc120] at h
        refine OEnds.icmpF hm_31 rfl ((tlt hc120).2.2.2) ?_
        refine OEnds.adv hm_31 1 (pc' := 25) (L' := [qr 1, qi v1, qi v2]) (S' := [.int (-3)]) (H' := (c0 :: bk0 zh zi zn zu zo zl zf zc zs zq zr ze zg zd zm zj zk zt zb zp za po)) rfl ?_
        cases h
        exact OEnds.iret hm_31 rfl rfl
      · simp only [if_neg hc120] at h
        refine OEnds.icmpT hm_31 rfl (q := 26) rfl ((flt hc120).2.2.2) ?_
        refine OEnds.adv hm_31 4 (pc' := 32) (L' := [qr 1, qi v1, qi v2]) (S' := [.int v1, .ref 4, .int v2]) (H' := (c0 :: bk0 zh zi zn zu zo zl zf zc zs zq zr ze zg zd zm zj zk zt zb zp za po)) rfl ?_
        obtain ⟨x21, hx21, h⟩ := bnd h
        refine OEnds.plain hm_31 rfl rfl (x_iaload rfl hx21) ?_
        show OEnds own_P 31 33 [qr 1, qi v1, qi v2] [.int x21, .int v2] (c0 :: bk0 zh zi zn zu zo zl zf zc zs zq zr ze zg zd zm zj zk zt zb zp za po) _
        by_cases hc121 : v2 < x21
        · simp only [if_pos hc121] at h
          refine OEnds.icmpF hm_31 rfl ((tlt hc121).2.1) ?_
          refine OEnds.adv hm_31 4 (pc' := 42) (L' := [qr 1, qi v1, qi v2]) (S' := [.int v2, .int v1, .ref 4]) (H' := (c0 :: bk0 zh zi zn zu zo zl zf zc zs zq zr ze zg zd zm zj zk zt zb zp za po)) rfl ?_
          obtain ⟨A26, hA26, h⟩ := bnd h
          refine OEnds.plain hm_31 rfl rfl (x_iastore rfl (Nat.le_of_ble_eq_true rfl) hA26) ?_
          refine OEnds.adv hm_31 2 (pc' := 91) (L' := [qr 1, qi v1, qi v2]) (S' := [.int 0]) (H' := (c0 :: bk0 zh zi A26 zu zo zl zf zc zs zq zr ze zg zd zm zj zk zt zb zp za po)) rfl ?_
          cases h
          exact OEnds.iret hm_31 rfl rfl
        · simp only [if_neg hc121] at h
          refine OEnds.icmpT hm_31 rfl (q := 46) rfl ((flt hc121).2.1) ?_
          refine OEnds.adv hm_31 4 (pc' := 52) (L' := [qr 1, qi v1, qi v2]) (S' := [.int v1, .ref 4, .int v2]) (H' := (c0 :: bk0 zh zi zn zu zo zl zf zc zs zq zr ze zg zd zm zj zk zt zb zp za po)) rfl ?_
          obtain ⟨x22, hx22, h⟩ := bnd h
          refine OEnds.plain hm_31 rfl rfl (x_iaload rfl hx22) ?_
          show OEnds own_P 31 53 [qr 1, qi v1, qi v2] [.int x22, .int v2] (c0 :: bk0 zh zi zn zu zo zl zf zc zs zq zr ze zg zd zm zj zk zt zb zp za po) _
          by_cases hc122 : x22 < v2
          · simp only [if_pos hc122] at h
            refine OEnds.icmpF hm_31 rfl ((tlt hc122).2.2.2) ?_
            refine OEnds.adv hm_31 4 (pc' := 62) (L' := [qr 1, qi v1, qi v2]) (S' := [.int v2, .int v1, .ref 4]) (H' := (c0 :: bk0 zh zi zn zu zo zl zf zc zs zq zr ze zg zd zm zj zk zt zb zp za po)) rfl ?_
            obtain ⟨A23, hA23, h⟩ := bnd h
            refine OEnds.plain hm_31 rfl rfl (x_iastore rfl (Nat.le_of_ble_eq_true rfl) hA23) ?_
            refine OEnds.adv hm_31 11 (pc' := 82) (L' := [qr 1, qi v1, qi v2]) (S' := [.long (zt + (1 : Int64)), .int v1, .ref 7]) (H' := (c0 :: bk0 zh zi A23 zu zo zl zf zc zs zq zr ze zg zd zm zj zk (zt + (1 : Int64)) zb zp za po)) rfl ?_
            obtain ⟨A24, hA24, h⟩ := bnd h
            refine OEnds.plain hm_31 rfl rfl (x_lastore rfl (Nat.le_of_ble_eq_true rfl) hA24) ?_
            refine OEnds.adv hm_31 4 (pc' := 89) (L' := [qr 1, qi v1, qi v2]) (S' := [.int 0, .int v1, .ref 8]) (H' := (c0 :: bk0 zh zi A23 zu zo A24 zf zc zs zq zr ze zg zd zm zj zk (zt + (1 : Int64)) zb zp za po)) rfl ?_
            obtain ⟨A25, hA25, h⟩ := bnd h
            refine OEnds.plain hm_31 rfl rfl (x_bastore rfl (Nat.le_of_ble_eq_true rfl) hA25) ?_
            refine OEnds.adv hm_31 1 (pc' := 91) (L' := [qr 1, qi v1, qi v2]) (S' := [.int 0]) (H' := (c0 :: bk0 zh zi A23 zu zo A24 A25 zc zs zq zr ze zg zd zm zj zk (zt + (1 : Int64)) zb zp za po)) rfl ?_
            cases h
            exact OEnds.iret hm_31 rfl rfl
          · simp only [if_neg hc122] at h
            refine OEnds.icmpT hm_31 rfl (q := 90) rfl ((flt hc122).2.2.2) ?_
            refine OEnds.adv hm_31 1 (pc' := 91) (L' := [qr 1, qi v1, qi v2]) (S' := [.int 0]) (H' := (c0 :: bk0 zh zi zn zu zo zl zf zc zs zq zr ze zg zd zm zj zk zt zb zp za po)) rfl ?_
            cases h
            exact OEnds.iret hm_31 rfl rfl
theorem ok_L_law_961 {scr : List Int32} {kb : List Int32 → List Int32 → List Int32 → List Int32 → List Int32 → List Int64 → List Int32 → List Int32 → List Int32 → List Int32 → List Int32 → List Int32 → List Int32 → List Int32 → Int32 → Int32 → Int32 → Int64 → Int32 → Int32 → Int32 → Int32 → Int32 → Int32 → Option (Int32)} (hkb : ∀ {zx zy zao zae zal : List Int32} {zam : List Int64} {zap zaj zac zad zab zaf zag zah : List Int32} {zv zw zz : Int32} {zan : Int64} {zak zaa zai v2 v3 v4 : Int32} {d5 d6 d7 d8 d9 d10 d11 d12 d13 d14 d15 d16 d17 d18 d19 d20 d21 d22 d23 d24 d25 d26 d27 d28 d29 : Slot} {res : Int32}, kb zx zy zao zae zal zam zap zaj zac zad zab zaf zag zah zv zw zz zan zak zaa zai v2 v3 v4 = some res → OEndsQ own_P 0 36 [qr 0, qr 1, qi v2, qi v3, qi v4, d5, d6, d7, d8, d9, d10, d11, d12, d13, d14, d15, d16, d17, d18, d19, d20, d21, d22, d23, d24, d25, d26, d27, d28, d29] [] (qa scr :: bk0 zx zy zao zae zal zam zap zaj zac zad zab zaf zag zah zv zw zz zan zak zaa zai []) (LawQ res 0 0)) : ∀ {zx zy zao zae zal : List Int32} {zam : List Int64} {zap zaj zac zad zab zaf zag zah : List Int32} {zv zw zz : Int32} {zan : Int64} {zak zaa zai v2 v3 v4 v25 : Int32} {t0 t1 : Int64} {d5 d6 d7 d8 d9 d10 d11 d12 d13 d14 d15 d16 d17 d18 d19 d20 d21 d22 d23 d24 d26 d27 d28 d29 : Slot} {res : Int32}, f_L_law_961 kb scr zx zy zao zae zal zam zap zaj zac zad zab zaf zag zah zv zw zz zan zak zaa zai v2 v3 v4 v25 t0 t1 = some res → OEndsQ own_P 0 961 [qr 0, qr 1, qi v2, qi v3, qi v4, d5, d6, d7, d8, d9, d10, d11, d12, d13, d14, d15, d16, d17, d18, d19, d20, d21, d22, d23, d24, qi v25, d26, d27, d28, d29] [.long t0, .long t1] (qa scr :: bk0 zx zy zao zae zal zam zap zaj zac zad zab zaf zag zah zv zw zz zan zak zaa zai []) (LawQ res 0 0) := by
  intro zx zy zao zae zal zam zap zaj zac zad zab zaf zag zah zv zw zz zan zak zaa zai v2 v3 v4 v25 t0 t1 d5 d6 d7 d8 d9 d10 d11 d12 d13 d14 d15 d16 d17 d18 d19 d20 d21 d22 d23 d24 d26 d27 d28 d29 res h
  unfold f_L_law_961 at h
  refine OEndsQ.adv hm_0 4 (pc' := 966) (L' := [qr 0, qr 1, qi v2, qi v3, qi v4, qu, qu, qu, qu, qu, qu, qu, qu, qu, qu, qu, qu, qu, qu, qu, qu, qu, qu, qu, qu, qi v25, qu, qu, qu, qu]) (S' := [.int (XT.cmpL t1 (t0 + v25.toInt64))]) (H' := (qa scr :: bk0 zx zy zao zae zal zam zap zaj zac zad zab zaf zag zah zv zw zz zan zak zaa zai [])) rfl ?_
  by_cases hc123 : t1 = (t0 + v25.toInt64)
  · simp only [if_pos hc123] at h
    refine OEndsQ.ifT hm_0 rfl (q := 971) rfl ((teq (c_eq.mpr hc123)).1) ?_
    refine OEndsQ.adv hm_0 2 (pc' := 36) (L' := [qr 0, qr 1, qi v2, qi v3, qi (v4 + (1 : Int32)), qu, qu, qu, qu, qu, qu, qu, qu, qu, qu, qu, qu, qu, qu, qu, qu, qu, qu, qu, qu, qi v25, qu, qu, qu, qu]) (S' := []) (H' := (qa scr :: bk0 zx zy zao zae zal zam zap zaj zac zad zab zaf zag zah zv zw zz zan zak zaa zai [])) rfl ?_
    exact hkb h
  · simp only [if_neg hc123] at h
    refine OEndsQ.ifF hm_0 rfl ((feq (mt c_eq.mp hc123)).1) ?_
    refine OEndsQ.adv hm_0 1 (pc' := 970) (L' := [qr 0, qr 1, qi v2, qi v3, qi v4, qu, qu, qu, qu, qu, qu, qu, qu, qu, qu, qu, qu, qu, qu, qu, qu, qu, qu, qu, qu, qi v25, qu, qu, qu, qu]) (S' := [.int 0]) (H' := (qa scr :: bk0 zx zy zao zae zal zam zap zaj zac zad zab zaf zag zah zv zw zz zan zak zaa zai [])) rfl ?_
    cases h
    exact OEndsQ.iret hm_0 rfl rfl
theorem ok_L_law_934 {scr : List Int32} {kb : List Int32 → List Int32 → List Int32 → List Int32 → List Int32 → List Int64 → List Int32 → List Int32 → List Int32 → List Int32 → List Int32 → List Int32 → List Int32 → List Int32 → Int32 → Int32 → Int32 → Int64 → Int32 → Int32 → Int32 → Int32 → Int32 → Int32 → Option (Int32)} (hkb : ∀ {zx zy zao zae zal : List Int32} {zam : List Int64} {zap zaj zac zad zab zaf zag zah : List Int32} {zv zw zz : Int32} {zan : Int64} {zak zaa zai v2 v3 v4 : Int32} {d5 d6 d7 d8 d9 d10 d11 d12 d13 d14 d15 d16 d17 d18 d19 d20 d21 d22 d23 d24 d25 d26 d27 d28 d29 : Slot} {res : Int32}, kb zx zy zao zae zal zam zap zaj zac zad zab zaf zag zah zv zw zz zan zak zaa zai v2 v3 v4 = some res → OEndsQ own_P 0 36 [qr 0, qr 1, qi v2, qi v3, qi v4, d5, d6, d7, d8, d9, d10, d11, d12, d13, d14, d15, d16, d17, d18, d19, d20, d21, d22, d23, d24, d25, d26, d27, d28, d29] [] (qa scr :: bk0 zx zy zao zae zal zam zap zaj zac zad zab zaf zag zah zv zw zz zan zak zaa zai []) (LawQ res 0 0)) : ∀ {zx zy zao zae zal : List Int32} {zam : List Int64} {zap zaj zac zad zab zaf zag zah : List Int32} {zv zw zz : Int32} {zan : Int64} {zak zaa zai v2 v3 v4 : Int32} {v9 v11 : Int64} {v13 : Int32} {v22 : Int64} {v25 : Int32} {t0 t1 : Int64} {d5 d6 d7 d8 d14 d15 d16 d17 d18 d19 d20 d21 d24 d26 d27 d28 d29 : Slot} {res : Int32}, f_L_law_934 kb scr zx zy zao zae zal zam zap zaj zac zad zab zaf zag zah zv zw zz zan zak zaa zai v2 v3 v4 v9 v11 v13 v22 v25 t0 t1 = some res → OEndsQ own_P 0 934 [qr 0, qr 1, qi v2, qi v3, qi v4, d5, d6, d7, d8, ql v9, qw, ql v11, qw, qi v13, d14, d15, d16, d17, d18, d19, d20, d21, ql v22, qw, d24, qi v25, d26, d27, d28, d29] [.long t0, .long t1] (qa scr :: bk0 zx zy zao zae zal zam zap zaj zac zad zab zaf zag zah zv zw zz zan zak zaa zai []) (LawQ res 0 0) := by
  intro zx zy zao zae zal zam zap zaj zac zad zab zaf zag zah zv zw zz zan zak zaa zai v2 v3 v4 v9 v11 v13 v22 v25 t0 t1 d5 d6 d7 d8 d14 d15 d16 d17 d18 d19 d20 d21 d24 d26 d27 d28 d29 res h
  unfold f_L_law_934 at h
  refine OEndsQ.adv hm_0 3 (pc' := 938) (L' := [qr 0, qr 1, qi v2, qi v3, qi v4, qu, qu, qu, qu, ql v9, qw, ql v11, qw, qi v13, qu, qu, qu, qu, qu, qu, qu, qu, ql v22, qw, qu, qi v25, qu, qu, qu, qu]) (S' := [.int (XT.cmpL t1 (t0 - v22))]) (H' := (qa scr :: bk0 zx zy zao zae zal zam zap zaj zac zad zab zaf zag zah zv zw zz zan zak zaa zai [])) rfl ?_
  by_cases hc124 : t1 = (t0 - v22)
  · simp only [if_pos hc124] at h
    refine OEndsQ.ifT hm_0 rfl (q := 943) rfl ((teq (c_eq.mpr hc124)).1) ?_
    refine OEndsQ.adv hm_0 2 (pc' := 946) (L' := [qr 0, qr 1, qi v2, qi v3, qi v4, qu, qu, qu, qu, ql v9, qw, ql v11, qw, qi v13, qu, qu, qu, qu, qu, qu, qu, qu, ql v22, qw, qu, qi v25, qu, qu, qu, qu]) (S' := [.int v13, .ref 1]) (H' := (qa scr :: bk0 zx zy zao zae zal zam zap zaj zac zad zab zaf zag zah zv zw zz zan zak zaa zai [])) rfl ?_
    obtain ⟨r232, hq125, h⟩ := bnd h
    refine OEndsQ.call0 hm_0 rfl rfl (by decide) rfl (as := [.ref 1, .int v13]) (rest := []) rfl rfl (ok_L_depth hq125) ?_
    refine OEndsQ.adv hm_0 1 (pc' := 951) (L' := [qr 0, qr 1, qi v2, qi v3, qi v4, qu, qu, qu, qu, ql v9, qw, ql v11, qw, qi v13, qu, qu, qu, qu, qu, qu, qu, qu, ql v22, qw, qu, qi v25, qu, qu, qu, qu]) (S' := [.int v13, .long r232]) (H' := (qa scr :: bk0 zx zy zao zae zal zam zap zaj zac zad zab zaf zag zah zv zw zz zan zak zaa zai [])) rfl ?_
    by_cases hc126 : v13 = (0 : Int32)
    · simp only [if_pos hc126] at h
      refine OEndsQ.ifF hm_0 rfl ((teq hc126).2) ?_
      refine OEndsQ.adv hm_0 2 (pc' := 961) (L' := [qr 0, qr 1, qi v2, qi v3, qi v4, qu, qu, qu, qu, ql v9, qw, ql v11, qw, qi v13, qu, qu, qu, qu, qu, qu, qu, qu, ql v22, qw, qu, qi v25, qu, qu, qu, qu]) (S' := [.long v9, .long r232]) (H' := (qa scr :: bk0 zx zy zao zae zal zam zap zaj zac zad zab zaf zag zah zv zw zz zan zak zaa zai [])) rfl ?_
      exact ok_L_law_961 hkb h
    · simp only [if_neg hc126] at h
      refine OEndsQ.ifT hm_0 rfl (q := 959) rfl ((feq hc126).2) ?_
      refine OEndsQ.adv hm_0 1 (pc' := 961) (L' := [qr 0, qr 1, qi v2, qi v3, qi v4, qu, qu, qu, qu, ql v9, qw, ql v11, qw, qi v13, qu, qu, qu, qu, qu, qu, qu, qu, ql v22, qw, qu, qi v25, qu, qu, qu, qu]) (S' := [.long v11, .long r232]) (H' := (qa scr :: bk0 zx zy zao zae zal zam zap zaj zac zad zab zaf zag zah zv zw zz zan zak zaa zai [])) rfl ?_
      exact ok_L_law_961 hkb h
  · simp only [if_neg hc124] at h
    refine OEndsQ.ifF hm_0 rfl ((feq (mt c_eq.mp hc124)).1) ?_
    refine OEndsQ.adv hm_0 1 (pc' := 942) (L' := [qr 0, qr 1, qi v2, qi v3, qi v4, qu, qu, qu, qu, ql v9, qw, ql v11, qw, qi v13, qu, qu, qu, qu, qu, qu, qu, qu, ql v22, qw, qu, qi v25, qu, qu, qu, qu]) (S' := [.int 0]) (H' := (qa scr :: bk0 zx zy zao zae zal zam zap zaj zac zad zab zaf zag zah zv zw zz zan zak zaa zai [])) rfl ?_
    cases h
    exact OEndsQ.iret hm_0 rfl rfl
theorem ok_L_law_916 {scr : List Int32} {kb : List Int32 → List Int32 → List Int32 → List Int32 → List Int32 → List Int64 → List Int32 → List Int32 → List Int32 → List Int32 → List Int32 → List Int32 → List Int32 → List Int32 → Int32 → Int32 → Int32 → Int64 → Int32 → Int32 → Int32 → Int32 → Int32 → Int32 → Option (Int32)} (hkb : ∀ {zx zy zao zae zal : List Int32} {zam : List Int64} {zap zaj zac zad zab zaf zag zah : List Int32} {zv zw zz : Int32} {zan : Int64} {zak zaa zai v2 v3 v4 : Int32} {d5 d6 d7 d8 d9 d10 d11 d12 d13 d14 d15 d16 d17 d18 d19 d20 d21 d22 d23 d24 d25 d26 d27 d28 d29 : Slot} {res : Int32}, kb zx zy zao zae zal zam zap zaj zac zad zab zaf zag zah zv zw zz zan zak zaa zai v2 v3 v4 = some res → OEndsQ own_P 0 36 [qr 0, qr 1, qi v2, qi v3, qi v4, d5, d6, d7, d8, d9, d10, d11, d12, d13, d14, d15, d16, d17, d18, d19, d20, d21, d22, d23, d24, d25, d26, d27, d28, d29] [] (qa scr :: bk0 zx zy zao zae zal zam zap zaj zac zad zab zaf zag zah zv zw zz zan zak zaa zai []) (LawQ res 0 0)) : ∀ {zx zy zao zae zal : List Int32} {zam : List Int64} {zap zaj zac zad zab zaf zag zah : List Int32} {zv zw zz : Int32} {zan : Int64} {zak zaa zai v2 v3 v4 : Int32} {v9 v11 : Int64} {v13 v14 : Int32} {v22 : Int64} {v25 : Int32} {d5 d6 d7 d8 d15 d16 d17 d18 d19 d20 d21 d24 d26 d27 d28 d29 : Slot} {res : Int32}, f_L_law_916 kb scr zx zy zao zae zal zam zap zaj zac zad zab zaf zag zah zv zw zz zan zak zaa zai v2 v3 v4 v9 v11 v13 v14 v22 v25 = some res → OEndsQ own_P 0 916 [qr 0, qr 1, qi v2, qi v3, qi v4, d5, d6, d7, d8, ql v9, qw, ql v11, qw, qi v13, qi v14, d15, d16, d17, d18, d19, d20, d21, ql v22, qw, d24, qi v25, d26, d27, d28, d29] [] (qa scr :: bk0 zx zy zao zae zal zam zap zaj zac zad zab zaf zag zah zv zw zz zan zak zaa zai []) (LawQ res 0 0) := by
  intro zx zy zao zae zal zam zap zaj zac zad zab zaf zag zah zv zw zz zan zak zaa zai v2 v3 v4 v9 v11 v13 v14 v22 v25 d5 d6 d7 d8 d15 d16 d17 d18 d19 d20 d21 d24 d26 d27 d28 d29 res h
  unfold f_L_law_916 at h
  refine OEndsQ.adv hm_0 2 (pc' := 919) (L' := [qr 0, qr 1, qi v2, qi v3, qi v4, qu, qu, qu, qu, ql v9, qw, ql v11, qw, qi v13, qi v14, qu, qu, qu, qu, qu, qu, qu, ql v22, qw, qu, qi v25, qu, qu, qu, qu]) (S' := [.int v14, .ref 1]) (H' := (qa scr :: bk0 zx zy zao zae zal zam zap zaj zac zad zab zaf zag zah zv zw zz zan zak zaa zai [])) rfl ?_
  obtain ⟨r231, hq127, h⟩ := bnd h
  refine OEndsQ.call0 hm_0 rfl rfl (by decide) rfl (as := [.ref 1, .int v14]) (rest := []) rfl rfl (ok_L_depth hq127) ?_
  refine OEndsQ.adv hm_0 1 (pc' := 924) (L' := [qr 0, qr 1, qi v2, qi v3, qi v4, qu, qu, qu, qu, ql v9, qw, ql v11, qw, qi v13, qi v14, qu, qu, qu, qu, qu, qu, qu, ql v22, qw, qu, qi v25, qu, qu, qu, qu]) (S' := [.int v14, .long r231]) (H' := (qa scr :: bk0 zx zy zao zae zal zam zap zaj zac zad zab zaf zag zah zv zw zz zan zak zaa zai [])) rfl ?_
  by_cases hc128 : v14 = (0 : Int32)
  · simp only [if_pos hc128] at h
    refine OEndsQ.ifF hm_0 rfl ((teq hc128).2) ?_
    refine OEndsQ.adv hm_0 2 (pc' := 934) (L' := [qr 0, qr 1, qi v2, qi v3, qi v4, qu, qu, qu, qu, ql v9, qw, ql v11, qw, qi v13, qi v14, qu, qu, qu, qu, qu, qu, qu, ql v22, qw, qu, qi v25, qu, qu, qu, qu]) (S' := [.long v9, .long r231]) (H' := (qa scr :: bk0 zx zy zao zae zal zam zap zaj zac zad zab zaf zag zah zv zw zz zan zak zaa zai [])) rfl ?_
    exact ok_L_law_934 hkb h
  · simp only [if_neg hc128] at h
    refine OEndsQ.ifT hm_0 rfl (q := 932) rfl ((feq hc128).2) ?_
    refine OEndsQ.adv hm_0 1 (pc' := 934) (L' := [qr 0, qr 1, qi v2, qi v3, qi v4, qu, qu, qu, qu, ql v9, qw, ql v11, qw, qi v13, qi v14, qu, qu, qu, qu, qu, qu, qu, ql v22, qw, qu, qi v25, qu, qu, qu, qu]) (S' := [.long v11, .long r231]) (H' := (qa scr :: bk0 zx zy zao zae zal zam zap zaj zac zad zab zaf zag zah zv zw zz zan zak zaa zai [])) rfl ?_
    exact ok_L_law_934 hkb h
theorem ok_L_law_903 {scr : List Int32} {kb : List Int32 → List Int32 → List Int32 → List Int32 → List Int32 → List Int64 → List Int32 → List Int32 → List Int32 → List Int32 → List Int32 → List Int32 → List Int32 → List Int32 → Int32 → Int32 → Int32 → Int64 → Int32 → Int32 → Int32 → Int32 → Int32 → Int32 → Option (Int32)} (hkb : ∀ {zx zy zao zae zal : List Int32} {zam : List Int64} {zap zaj zac zad zab zaf zag zah : List Int32} {zv zw zz : Int32} {zan : Int64} {zak zaa zai v2 v3 v4 : Int32} {d5 d6 d7 d8 d9 d10 d11 d12 d13 d14 d15 d16 d17 d18 d19 d20 d21 d22 d23 d24 d25 d26 d27 d28 d29 : Slot} {res : Int32}, kb zx zy zao zae zal zam zap zaj zac zad zab zaf zag zah zv zw zz zan zak zaa zai v2 v3 v4 = some res → OEndsQ own_P 0 36 [qr 0, qr 1, qi v2, qi v3, qi v4, d5, d6, d7, d8, d9, d10, d11, d12, d13, d14, d15, d16, d17, d18, d19, d20, d21, d22, d23, d24, d25, d26, d27, d28, d29] [] (qa scr :: bk0 zx zy zao zae zal zam zap zaj zac zad zab zaf zag zah zv zw zz zan zak zaa zai []) (LawQ res 0 0)) : ∀ {zx zy zao zae zal : List Int32} {zam : List Int64} {zap zaj zac zad zab zaf zag zah : List Int32} {zv zw zz : Int32} {zan : Int64} {zak zaa zai v2 v3 v4 : Int32} {v9 v11 : Int64} {v13 v14 : Int32} {v22 : Int64} {v24 v25 : Int32} {d5 d6 d7 d8 d15 d16 d17 d18 d19 d20 d21 d26 d27 d28 d29 : Slot} {res : Int32}, f_L_law_903 kb scr zx zy zao zae zal zam zap zaj zac zad zab zaf zag zah zv zw zz zan zak zaa zai v2 v3 v4 v9 v11 v13 v14 v22 v24 v25 = some res → OEndsQ own_P 0 903 [qr 0, qr 1, qi v2, qi v3, qi v4, d5, d6, d7, d8, ql v9, qw, ql v11, qw, qi v13, qi v14, d15, d16, d17, d18, d19, d20, d21, ql v22, qw, qi v24, qi v25, d26, d27, d28, d29] [] (qa scr :: bk0 zx zy zao zae zal zam zap zaj zac zad zab zaf zag zah zv zw zz zan zak zaa zai []) (LawQ res 0 0) := by
  intro zx zy zao zae zal zam zap zaj zac zad zab zaf zag zah zv zw zz zan zak zaa zai v2 v3 v4 v9 v11 v13 v14 v22 v24 v25 d5 d6 d7 d8 d15 d16 d17 d18 d19 d20 d21 d26 d27 d28 d29 res h
  unfold f_L_law_903 at h
  refine OEndsQ.adv hm_0 2 (pc' := 906) (L' := [qr 0, qr 1, qi v2, qi v3, qi v4, qu, qu, qu, qu, ql v9, qw, ql v11, qw, qi v13, qi v14, qu, qu, qu, qu, qu, qu, qu, ql v22, qw, qi v24, qi v25, qu, qu, qu, qu]) (S' := [.int 4, .int v24]) (H' := (qa scr :: bk0 zx zy zao zae zal zam zap zaj zac zad zab zaf zag zah zv zw zz zan zak zaa zai [])) rfl ?_
  by_cases hc129 : v24 = (4 : Int32)
  · simp only [if_pos hc129] at h
    refine OEndsQ.icmpF hm_0 rfl ((teq hc129).2) ?_
    refine OEndsQ.adv hm_0 1 (pc' := 911) (L' := [qr 0, qr 1, qi v2, qi v3, qi v4, qu, qu, qu, qu, ql v9, qw, ql v11, qw, qi v13, qi v14, qu, qu, qu, qu, qu, qu, qu, ql v22, qw, qi v24, qi v25, qu, qu, qu, qu]) (S' := [.int v25]) (H' := (qa scr :: bk0 zx zy zao zae zal zam zap zaj zac zad zab zaf zag zah zv zw zz zan zak zaa zai [])) rfl ?_
    by_cases hc130 : v25 = (0 : Int32)
    · simp only [if_pos hc130] at h
      refine OEndsQ.ifT hm_0 rfl (q := 916) rfl ((teq hc130).1) ?_
      show OEndsQ own_P 0 916 [qr 0, qr 1, qi v2, qi v3, qi v4, qu, qu, qu, qu, ql v9, qw, ql v11, qw, qi v13, qi v14, qu, qu, qu, qu, qu, qu, qu, ql v22, qw, qi v24, qi v25, qu, qu, qu, qu] [] (qa scr :: bk0 zx zy zao zae zal zam zap zaj zac zad zab zaf zag zah zv zw zz zan zak zaa zai []) _
      exact ok_L_law_916 hkb h
    · simp only [if_neg hc130] at h
      refine OEndsQ.ifF hm_0 rfl ((feq hc130).1) ?_
      refine OEndsQ.adv hm_0 1 (pc' := 915) (L' := [qr 0, qr 1, qi v2, qi v3, qi v4, qu, qu, qu, qu, ql v9, qw, ql v11, qw, qi v13, qi v14, qu, qu, qu, qu, qu, qu, qu, ql v22, qw, qi v24, qi v25, qu, qu, qu, qu]) (S' := [.int 0]) (H' := (qa scr :: bk0 zx zy zao zae zal zam zap zaj zac zad zab zaf zag zah zv zw zz zan zak zaa zai [])) rfl ?_
      cases h
      exact OEndsQ.iret hm_0 rfl rfl
  · simp only [if_neg hc129] at h
    refine OEndsQ.icmpT hm_0 rfl (q := 914) rfl ((feq hc129).2) ?_
    refine OEndsQ.adv hm_0 1 (pc' := 915) (L' := [qr 0, qr 1, qi v2, qi v3, qi v4, qu, qu, qu, qu, ql v9, qw, ql v11, qw, qi v13, qi v14, qu, qu, qu, qu, qu, qu, qu, ql v22, qw, qi v24, qi v25, qu, qu, qu, qu]) (S' := [.int 0]) (H' := (qa scr :: bk0 zx zy zao zae zal zam zap zaj zac zad zab zaf zag zah zv zw zz zan zak zaa zai [])) rfl ?_
    cases h
    exact OEndsQ.iret hm_0 rfl rfl
theorem ok_L_law_868 {scr : List Int32} {kb : List Int32 → List Int32 → List Int32 → List Int32 → List Int32 → List Int64 → List Int32 → List Int32 → List Int32 → List Int32 → List Int32 → List Int32 → List Int32 → List Int32 → Int32 → Int32 → Int32 → Int64 → Int32 → Int32 → Int32 → Int32 → Int32 → Int32 → Option (Int32)} (hkb : ∀ {zx zy zao zae zal : List Int32} {zam : List Int64} {zap zaj zac zad zab zaf zag zah : List Int32} {zv zw zz : Int32} {zan : Int64} {zak zaa zai v2 v3 v4 : Int32} {d5 d6 d7 d8 d9 d10 d11 d12 d13 d14 d15 d16 d17 d18 d19 d20 d21 d22 d23 d24 d25 d26 d27 d28 d29 : Slot} {res : Int32}, kb zx zy zao zae zal zam zap zaj zac zad zab zaf zag zah zv zw zz zan zak zaa zai v2 v3 v4 = some res → OEndsQ own_P 0 36 [qr 0, qr 1, qi v2, qi v3, qi v4, d5, d6, d7, d8, d9, d10, d11, d12, d13, d14, d15, d16, d17, d18, d19, d20, d21, d22, d23, d24, d25, d26, d27, d28, d29] [] (qa scr :: bk0 zx zy zao zae zal zam zap zaj zac zad zab zaf zag zah zv zw zz zan zak zaa zai []) (LawQ res 0 0)) : ∀ {zx zy zao zae zal : List Int32} {zam : List Int64} {zap zaj zac zad zab zaf zag zah : List Int32} {zv zw zz : Int32} {zan : Int64} {zak zaa zai v2 v3 v4 : Int32} {v9 v11 : Int64} {v13 v14 v15 v17 v20 : Int32} {v22 : Int64} {v24 v25 : Int32} {d5 d6 d7 d8 d16 d18 d19 d21 d26 d27 d28 d29 : Slot} {res : Int32}, f_L_law_868 kb scr zx zy zao zae zal zam zap zaj zac zad zab zaf zag zah zv zw zz zan zak zaa zai v2 v3 v4 v9 v11 v13 v14 v15 v17 v20 v22 v24 v25 = some res → OEndsQ own_P 0 868 [qr 0, qr 1, qi v2, qi v3, qi v4, d5, d6, d7, d8, ql v9, qw, ql v11, qw, qi v13, qi v14, qi v15, d16, qi v17, d18, d19, qi v20, d21, ql v22, qw, qi v24, qi v25, d26, d27, d28, d29] [] (qa scr :: bk0 zx zy zao zae zal zam zap zaj zac zad zab zaf zag zah zv zw zz zan zak zaa zai []) (LawQ res 0 0) := by
  intro zx zy zao zae zal zam zap zaj zac zad zab zaf zag zah zv zw zz zan zak zaa zai v2 v3 v4 v9 v11 v13 v14 v15 v17 v20 v22 v24 v25 d5 d6 d7 d8 d16 d18 d19 d21 d26 d27 d28 d29 res h
  unfold f_L_law_868 at h
  refine OEndsQ.adv hm_0 2 (pc' := 871) (L' := [qr 0, qr 1, qi v2, qi v3, qi v4, qu, qu, qu, qu, ql v9, qw, ql v11, qw, qi v13, qi v14, qi v15, qu, qi v17, qu, qu, qi v20, qu, ql v22, qw, qi v24, qi v25, qu, qu, qu, qu]) (S' := [.int 1, .int v15]) (H' := (qa scr :: bk0 zx zy zao zae zal zam zap zaj zac zad zab zaf zag zah zv zw zz zan zak zaa zai [])) rfl ?_
  by_cases hc131 : v15 = (1 : Int32)
  · simp only [if_pos hc131] at h
    refine OEndsQ.icmpF hm_0 rfl ((teq hc131).2) ?_
    refine OEndsQ.adv hm_0 2 (pc' := 877) (L' := [qr 0, qr 1, qi v2, qi v3, qi v4, qu, qu, qu, qu, ql v9, qw, ql v11, qw, qi v13, qi v14, qi v15, qu, qi v17, qu, qu, qi v20, qu, ql v22, qw, qi v24, qi v25, qu, qu, qu, qu]) (S' := [.int 4, .int v24]) (H' := (qa scr :: bk0 zx zy zao zae zal zam zap zaj zac zad zab zaf zag zah zv zw zz zan zak zaa zai [])) rfl ?_
    by_cases hc132 : v24 = (4 : Int32)
    · simp only [if_pos hc132] at h
      refine OEndsQ.icmpF hm_0 rfl ((teq hc132).2) ?_
      refine OEndsQ.adv hm_0 1 (pc' := 882) (L' := [qr 0, qr 1, qi v2, qi v3, qi v4, qu, qu, qu, qu, ql v9, qw, ql v11, qw, qi v13, qi v14, qi v15, qu, qi v17, qu, qu, qi v20, qu, ql v22, qw, qi v24, qi v25, qu, qu, qu, qu]) (S' := [.int v25]) (H' := (qa scr :: bk0 zx zy zao zae zal zam zap zaj zac zad zab zaf zag zah zv zw zz zan zak zaa zai [])) rfl ?_
      by_cases hc133 : v25 = (0 : Int32)
      · simp only [if_pos hc133] at h
        refine OEndsQ.ifT hm_0 rfl (q := 916) rfl ((teq hc133).1) ?_
        show OEndsQ own_P 0 916 [qr 0, qr 1, qi v2, qi v3, qi v4, qu, qu, qu, qu, ql v9, qw, ql v11, qw, qi v13, qi v14, qi v15, qu, qi v17, qu, qu, qi v20, qu, ql v22, qw, qi v24, qi v25, qu, qu, qu, qu] [] (qa scr :: bk0 zx zy zao zae zal zam zap zaj zac zad zab zaf zag zah zv zw zz zan zak zaa zai []) _
        exact ok_L_law_916 hkb h
      · simp only [if_neg hc133] at h
        refine OEndsQ.ifF hm_0 rfl ((feq hc133).1) ?_
        refine OEndsQ.adv hm_0 1 (pc' := 886) (L' := [qr 0, qr 1, qi v2, qi v3, qi v4, qu, qu, qu, qu, ql v9, qw, ql v11, qw, qi v13, qi v14, qi v15, qu, qi v17, qu, qu, qi v20, qu, ql v22, qw, qi v24, qi v25, qu, qu, qu, qu]) (S' := [.int 0]) (H' := (qa scr :: bk0 zx zy zao zae zal zam zap zaj zac zad zab zaf zag zah zv zw zz zan zak zaa zai [])) rfl ?_
        cases h
        exact OEndsQ.iret hm_0 rfl rfl
    · simp only [if_neg hc132] at h
      refine OEndsQ.icmpT hm_0 rfl (q := 885) rfl ((feq hc132).2) ?_
      refine OEndsQ.adv hm_0 1 (pc' := 886) (L' := [qr 0, qr 1, qi v2, qi v3, qi v4, qu, qu, qu, qu, ql v9, qw, ql v11, qw, qi v13, qi v14, qi v15, qu, qi v17, qu, qu, qi v20, qu, ql v22, qw, qi v24, qi v25, qu, qu, qu, qu]) (S' := [.int 0]) (H' := (qa scr :: bk0 zx zy zao zae zal zam zap zaj zac zad zab zaf zag zah zv zw zz zan zak zaa zai [])) rfl ?_
      cases h
      exact OEndsQ.iret hm_0 rfl rfl
  · simp only [if_neg hc131] at h
    refine OEndsQ.icmpT hm_0 rfl (q := 887) rfl ((feq hc131).2) ?_
    refine OEndsQ.adv hm_0 2 (pc' := 890) (L' := [qr 0, qr 1, qi v2, qi v3, qi v4, qu, qu, qu, qu, ql v9, qw, ql v11, qw, qi v13, qi v14, qi v15, qu, qi v17, qu, qu, qi v20, qu, ql v22, qw, qi v24, qi v25, qu, qu, qu, qu]) (S' := [.int 1, .int v24]) (H' := (qa scr :: bk0 zx zy zao zae zal zam zap zaj zac zad zab zaf zag zah zv zw zz zan zak zaa zai [])) rfl ?_
    by_cases hc134 : v24 = (1 : Int32)
    · simp only [if_pos hc134] at h
      refine OEndsQ.icmpF hm_0 rfl ((teq hc134).2) ?_
      refine OEndsQ.adv hm_0 4 (pc' := 900) (L' := [qr 0, qr 1, qi v2, qi v3, qi v4, qu, qu, qu, qu, ql v9, qw, ql v11, qw, qi v13, qi v14, qi v15, qu, qi v17, qu, qu, qi v20, qu, ql v22, qw, qi v24, qi v25, qu, qu, qu, qu]) (S' := [.int (v17 - v20), .int v25]) (H' := (qa scr :: bk0 zx zy zao zae zal zam zap zaj zac zad zab zaf zag zah zv zw zz zan zak zaa zai [])) rfl ?_
      by_cases hc135 : v25 = (v17 - v20)
      · simp only [if_pos hc135] at h
        refine OEndsQ.icmpT hm_0 rfl (q := 916) rfl ((teq hc135).1) ?_
        show OEndsQ own_P 0 916 [qr 0, qr 1, qi v2, qi v3, qi v4, qu, qu, qu, qu, ql v9, qw, ql v11, qw, qi v13, qi v14, qi v15, qu, qi v17, qu, qu, qi v20, qu, ql v22, qw, qi v24, qi v25, qu, qu, qu, qu] [] (qa scr :: bk0 zx zy zao zae zal zam zap zaj zac zad zab zaf zag zah zv zw zz zan zak zaa zai []) _
        exact ok_L_law_916 hkb h
      · simp only [if_neg hc135] at h
        refine OEndsQ.icmpF hm_0 rfl ((feq hc135).1) ?_
        show OEndsQ own_P 0 903 [qr 0, qr 1, qi v2, qi v3, qi v4, qu, qu, qu, qu, ql v9, qw, ql v11, qw, qi v13, qi v14, qi v15, qu, qi v17, qu, qu, qi v20, qu, ql v22, qw, qi v24, qi v25, qu, qu, qu, qu] [] (qa scr :: bk0 zx zy zao zae zal zam zap zaj zac zad zab zaf zag zah zv zw zz zan zak zaa zai []) _
        exact ok_L_law_903 hkb h
    · simp only [if_neg hc134] at h
      refine OEndsQ.icmpT hm_0 rfl (q := 903) rfl ((feq hc134).2) ?_
      show OEndsQ own_P 0 903 [qr 0, qr 1, qi v2, qi v3, qi v4, qu, qu, qu, qu, ql v9, qw, ql v11, qw, qi v13, qi v14, qi v15, qu, qi v17, qu, qu, qi v20, qu, ql v22, qw, qi v24, qi v25, qu, qu, qu, qu] [] (qa scr :: bk0 zx zy zao zae zal zam zap zaj zac zad zab zaf zag zah zv zw zz zan zak zaa zai []) _
      exact ok_L_law_903 hkb h
theorem ok_L_law_777 {scr : List Int32} {kb : List Int32 → List Int32 → List Int32 → List Int32 → List Int32 → List Int64 → List Int32 → List Int32 → List Int32 → List Int32 → List Int32 → List Int32 → List Int32 → List Int32 → Int32 → Int32 → Int32 → Int64 → Int32 → Int32 → Int32 → Int32 → Int32 → Int32 → Option (Int32)} (hkb : ∀ {zx zy zao zae zal : List Int32} {zam : List Int64} {zap zaj zac zad zab zaf zag zah : List Int32} {zv zw zz : Int32} {zan : Int64} {zak zaa zai v2 v3 v4 : Int32} {d5 d6 d7 d8 d9 d10 d11 d12 d13 d14 d15 d16 d17 d18 d19 d20 d21 d22 d23 d24 d25 d26 d27 d28 d29 : Slot} {res : Int32}, kb zx zy zao zae zal zam zap zaj zac zad zab zaf zag zah zv zw zz zan zak zaa zai v2 v3 v4 = some res → OEndsQ own_P 0 36 [qr 0, qr 1, qi v2, qi v3, qi v4, d5, d6, d7, d8, d9, d10, d11, d12, d13, d14, d15, d16, d17, d18, d19, d20, d21, d22, d23, d24, d25, d26, d27, d28, d29] [] (qa scr :: bk0 zx zy zao zae zal zam zap zaj zac zad zab zaf zag zah zv zw zz zan zak zaa zai []) (LawQ res 0 0)) : ∀ {zx zy zao zae zal : List Int32} {zam : List Int64} {zap zaj zac zad zab zaf zag zah : List Int32} {zv zw zz : Int32} {zan : Int64} {zak zaa zai v2 v3 v4 : Int32} {v9 v11 : Int64} {v13 v14 v15 v16 v17 v19 v20 : Int32} {v22 : Int64} {d5 d6 d7 d8 d18 d21 d24 d25 d26 d27 d28 d29 : Slot} {res : Int32}, f_L_law_777 kb scr zx zy zao zae zal zam zap zaj zac zad zab zaf zag zah zv zw zz zan zak zaa zai v2 v3 v4 v9 v11 v13 v14 v15 v16 v17 v19 v20 v22 = some res → OEndsQ own_P 0 777 [qr 0, qr 1, qi v2, qi v3, qi v4, d5, d6, d7, d8, ql v9, qw, ql v11, qw, qi v13, qi v14, qi v15, qi v16, qi v17, d18, qi v19, qi v20, d21, ql v22, qw, d24, d25, d26, d27, d28, d29] [] (qa scr :: bk0 zx zy zao zae zal zam zap zaj zac zad zab zaf zag zah zv zw zz zan zak zaa zai []) (LawQ res 0 0) := by
  intro zx zy zao zae zal zam zap zaj zac zad zab zaf zag zah zv zw zz zan zak zaa zai v2 v3 v4 v9 v11 v13 v14 v15 v16 v17 v19 v20 v22 d5 d6 d7 d8 d18 d21 d24 d25 d26 d27 d28 d29 res h
  unfold f_L_law_777 at h
  refine OEndsQ.adv hm_0 4 (pc' := 783) (L' := [qr 0, qr 1, qi v2, qi v3, qi v4, qu, qu, qu, qu, ql v9, qw, ql v11, qw, qi v13, qi v14, qi v15, qi v16, qi v17, qu, qi v19, qi v20, qu, ql v22, qw, qu, qu, qu, qu, qu, qu]) (S' := [.int (XT.cmpL v22 v20.toInt64)]) (H' := (qa scr :: bk0 zx zy zao zae zal zam zap zaj zac zad zab zaf zag zah zv zw zz zan zak zaa zai [])) rfl ?_
  by_cases hc136 : v22 = v20.toInt64
  · simp only [if_pos hc136] at h
    refine OEndsQ.ifF hm_0 rfl ((teq (c_eq.mpr hc136)).2) ?_
    refine OEndsQ.adv hm_0 2 (pc' := 790) (L' := [qr 0, qr 1, qi v2, qi v3, qi v4, qu, qu, qu, qu, ql v9, qw, ql v11, qw, qi v13, qi v14, qi v15, qi v16, qi v17, qu, qi v19, qi v20, qu, ql v22, qw, qu, qu, qu, qu, qu, qu]) (S' := [.int v17, .int v20]) (H' := (qa scr :: bk0 zx zy zao zae zal zam zap zaj zac zad zab zaf zag zah zv zw zz zan zak zaa zai [])) rfl ?_
    by_cases hc137 : v17 < v20
    · simp only [if_pos hc137] at h
      refine OEndsQ.icmpF hm_0 rfl ((tlt hc137).2.2.2) ?_
      refine OEndsQ.adv hm_0 1 (pc' := 794) (L' := [qr 0, qr 1, qi v2, qi v3, qi v4, qu, qu, qu, qu, ql v9, qw, ql v11, qw, qi v13, qi v14, qi v15, qi v16, qi v17, qu, qi v19, qi v20, qu, ql v22, qw, qu, qu, qu, qu, qu, qu]) (S' := [.int 0]) (H' := (qa scr :: bk0 zx zy zao zae zal zam zap zaj zac zad zab zaf zag zah zv zw zz zan zak zaa zai [])) rfl ?_
      cases h
      exact OEndsQ.iret hm_0 rfl rfl
    · simp only [if_neg hc137] at h
      refine OEndsQ.icmpT hm_0 rfl (q := 795) rfl ((flt hc137).2.2.2) ?_
      refine OEndsQ.adv hm_0 2 (pc' := 798) (L' := [qr 0, qr 1, qi v2, qi v3, qi v4, qu, qu, qu, qu, ql v9, qw, ql v11, qw, qi v13, qi v14, qi v15, qi v16, qi v17, qu, qi v19, qi v20, qu, ql v22, qw, qu, qu, qu, qu, qu, qu]) (S' := [.int v19, .ref 1]) (H' := (qa scr :: bk0 zx zy zao zae zal zam zap zaj zac zad zab zaf zag zah zv zw zz zan zak zaa zai [])) rfl ?_
      obtain ⟨r228, hq138, h⟩ := bnd h
      refine OEndsQ.call0 hm_0 rfl rfl (by decide) rfl (as := [.ref 1, .int v19]) (rest := []) rfl rfl (ok_status hq138) ?_
      refine OEndsQ.adv hm_0 3 (pc' := 806) (L' := [qr 0, qr 1, qi v2, qi v3, qi v4, qu, qu, qu, qu, ql v9, qw, ql v11, qw, qi v13, qi v14, qi v15, qi v16, qi v17, qu, qi v19, qi v20, qu, ql v22, qw, qi r228, qu, qu, qu, qu, qu]) (S' := [.int v19, .ref 1]) (H' := (qa scr :: bk0 zx zy zao zae zal zam zap zaj zac zad zab zaf zag zah zv zw zz zan zak zaa zai [])) rfl ?_
      obtain ⟨r229, hq139, h⟩ := bnd h
      refine OEndsQ.call0 hm_0 rfl rfl (by decide) rfl (as := [.ref 1, .int v19]) (rest := []) rfl rfl (ok_remaining hq139) ?_
      refine OEndsQ.adv hm_0 3 (pc' := 815) (L' := [qr 0, qr 1, qi v2, qi v3, qi v4, qu, qu, qu, qu, ql v9, qw, ql v11, qw, qi v13, qi v14, qi v15, qi v16, qi v17, qu, qi v19, qi v20, qu, ql v22, qw, qi r228, qi r229, qu, qu, qu, qu]) (S' := [.int v17, .int v20]) (H' := (qa scr :: bk0 zx zy zao zae zal zam zap zaj zac zad zab zaf zag zah zv zw zz zan zak zaa zai [])) rfl ?_
      by_cases hc140 : v20 = v17
      · simp only [if_pos hc140] at h
        refine OEndsQ.icmpF hm_0 rfl ((teq hc140).2) ?_
        refine OEndsQ.adv hm_0 2 (pc' := 821) (L' := [qr 0, qr 1, qi v2, qi v3, qi v4, qu, qu, qu, qu, ql v9, qw, ql v11, qw, qi v13, qi v14, qi v15, qi v16, qi v17, qu, qi v19, qi v20, qu, ql v22, qw, qi r228, qi r229, qu, qu, qu, qu]) (S' := [.int 2, .int r228]) (H' := (qa scr :: bk0 zx zy zao zae zal zam zap zaj zac zad zab zaf zag zah zv zw zz zan zak zaa zai [])) rfl ?_
        by_cases hc141 : r228 = (2 : Int32)
        · simp only [if_pos hc141] at h
          refine OEndsQ.icmpF hm_0 rfl ((teq hc141).2) ?_
          refine OEndsQ.adv hm_0 1 (pc' := 826) (L' := [qr 0, qr 1, qi v2, qi v3, qi v4, qu, qu, qu, qu, ql v9, qw, ql v11, qw, qi v13, qi v14, qi v15, qi v16, qi v17, qu, qi v19, qi v20, qu, ql v22, qw, qi r228, qi r229, qu, qu, qu, qu]) (S' := [.int r229]) (H' := (qa scr :: bk0 zx zy zao zae zal zam zap zaj zac zad zab zaf zag zah zv zw zz zan zak zaa zai [])) rfl ?_
          by_cases hc142 : r229 = (0 : Int32)
          · simp only [if_pos hc142] at h
            refine OEndsQ.ifT hm_0 rfl (q := 916) rfl ((teq hc142).1) ?_
            show OEndsQ own_P 0 916 [qr 0, qr 1, qi v2, qi v3, qi v4, qu, qu, qu, qu, ql v9, qw, ql v11, qw, qi v13, qi v14, qi v15, qi v16, qi v17, qu, qi v19, qi v20, qu, ql v22, qw, qi r228, qi r229, qu, qu, qu, qu] [] (qa scr :: bk0 zx zy zao zae zal zam zap zaj zac zad zab zaf zag zah zv zw zz zan zak zaa zai []) _
            exact ok_L_law_916 hkb h
          · simp only [if_neg hc142] at h
            refine OEndsQ.ifF hm_0 rfl ((feq hc142).1) ?_
            refine OEndsQ.adv hm_0 1 (pc' := 830) (L' := [qr 0, qr 1, qi v2, qi v3, qi v4, qu, qu, qu, qu, ql v9, qw, ql v11, qw, qi v13, qi v14, qi v15, qi v16, qi v17, qu, qi v19, qi v20, qu, ql v22, qw, qi r228, qi r229, qu, qu, qu, qu]) (S' := [.int 0]) (H' := (qa scr :: bk0 zx zy zao zae zal zam zap zaj zac zad zab zaf zag zah zv zw zz zan zak zaa zai [])) rfl ?_
            cases h
            exact OEndsQ.iret hm_0 rfl rfl
        · simp only [if_neg hc141] at h
          refine OEndsQ.icmpT hm_0 rfl (q := 829) rfl ((feq hc141).2) ?_
          refine OEndsQ.adv hm_0 1 (pc' := 830) (L' := [qr 0, qr 1, qi v2, qi v3, qi v4, qu, qu, qu, qu, ql v9, qw, ql v11, qw, qi v13, qi v14, qi v15, qi v16, qi v17, qu, qi v19, qi v20, qu, ql v22, qw, qi r228, qi r229, qu, qu, qu, qu]) (S' := [.int 0]) (H' := (qa scr :: bk0 zx zy zao zae zal zam zap zaj zac zad zab zaf zag zah zv zw zz zan zak zaa zai [])) rfl ?_
          cases h
          exact OEndsQ.iret hm_0 rfl rfl
      · simp only [if_neg hc140] at h
        refine OEndsQ.icmpT hm_0 rfl (q := 831) rfl ((feq hc140).2) ?_
        refine OEndsQ.adv hm_0 2 (pc' := 834) (L' := [qr 0, qr 1, qi v2, qi v3, qi v4, qu, qu, qu, qu, ql v9, qw, ql v11, qw, qi v13, qi v14, qi v15, qi v16, qi v17, qu, qi v19, qi v20, qu, ql v22, qw, qi r228, qi r229, qu, qu, qu, qu]) (S' := [.int v14, .ref 1]) (H' := (qa scr :: bk0 zx zy zao zae zal zam zap zaj zac zad zab zaf zag zah zv zw zz zan zak zaa zai [])) rfl ?_
        obtain ⟨r230, hq143, h⟩ := bnd h
        refine OEndsQ.call0 hm_0 rfl rfl (by decide) rfl (as := [.ref 1, .int v14]) (rest := []) rfl rfl (ok_bestPrice hq143) ?_
        refine OEndsQ.adv hm_0 2 (pc' := 841) (L' := [qr 0, qr 1, qi v2, qi v3, qi v4, qu, qu, qu, qu, ql v9, qw, ql v11, qw, qi v13, qi v14, qi v15, qi v16, qi v17, qu, qi v19, qi v20, qu, ql v22, qw, qi r228, qi r229, qi r230, qu, qu, qu]) (S' := [.int r230]) (H' := (qa scr :: bk0 zx zy zao zae zal zam zap zaj zac zad zab zaf zag zah zv zw zz zan zak zaa zai [])) rfl ?_
        by_cases hc144 : r230 = (0 : Int32)
        · simp only [if_pos hc144] at h
          refine OEndsQ.ifT hm_0 rfl (q := 868) rfl ((teq hc144).1) ?_
          show OEndsQ own_P 0 868 [qr 0, qr 1, qi v2, qi v3, qi v4, qu, qu, qu, qu, ql v9, qw, ql v11, qw, qi v13, qi v14, qi v15, qi v16, qi v17, qu, qi v19, qi v20, qu, ql v22, qw, qi r228, qi r229, qi r230, qu, qu, qu] [] (qa scr :: bk0 zx zy zao zae zal zam zap zaj zac zad zab zaf zag zah zv zw zz zan zak zaa zai []) _
          exact ok_L_law_868 hkb h
        · simp only [if_neg hc144] at h
          refine OEndsQ.ifF hm_0 rfl ((feq hc144).1) ?_
          refine OEndsQ.adv hm_0 1 (pc' := 846) (L' := [qr 0, qr 1, qi v2, qi v3, qi v4, qu, qu, qu, qu, ql v9, qw, ql v11, qw, qi v13, qi v14, qi v15, qi v16, qi v17, qu, qi v19, qi v20, qu, ql v22, qw, qi r228, qi r229, qi r230, qu, qu, qu]) (S' := [.int v13]) (H' := (qa scr :: bk0 zx zy zao zae zal zam zap zaj zac zad zab zaf zag zah zv zw zz zan zak zaa zai [])) rfl ?_
          by_cases hc145 : v13 = (0 : Int32)
          · simp only [if_pos hc145] at h
            refine OEndsQ.ifF hm_0 rfl ((teq hc145).2) ?_
            refine OEndsQ.adv hm_0 2 (pc' := 853) (L' := [qr 0, qr 1, qi v2, qi v3, qi v4, qu, qu, qu, qu, ql v9, qw, ql v11, qw, qi v13, qi v14, qi v15, qi v16, qi v17, qu, qi v19, qi v20, qu, ql v22, qw, qi r228, qi r229, qi r230, qu, qu, qu]) (S' := [.int v16, .int r230]) (H' := (qa scr :: bk0 zx zy zao zae zal zam zap zaj zac zad zab zaf zag zah zv zw zz zan zak zaa zai [])) rfl ?_
            by_cases hc146 : v16 < r230
            · simp only [if_pos hc146] at h
              refine OEndsQ.icmpT hm_0 rfl (q := 868) rfl ((tlt hc146).2.2.1) ?_
              show OEndsQ own_P 0 868 [qr 0, qr 1, qi v2, qi v3, qi v4, qu, qu, qu, qu, ql v9, qw, ql v11, qw, qi v13, qi v14, qi v15, qi v16, qi v17, qu, qi v19, qi v20, qu, ql v22, qw, qi r228, qi r229, qi r230, qu, qu, qu] [] (qa scr :: bk0 zx zy zao zae zal zam zap zaj zac zad zab zaf zag zah zv zw zz zan zak zaa zai []) _
              exact ok_L_law_868 hkb h
            · simp only [if_neg hc146] at h
              refine OEndsQ.icmpF hm_0 rfl ((flt hc146).2.2.1) ?_
              refine OEndsQ.adv hm_0 2 (pc' := 867) (L' := [qr 0, qr 1, qi v2, qi v3, qi v4, qu, qu, qu, qu, ql v9, qw, ql v11, qw, qi v13, qi v14, qi v15, qi v16, qi v17, qu, qi v19, qi v20, qu, ql v22, qw, qi r228, qi r229, qi r230, qu, qu, qu]) (S' := [.int 0]) (H' := (qa scr :: bk0 zx zy zao zae zal zam zap zaj zac zad zab zaf zag zah zv zw zz zan zak zaa zai [])) rfl ?_
              cases h
              exact OEndsQ.iret hm_0 rfl rfl
          · simp only [if_neg hc145] at h
            refine OEndsQ.ifT hm_0 rfl (q := 859) rfl ((feq hc145).2) ?_
            refine OEndsQ.adv hm_0 2 (pc' := 863) (L' := [qr 0, qr 1, qi v2, qi v3, qi v4, qu, qu, qu, qu, ql v9, qw, ql v11, qw, qi v13, qi v14, qi v15, qi v16, qi v17, qu, qi v19, qi v20, qu, ql v22, qw, qi r228, qi r229, qi r230, qu, qu, qu]) (S' := [.int v16, .int r230]) (H' := (qa scr :: bk0 zx zy zao zae zal zam zap zaj zac zad zab zaf zag zah zv zw zz zan zak zaa zai [])) rfl ?_
            by_cases hc147 : r230 < v16
            · simp only [if_pos hc147] at h
              refine OEndsQ.icmpT hm_0 rfl (q := 868) rfl ((tlt hc147).1) ?_
              show OEndsQ own_P 0 868 [qr 0, qr 1, qi v2, qi v3, qi v4, qu, qu, qu, qu, ql v9, qw, ql v11, qw, qi v13, qi v14, qi v15, qi v16, qi v17, qu, qi v19, qi v20, qu, ql v22, qw, qi r228, qi r229, qi r230, qu, qu, qu] [] (qa scr :: bk0 zx zy zao zae zal zam zap zaj zac zad zab zaf zag zah zv zw zz zan zak zaa zai []) _
              exact ok_L_law_868 hkb h
            · simp only [if_neg hc147] at h
              refine OEndsQ.icmpF hm_0 rfl ((flt hc147).1) ?_
              refine OEndsQ.adv hm_0 1 (pc' := 867) (L' := [qr 0, qr 1, qi v2, qi v3, qi v4, qu, qu, qu, qu, ql v9, qw, ql v11, qw, qi v13, qi v14, qi v15, qi v16, qi v17, qu, qi v19, qi v20, qu, ql v22, qw, qi r228, qi r229, qi r230, qu, qu, qu]) (S' := [.int 0]) (H' := (qa scr :: bk0 zx zy zao zae zal zam zap zaj zac zad zab zaf zag zah zv zw zz zan zak zaa zai [])) rfl ?_
              cases h
              exact OEndsQ.iret hm_0 rfl rfl
  · simp only [if_neg hc136] at h
    refine OEndsQ.ifT hm_0 rfl (q := 793) rfl ((feq (mt c_eq.mp hc136)).2) ?_
    refine OEndsQ.adv hm_0 1 (pc' := 794) (L' := [qr 0, qr 1, qi v2, qi v3, qi v4, qu, qu, qu, qu, ql v9, qw, ql v11, qw, qi v13, qi v14, qi v15, qi v16, qi v17, qu, qi v19, qi v20, qu, ql v22, qw, qu, qu, qu, qu, qu, qu]) (S' := [.int 0]) (H' := (qa scr :: bk0 zx zy zao zae zal zam zap zaj zac zad zab zaf zag zah zv zw zz zan zak zaa zai [])) rfl ?_
    cases h
    exact OEndsQ.iret hm_0 rfl rfl
theorem ok_L_law_763 {scr : List Int32} {kb : List Int32 → List Int32 → List Int32 → List Int32 → List Int32 → List Int64 → List Int32 → List Int32 → List Int32 → List Int32 → List Int32 → List Int32 → List Int32 → List Int32 → Int32 → Int32 → Int32 → Int64 → Int32 → Int32 → Int32 → Int32 → Int32 → Int32 → Int64 → Int64 → Int32 → Int32 → Int32 → Int32 → Int32 → Int32 → Int32 → Int32 → Int64 → Int32 → Option (Int32)} {k777 : List Int32 → List Int32 → List Int32 → List Int32 → List Int32 → List Int64 → List Int32 → List Int32 → List Int32 → List Int32 → List Int32 → List Int32 → List Int32 → List Int32 → Int32 → Int32 → Int32 → Int64 → Int32 → Int32 → Int32 → Int32 → Int32 → Int32 → Int64 → Int64 → Int32 → Int32 → Int32 → Int32 → Int32 → Int32 → Int32 → Int64 → Option (Int32)} (hkb : ∀ {zx zy zao zae zal : List Int32} {zam : List Int64} {zap zaj zac zad zab zaf zag zah : List Int32} {zv zw zz : Int32} {zan : Int64} {zak zaa zai v2 v3 v4 : Int32} {v9 v11 : Int64} {v13 v14 v15 v16 v17 v19 v20 v21 : Int32} {v22 : Int64} {v24 : Int32} {d5 d6 d7 d8 d18 d25 d26 d27 d28 d29 : Slot} {res : Int32}, kb zx zy zao zae zal zam zap zaj zac zad zab zaf zag zah zv zw zz zan zak zaa zai v2 v3 v4 v9 v11 v13 v14 v15 v16 v17 v19 v20 v21 v22 v24 = some res → OEndsQ own_P 0 522 [qr 0, qr 1, qi v2, qi v3, qi v4, d5, d6, d7, d8, ql v9, qw, ql v11, qw, qi v13, qi v14, qi v15, qi v16, qi v17, d18, qi v19, qi v20, qi v21, ql v22, qw, qi v24, d25, d26, d27, d28, d29] [] (qa scr :: bk0 zx zy zao zae zal zam zap zaj zac zad zab zaf zag zah zv zw zz zan zak zaa zai []) (LawQ res 0 0)) (hk777 : ∀ {zx zy zao zae zal : List Int32} {zam : List Int64} {zap zaj zac zad zab zaf zag zah : List Int32} {zv zw zz : Int32} {zan : Int64} {zak zaa zai v2 v3 v4 : Int32} {v9 v11 : Int64} {v13 v14 v15 v16 v17 v19 v20 : Int32} {v22 : Int64} {d5 d6 d7 d8 d18 d21 d24 d25 d26 d27 d28 d29 : Slot} {res : Int32}, k777 zx zy zao zae zal zam zap zaj zac zad zab zaf zag zah zv zw zz zan zak zaa zai v2 v3 v4 v9 v11 v13 v14 v15 v16 v17 v19 v20 v22 = some res → OEndsQ own_P 0 777 [qr 0, qr 1, qi v2, qi v3, qi v4, d5, d6, d7, d8, ql v9, qw, ql v11, qw, qi v13, qi v14, qi v15, qi v16, qi v17, d18, qi v19, qi v20, d21, ql v22, qw, d24, d25, d26, d27, d28, d29] [] (qa scr :: bk0 zx zy zao zae zal zam zap zaj zac zad zab zaf zag zah zv zw zz zan zak zaa zai []) (LawQ res 0 0)) : ∀ {zx zy zao zae zal : List Int32} {zam : List Int64} {zap zaj zac zad zab zaf zag zah : List Int32} {zv zw zz : Int32} {zan : Int64} {zak zaa zai v2 v3 v4 : Int32} {v9 v11 : Int64} {v13 v14 v15 v16 v17 v19 v20 v21 : Int32} {v22 : Int64} {v24 v26 : Int32} {d5 d6 d7 d8 d18 d25 d27 d28 d29 : Slot} {res : Int32}, f_L_law_763 kb k777 scr zx zy zao zae zal zam zap zaj zac zad zab zaf zag zah zv zw zz zan zak zaa zai v2 v3 v4 v9 v11 v13 v14 v15 v16 v17 v19 v20 v21 v22 v24 v26 = some res → OEndsQ own_P 0 763 [qr 0, qr 1, qi v2, qi v3, qi v4, d5, d6, d7, d8, ql v9, qw, ql v11, qw, qi v13, qi v14, qi v15, qi v16, qi v17, d18, qi v19, qi v20, qi v21, ql v22, qw, qi v24, d25, qi v26, d27, d28, d29] [] (qa scr :: bk0 zx zy zao zae zal zam zap zaj zac zad zab zaf zag zah zv zw zz zan zak zaa zai []) (LawQ res 0 0) := by
  intro zx zy zao zae zal zam zap zaj zac zad zab zaf zag zah zv zw zz zan zak zaa zai v2 v3 v4 v9 v11 v13 v14 v15 v16 v17 v19 v20 v21 v22 v24 v26 d5 d6 d7 d8 d18 d25 d27 d28 d29 res h
  unfold f_L_law_763 at h
  refine OEndsQ.adv hm_0 7 (pc' := 522) (L' := [qr 0, qr 1, qi v2, qi v3, qi v4, qu, qu, qu, qu, ql v9, qw, ql v11, qw, qi v13, qi v14, qi v15, qi v16, qi v17, qu, qi v19, qi v20, qi v21, ql (v22 + v26.toInt64), qw, qi (v24 + (1 : Int32)), qu, qi v26, qu, qu, qu]) (S' := []) (H' := (qa scr :: bk0 zx zy zao zae zal zam zap zaj zac zad zab zaf zag zah zv zw zz zan zak zaa zai [])) rfl ?_
  exact hkb h
theorem ok_L_law_727 {scr : List Int32} {kb : List Int32 → List Int32 → List Int32 → List Int32 → List Int32 → List Int64 → List Int32 → List Int32 → List Int32 → List Int32 → List Int32 → List Int32 → List Int32 → List Int32 → Int32 → Int32 → Int32 → Int64 → Int32 → Int32 → Int32 → Int32 → Int32 → Int32 → Int64 → Int64 → Int32 → Int32 → Int32 → Int32 → Int32 → Int32 → Int32 → Int32 → Int64 → Int32 → Option (Int32)} {k777 : List Int32 → List Int32 → List Int32 → List Int32 → List Int32 → List Int64 → List Int32 → List Int32 → List Int32 → List Int32 → List Int32 → List Int32 → List Int32 → List Int32 → Int32 → Int32 → Int32 → Int64 → Int32 → Int32 → Int32 → Int32 → Int32 → Int32 → Int64 → Int64 → Int32 → Int32 → Int32 → Int32 → Int32 → Int32 → Int32 → Int64 → Option (Int32)} (hkb : ∀ {zx zy zao zae zal : List Int32} {zam : List Int64} {zap zaj zac zad zab zaf zag zah : List Int32} {zv zw zz : Int32} {zan : Int64} {zak zaa zai v2 v3 v4 : Int32} {v9 v11 : Int64} {v13 v14 v15 v16 v17 v19 v20 v21 : Int32} {v22 : Int64} {v24 : Int32} {d5 d6 d7 d8 d18 d25 d26 d27 d28 d29 : Slot} {res : Int32}, kb zx zy zao zae zal zam zap zaj zac zad zab zaf zag zah zv zw zz zan zak zaa zai v2 v3 v4 v9 v11 v13 v14 v15 v16 v17 v19 v20 v21 v22 v24 = some res → OEndsQ own_P 0 522 [qr 0, qr 1, qi v2, qi v3, qi v4, d5, d6, d7, d8, ql v9, qw, ql v11, qw, qi v13, qi v14, qi v15, qi v16, qi v17, d18, qi v19, qi v20, qi v21, ql v22, qw, qi v24, d25, d26, d27, d28, d29] [] (qa scr :: bk0 zx zy zao zae zal zam zap zaj zac zad zab zaf zag zah zv zw zz zan zak zaa zai []) (LawQ res 0 0)) (hk777 : ∀ {zx zy zao zae zal : List Int32} {zam : List Int64} {zap zaj zac zad zab zaf zag zah : List Int32} {zv zw zz : Int32} {zan : Int64} {zak zaa zai v2 v3 v4 : Int32} {v9 v11 : Int64} {v13 v14 v15 v16 v17 v19 v20 : Int32} {v22 : Int64} {d5 d6 d7 d8 d18 d21 d24 d25 d26 d27 d28 d29 : Slot} {res : Int32}, k777 zx zy zao zae zal zam zap zaj zac zad zab zaf zag zah zv zw zz zan zak zaa zai v2 v3 v4 v9 v11 v13 v14 v15 v16 v17 v19 v20 v22 = some res → OEndsQ own_P 0 777 [qr 0, qr 1, qi v2, qi v3, qi v4, d5, d6, d7, d8, ql v9, qw, ql v11, qw, qi v13, qi v14, qi v15, qi v16, qi v17, d18, qi v19, qi v20, d21, ql v22, qw, d24, d25, d26, d27, d28, d29] [] (qa scr :: bk0 zx zy zao zae zal zam zap zaj zac zad zab zaf zag zah zv zw zz zan zak zaa zai []) (LawQ res 0 0)) : ∀ {zx zy zao zae zal : List Int32} {zam : List Int64} {zap zaj zac zad zab zaf zag zah : List Int32} {zv zw zz : Int32} {zan : Int64} {zak zaa zai v2 v3 v4 : Int32} {v9 v11 : Int64} {v13 v14 v15 v16 v17 v19 v20 v21 : Int32} {v22 : Int64} {v24 v26 v27 t0 : Int32} {d5 d6 d7 d8 d18 d25 d28 d29 : Slot} {res : Int32}, f_L_law_727 kb k777 scr zx zy zao zae zal zam zap zaj zac zad zab zaf zag zah zv zw zz zan zak zaa zai v2 v3 v4 v9 v11 v13 v14 v15 v16 v17 v19 v20 v21 v22 v24 v26 v27 t0 = some res → OEndsQ own_P 0 727 [qr 0, qr 1, qi v2, qi v3, qi v4, d5, d6, d7, d8, ql v9, qw, ql v11, qw, qi v13, qi v14, qi v15, qi v16, qi v17, d18, qi v19, qi v20, qi v21, ql v22, qw, qi v24, d25, qi v26, qi v27, d28, d29] [.int t0] (qa scr :: bk0 zx zy zao zae zal zam zap zaj zac zad zab zaf zag zah zv zw zz zan zak zaa zai []) (LawQ res 0 0) := by
  intro zx zy zao zae zal zam zap zaj zac zad zab zaf zag zah zv zw zz zan zak zaa zai v2 v3 v4 v9 v11 v13 v14 v15 v16 v17 v19 v20 v21 v22 v24 v26 v27 t0 d5 d6 d7 d8 d18 d25 d28 d29 res h
  unfold f_L_law_727 at h
  refine OEndsQ.adv hm_0 2 (pc' := 731) (L' := [qr 0, qr 1, qi v2, qi v3, qi v4, qu, qu, qu, qu, ql v9, qw, ql v11, qw, qi v13, qi v14, qi v15, qi v16, qi v17, qu, qi v19, qi v20, qi v21, ql v22, qw, qi v24, qu, qi v26, qi v27, qu, qi t0]) (S' := [.int t0]) (H' := (qa scr :: bk0 zx zy zao zae zal zam zap zaj zac zad zab zaf zag zah zv zw zz zan zak zaa zai [])) rfl ?_
  by_cases hc148 : t0 = (0 : Int32)
  · simp only [if_pos hc148] at h
    refine OEndsQ.ifT hm_0 rfl (q := 763) rfl ((teq hc148).1) ?_
    show OEndsQ own_P 0 763 [qr 0, qr 1, qi v2, qi v3, qi v4, qu, qu, qu, qu, ql v9, qw, ql v11, qw, qi v13, qi v14, qi v15, qi v16, qi v17, qu, qi v19, qi v20, qi v21, ql v22, qw, qi v24, qu, qi v26, qi v27, qu, qi t0] [] (qa scr :: bk0 zx zy zao zae zal zam zap zaj zac zad zab zaf zag zah zv zw zz zan zak zaa zai []) _
    exact ok_L_law_763 hkb hk777 h
  · simp only [if_neg hc148] at h
    refine OEndsQ.ifF hm_0 rfl ((feq hc148).1) ?_
    refine OEndsQ.adv hm_0 3 (pc' := 739) (L' := [qr 0, qr 1, qi v2, qi v3, qi v4, qu, qu, qu, qu, ql v9, qw, ql v11, qw, qi v13, qi v14, qi v15, qi v16, qi v17, qu, qi v19, qi v20, qi v21, ql v22, qw, qi v24, qu, qi v26, qi v27, qu, qi t0]) (S' := [.int v27, .int v14, .ref 1]) (H' := (qa scr :: bk0 zx zy zao zae zal zam zap zaj zac zad zab zaf zag zah zv zw zz zan zak zaa zai [])) rfl ?_
    obtain ⟨r227, hq149, h⟩ := bnd h
    refine OEndsQ.call0 hm_0 rfl rfl (by decide) rfl (as := [.ref 1, .int v14, .int v27]) (rest := []) rfl rfl (ok_depthAt hq149) ?_
    show OEndsQ own_P 0 742 [qr 0, qr 1, qi v2, qi v3, qi v4, qu, qu, qu, qu, ql v9, qw, ql v11, qw, qi v13, qi v14, qi v15, qi v16, qi v17, qu, qi v19, qi v20, qi v21, ql v22, qw, qi v24, qu, qi v26, qi v27, qu, qi t0] [.int r227] (qa scr :: bk0 zx zy zao zae zal zam zap zaj zac zad zab zaf zag zah zv zw zz zan zak zaa zai []) _
    by_cases hc150 : r227 = (0 : Int32)
    · simp only [if_pos hc150] at h
      refine OEndsQ.ifT hm_0 rfl (q := 763) rfl ((teq hc150).1) ?_
      show OEndsQ own_P 0 763 [qr 0, qr 1, qi v2, qi v3, qi v4, qu, qu, qu, qu, ql v9, qw, ql v11, qw, qi v13, qi v14, qi v15, qi v16, qi v17, qu, qi v19, qi v20, qi v21, ql v22, qw, qi v24, qu, qi v26, qi v27, qu, qi t0] [] (qa scr :: bk0 zx zy zao zae zal zam zap zaj zac zad zab zaf zag zah zv zw zz zan zak zaa zai []) _
      exact ok_L_law_763 hkb hk777 h
    · simp only [if_neg hc150] at h
      refine OEndsQ.ifF hm_0 rfl ((feq hc150).1) ?_
      refine OEndsQ.adv hm_0 4 (pc' := 751) (L' := [qr 0, qr 1, qi v2, qi v3, qi v4, qu, qu, qu, qu, ql v9, qw, ql v11, qw, qi v13, qi v14, qi v15, qi v16, qi v17, qu, qi v19, qi v20, qi v21, ql v22, qw, qi v24, qu, qi v26, qi v27, qu, qi t0]) (S' := [.int (v21 - (1 : Int32)), .int v24]) (H' := (qa scr :: bk0 zx zy zao zae zal zam zap zaj zac zad zab zaf zag zah zv zw zz zan zak zaa zai [])) rfl ?_
      by_cases hc151 : v24 = (v21 - (1 : Int32))
      · simp only [if_pos hc151] at h
        refine OEndsQ.icmpF hm_0 rfl ((teq hc151).2) ?_
        refine OEndsQ.adv hm_0 2 (pc' := 758) (L' := [qr 0, qr 1, qi v2, qi v3, qi v4, qu, qu, qu, qu, ql v9, qw, ql v11, qw, qi v13, qi v14, qi v15, qi v16, qi v17, qu, qi v19, qi v20, qi v21, ql v22, qw, qi v24, qu, qi v26, qi v27, qu, qi t0]) (S' := [.int v17, .int v20]) (H' := (qa scr :: bk0 zx zy zao zae zal zam zap zaj zac zad zab zaf zag zah zv zw zz zan zak zaa zai [])) rfl ?_
        by_cases hc152 : v20 = v17
        · simp only [if_pos hc152] at h
          refine OEndsQ.icmpT hm_0 rfl (q := 763) rfl ((teq hc152).1) ?_
          show OEndsQ own_P 0 763 [qr 0, qr 1, qi v2, qi v3, qi v4, qu, qu, qu, qu, ql v9, qw, ql v11, qw, qi v13, qi v14, qi v15, qi v16, qi v17, qu, qi v19, qi v20, qi v21, ql v22, qw, qi v24, qu, qi v26, qi v27, qu, qi t0] [] (qa scr :: bk0 zx zy zao zae zal zam zap zaj zac zad zab zaf zag zah zv zw zz zan zak zaa zai []) _
          exact ok_L_law_763 hkb hk777 h
        · simp only [if_neg hc152] at h
          refine OEndsQ.icmpF hm_0 rfl ((feq hc152).1) ?_
          refine OEndsQ.adv hm_0 1 (pc' := 762) (L' := [qr 0, qr 1, qi v2, qi v3, qi v4, qu, qu, qu, qu, ql v9, qw, ql v11, qw, qi v13, qi v14, qi v15, qi v16, qi v17, qu, qi v19, qi v20, qi v21, ql v22, qw, qi v24, qu, qi v26, qi v27, qu, qi t0]) (S' := [.int 0]) (H' := (qa scr :: bk0 zx zy zao zae zal zam zap zaj zac zad zab zaf zag zah zv zw zz zan zak zaa zai [])) rfl ?_
          cases h
          exact OEndsQ.iret hm_0 rfl rfl
      · simp only [if_neg hc151] at h
        refine OEndsQ.icmpT hm_0 rfl (q := 761) rfl ((feq hc151).2) ?_
        refine OEndsQ.adv hm_0 1 (pc' := 762) (L' := [qr 0, qr 1, qi v2, qi v3, qi v4, qu, qu, qu, qu, ql v9, qw, ql v11, qw, qi v13, qi v14, qi v15, qi v16, qi v17, qu, qi v19, qi v20, qi v21, ql v22, qw, qi v24, qu, qi v26, qi v27, qu, qi t0]) (S' := [.int 0]) (H' := (qa scr :: bk0 zx zy zao zae zal zam zap zaj zac zad zab zaf zag zah zv zw zz zan zak zaa zai [])) rfl ?_
        cases h
        exact OEndsQ.iret hm_0 rfl rfl
theorem ok_L_law_700 {scr : List Int32} {kb : List Int32 → List Int32 → List Int32 → List Int32 → List Int32 → List Int64 → List Int32 → List Int32 → List Int32 → List Int32 → List Int32 → List Int32 → List Int32 → List Int32 → Int32 → Int32 → Int32 → Int64 → Int32 → Int32 → Int32 → Int32 → Int32 → Int32 → Int64 → Int64 → Int32 → Int32 → Int32 → Int32 → Int32 → Int32 → Int32 → Int32 → Int64 → Int32 → Option (Int32)} {k777 : List Int32 → List Int32 → List Int32 → List Int32 → List Int32 → List Int64 → List Int32 → List Int32 → List Int32 → List Int32 → List Int32 → List Int32 → List Int32 → List Int32 → Int32 → Int32 → Int32 → Int64 → Int32 → Int32 → Int32 → Int32 → Int32 → Int32 → Int64 → Int64 → Int32 → Int32 → Int32 → Int32 → Int32 → Int32 → Int32 → Int64 → Option (Int32)} (hkb : ∀ {zx zy zao zae zal : List Int32} {zam : List Int64} {zap zaj zac zad zab zaf zag zah : List Int32} {zv zw zz : Int32} {zan : Int64} {zak zaa zai v2 v3 v4 : Int32} {v9 v11 : Int64} {v13 v14 v15 v16 v17 v19 v20 v21 : Int32} {v22 : Int64} {v24 : Int32} {d5 d6 d7 d8 d18 d25 d26 d27 d28 d29 : Slot} {res : Int32}, kb zx zy zao zae zal zam zap zaj zac zad zab zaf zag zah zv zw zz zan zak zaa zai v2 v3 v4 v9 v11 v13 v14 v15 v16 v17 v19 v20 v21 v22 v24 = some res → OEndsQ own_P 0 522 [qr 0, qr 1, qi v2, qi v3, qi v4, d5, d6, d7, d8, ql v9, qw, ql v11, qw, qi v13, qi v14, qi v15, qi v16, qi v17, d18, qi v19, qi v20, qi v21, ql v22, qw, qi v24, d25, d26, d27, d28, d29] [] (qa scr :: bk0 zx zy zao zae zal zam zap zaj zac zad zab zaf zag zah zv zw zz zan zak zaa zai []) (LawQ res 0 0)) (hk777 : ∀ {zx zy zao zae zal : List Int32} {zam : List Int64} {zap zaj zac zad zab zaf zag zah : List Int32} {zv zw zz : Int32} {zan : Int64} {zak zaa zai v2 v3 v4 : Int32} {v9 v11 : Int64} {v13 v14 v15 v16 v17 v19 v20 : Int32} {v22 : Int64} {d5 d6 d7 d8 d18 d21 d24 d25 d26 d27 d28 d29 : Slot} {res : Int32}, k777 zx zy zao zae zal zam zap zaj zac zad zab zaf zag zah zv zw zz zan zak zaa zai v2 v3 v4 v9 v11 v13 v14 v15 v16 v17 v19 v20 v22 = some res → OEndsQ own_P 0 777 [qr 0, qr 1, qi v2, qi v3, qi v4, d5, d6, d7, d8, ql v9, qw, ql v11, qw, qi v13, qi v14, qi v15, qi v16, qi v17, d18, qi v19, qi v20, d21, ql v22, qw, d24, d25, d26, d27, d28, d29] [] (qa scr :: bk0 zx zy zao zae zal zam zap zaj zac zad zab zaf zag zah zv zw zz zan zak zaa zai []) (LawQ res 0 0)) : ∀ {zx zy zao zae zal : List Int32} {zam : List Int64} {zap zaj zac zad zab zaf zag zah : List Int32} {zv zw zz : Int32} {zan : Int64} {zak zaa zai v2 v3 v4 : Int32} {v9 v11 : Int64} {v13 v14 v15 v16 v17 v19 v20 v21 : Int32} {v22 : Int64} {v24 v26 v27 : Int32} {d5 d6 d7 d8 d18 d25 d28 d29 : Slot} {res : Int32}, f_L_law_700 kb k777 scr zx zy zao zae zal zam zap zaj zac zad zab zaf zag zah zv zw zz zan zak zaa zai v2 v3 v4 v9 v11 v13 v14 v15 v16 v17 v19 v20 v21 v22 v24 v26 v27 = some res → OEndsQ own_P 0 700 [qr 0, qr 1, qi v2, qi v3, qi v4, d5, d6, d7, d8, ql v9, qw, ql v11, qw, qi v13, qi v14, qi v15, qi v16, qi v17, d18, qi v19, qi v20, qi v21, ql v22, qw, qi v24, d25, qi v26, qi v27, d28, d29] [] (qa scr :: bk0 zx zy zao zae zal zam zap zaj zac zad zab zaf zag zah zv zw zz zan zak zaa zai []) (LawQ res 0 0) := by
  intro zx zy zao zae zal zam zap zaj zac zad zab zaf zag zah zv zw zz zan zak zaa zai v2 v3 v4 v9 v11 v13 v14 v15 v16 v17 v19 v20 v21 v22 v24 v26 v27 d5 d6 d7 d8 d18 d25 d28 d29 res h
  unfold f_L_law_700 at h
  refine OEndsQ.adv hm_0 4 (pc' := 706) (L' := [qr 0, qr 1, qi v2, qi v3, qi v4, qu, qu, qu, qu, ql v9, qw, ql v11, qw, qi v13, qi v14, qi v15, qi v16, qi v17, qu, qi v19, qi v20, qi v21, ql v22, qw, qi v24, qu, qi v26, qi v27, qu, qu]) (S' := [.int (v21 - (1 : Int32)), .int v24]) (H' := (qa scr :: bk0 zx zy zao zae zal zam zap zaj zac zad zab zaf zag zah zv zw zz zan zak zaa zai [])) rfl ?_
  by_cases hc153 : v24 = (v21 - (1 : Int32))
  · simp only [if_pos hc153] at h
    refine OEndsQ.icmpT hm_0 rfl (q := 722) rfl ((teq hc153).1) ?_
    refine OEndsQ.adv hm_0 2 (pc' := 727) (L' := [qr 0, qr 1, qi v2, qi v3, qi v4, qu, qu, qu, qu, ql v9, qw, ql v11, qw, qi v13, qi v14, qi v15, qi v16, qi v17, qu, qi v19, qi v20, qi v21, ql v22, qw, qi v24, qu, qi v26, qi v27, qu, qu]) (S' := [.int 1]) (H' := (qa scr :: bk0 zx zy zao zae zal zam zap zaj zac zad zab zaf zag zah zv zw zz zan zak zaa zai [])) rfl ?_
    exact ok_L_law_727 hkb hk777 h
  · simp only [if_neg hc153] at h
    refine OEndsQ.icmpF hm_0 rfl ((feq hc153).1) ?_
    refine OEndsQ.adv hm_0 4 (pc' := 714) (L' := [qr 0, qr 1, qi v2, qi v3, qi v4, qu, qu, qu, qu, ql v9, qw, ql v11, qw, qi v13, qi v14, qi v15, qi v16, qi v17, qu, qi v19, qi v20, qi v21, ql v22, qw, qi v24, qu, qi v26, qi v27, qu, qu]) (S' := [.int (v24 + (1 : Int32)), .ref 1]) (H' := (qa scr :: bk0 zx zy zao zae zal zam zap zaj zac zad zab zaf zag zah zv zw zz zan zak zaa zai [])) rfl ?_
    obtain ⟨r226, hq154, h⟩ := bnd h
    refine OEndsQ.call0 hm_0 rfl rfl (by decide) rfl (as := [.ref 1, .int (v24 + (1 : Int32))]) (rest := []) rfl rfl (ok_fillPrice hq154) ?_
    refine OEndsQ.adv hm_0 1 (pc' := 719) (L' := [qr 0, qr 1, qi v2, qi v3, qi v4, qu, qu, qu, qu, ql v9, qw, ql v11, qw, qi v13, qi v14, qi v15, qi v16, qi v17, qu, qi v19, qi v20, qi v21, ql v22, qw, qi v24, qu, qi v26, qi v27, qu, qu]) (S' := [.int v27, .int r226]) (H' := (qa scr :: bk0 zx zy zao zae zal zam zap zaj zac zad zab zaf zag zah zv zw zz zan zak zaa zai [])) rfl ?_
    by_cases hc155 : r226 = v27
    · simp only [if_pos hc155] at h
      refine OEndsQ.icmpT hm_0 rfl (q := 726) rfl ((teq hc155).1) ?_
      refine OEndsQ.adv hm_0 1 (pc' := 727) (L' := [qr 0, qr 1, qi v2, qi v3, qi v4, qu, qu, qu, qu, ql v9, qw, ql v11, qw, qi v13, qi v14, qi v15, qi v16, qi v17, qu, qi v19, qi v20, qi v21, ql v22, qw, qi v24, qu, qi v26, qi v27, qu, qu]) (S' := [.int 0]) (H' := (qa scr :: bk0 zx zy zao zae zal zam zap zaj zac zad zab zaf zag zah zv zw zz zan zak zaa zai [])) rfl ?_
      exact ok_L_law_727 hkb hk777 h
    · simp only [if_neg hc155] at h
      refine OEndsQ.icmpF hm_0 rfl ((feq hc155).1) ?_
      refine OEndsQ.adv hm_0 2 (pc' := 727) (L' := [qr 0, qr 1, qi v2, qi v3, qi v4, qu, qu, qu, qu, ql v9, qw, ql v11, qw, qi v13, qi v14, qi v15, qi v16, qi v17, qu, qi v19, qi v20, qi v21, ql v22, qw, qi v24, qu, qi v26, qi v27, qu, qu]) (S' := [.int 1]) (H' := (qa scr :: bk0 zx zy zao zae zal zam zap zaj zac zad zab zaf zag zah zv zw zz zan zak zaa zai [])) rfl ?_
      exact ok_L_law_727 hkb hk777 h
theorem ok_L_law_666 {scr : List Int32} {kb : List Int32 → List Int32 → List Int32 → List Int32 → List Int32 → List Int64 → List Int32 → List Int32 → List Int32 → List Int32 → List Int32 → List Int32 → List Int32 → List Int32 → Int32 → Int32 → Int32 → Int64 → Int32 → Int32 → Int32 → Int32 → Int32 → Int32 → Int64 → Int64 → Int32 → Int32 → Int32 → Int32 → Int32 → Int32 → Int32 → Int32 → Int64 → Int32 → Option (Int32)} {k777 : List Int32 → List Int32 → List Int32 → List Int32 → List Int32 → List Int64 → List Int32 → List Int32 → List Int32 → List Int32 → List Int32 → List Int32 → List Int32 → List Int32 → Int32 → Int32 → Int32 → Int64 → Int32 → Int32 → Int32 → Int32 → Int32 → Int32 → Int64 → Int64 → Int32 → Int32 → Int32 → Int32 → Int32 → Int32 → Int32 → Int64 → Option (Int32)} (hkb : ∀ {zx zy zao zae zal : List Int32} {zam : List Int64} {zap zaj zac zad zab zaf zag zah : List Int32} {zv zw zz : Int32} {zan : Int64} {zak zaa zai v2 v3 v4 : Int32} {v9 v11 : Int64} {v13 v14 v15 v16 v17 v19 v20 v21 : Int32} {v22 : Int64} {v24 : Int32} {d5 d6 d7 d8 d18 d25 d26 d27 d28 d29 : Slot} {res : Int32}, kb zx zy zao zae zal zam zap zaj zac zad zab zaf zag zah zv zw zz zan zak zaa zai v2 v3 v4 v9 v11 v13 v14 v15 v16 v17 v19 v20 v21 v22 v24 = some res → OEndsQ own_P 0 522 [qr 0, qr 1, qi v2, qi v3, qi v4, d5, d6, d7, d8, ql v9, qw, ql v11, qw, qi v13, qi v14, qi v15, qi v16, qi v17, d18, qi v19, qi v20, qi v21, ql v22, qw, qi v24, d25, d26, d27, d28, d29] [] (qa scr :: bk0 zx zy zao zae zal zam zap zaj zac zad zab zaf zag zah zv zw zz zan zak zaa zai []) (LawQ res 0 0)) (hk777 : ∀ {zx zy zao zae zal : List Int32} {zam : List Int64} {zap zaj zac zad zab zaf zag zah : List Int32} {zv zw zz : Int32} {zan : Int64} {zak zaa zai v2 v3 v4 : Int32} {v9 v11 : Int64} {v13 v14 v15 v16 v17 v19 v20 : Int32} {v22 : Int64} {d5 d6 d7 d8 d18 d21 d24 d25 d26 d27 d28 d29 : Slot} {res : Int32}, k777 zx zy zao zae zal zam zap zaj zac zad zab zaf zag zah zv zw zz zan zak zaa zai v2 v3 v4 v9 v11 v13 v14 v15 v16 v17 v19 v20 v22 = some res → OEndsQ own_P 0 777 [qr 0, qr 1, qi v2, qi v3, qi v4, d5, d6, d7, d8, ql v9, qw, ql v11, qw, qi v13, qi v14, qi v15, qi v16, qi v17, d18, qi v19, qi v20, d21, ql v22, qw, d24, d25, d26, d27, d28, d29] [] (qa scr :: bk0 zx zy zao zae zal zam zap zaj zac zad zab zaf zag zah zv zw zz zan zak zaa zai []) (LawQ res 0 0)) : ∀ {zx zy zao zae zal : List Int32} {zam : List Int64} {zap zaj zac zad zab zaf zag zah : List Int32} {zv zw zz : Int32} {zan : Int64} {zak zaa zai v2 v3 v4 : Int32} {v9 v11 : Int64} {v13 v14 v15 v16 v17 v19 v20 v21 : Int32} {v22 : Int64} {v24 v25 v26 v27 : Int32} {d5 d6 d7 d8 d18 d28 d29 : Slot} {res : Int32}, f_L_law_666 kb k777 scr zx zy zao zae zal zam zap zaj zac zad zab zaf zag zah zv zw zz zan zak zaa zai v2 v3 v4 v9 v11 v13 v14 v15 v16 v17 v19 v20 v21 v22 v24 v25 v26 v27 = some res → OEndsQ own_P 0 666 [qr 0, qr 1, qi v2, qi v3, qi v4, d5, d6, d7, d8, ql v9, qw, ql v11, qw, qi v13, qi v14, qi v15, qi v16, qi v17, d18, qi v19, qi v20, qi v21, ql v22, qw, qi v24, qi v25, qi v26, qi v27, d28, d29] [] (qa scr :: bk0 zx zy zao zae zal zam zap zaj zac zad zab zaf zag zah zv zw zz zan zak zaa zai []) (LawQ res 0 0) := by
  intro zx zy zao zae zal zam zap zaj zac zad zab zaf zag zah zv zw zz zan zak zaa zai v2 v3 v4 v9 v11 v13 v14 v15 v16 v17 v19 v20 v21 v22 v24 v25 v26 v27 d5 d6 d7 d8 d18 d28 d29 res h
  unfold f_L_law_666 at h
  refine OEndsQ.adv hm_0 2 (pc' := 669) (L' := [qr 0, qr 1, qi v2, qi v3, qi v4, qu, qu, qu, qu, ql v9, qw, ql v11, qw, qi v13, qi v14, qi v15, qi v16, qi v17, qu, qi v19, qi v20, qi v21, ql v22, qw, qi v24, qi v25, qi v26, qi v27, qu, qu]) (S' := [.int v25, .ref 1]) (H' := (qa scr :: bk0 zx zy zao zae zal zam zap zaj zac zad zab zaf zag zah zv zw zz zan zak zaa zai [])) rfl ?_
  obtain ⟨r224, hq156, h⟩ := bnd h
  refine OEndsQ.call0 hm_0 rfl rfl (by decide) rfl (as := [.ref 1, .int v25]) (rest := []) rfl rfl (ok_status hq156) ?_
  refine OEndsQ.adv hm_0 3 (pc' := 677) (L' := [qr 0, qr 1, qi v2, qi v3, qi v4, qu, qu, qu, qu, ql v9, qw, ql v11, qw, qi v13, qi v14, qi v15, qi v16, qi v17, qu, qi v19, qi v20, qi v21, ql v22, qw, qi v24, qi v25, qi v26, qi v27, qi r224, qu]) (S' := [.int v25, .ref 1]) (H' := (qa scr :: bk0 zx zy zao zae zal zam zap zaj zac zad zab zaf zag zah zv zw zz zan zak zaa zai [])) rfl ?_
  obtain ⟨r225, hq157, h⟩ := bnd h
  refine OEndsQ.call0 hm_0 rfl rfl (by decide) rfl (as := [.ref 1, .int v25]) (rest := []) rfl rfl (ok_remaining hq157) ?_
  show OEndsQ own_P 0 680 [qr 0, qr 1, qi v2, qi v3, qi v4, qu, qu, qu, qu, ql v9, qw, ql v11, qw, qi v13, qi v14, qi v15, qi v16, qi v17, qu, qi v19, qi v20, qi v21, ql v22, qw, qi v24, qi v25, qi v26, qi v27, qi r224, qu] [.int r225] (qa scr :: bk0 zx zy zao zae zal zam zap zaj zac zad zab zaf zag zah zv zw zz zan zak zaa zai []) _
  by_cases hc158 : r225 = (0 : Int32)
  · simp only [if_pos hc158] at h
    refine OEndsQ.ifF hm_0 rfl ((teq hc158).2) ?_
    refine OEndsQ.adv hm_0 2 (pc' := 686) (L' := [qr 0, qr 1, qi v2, qi v3, qi v4, qu, qu, qu, qu, ql v9, qw, ql v11, qw, qi v13, qi v14, qi v15, qi v16, qi v17, qu, qi v19, qi v20, qi v21, ql v22, qw, qi v24, qi v25, qi v26, qi v27, qi r224, qu]) (S' := [.int 2, .int r224]) (H' := (qa scr :: bk0 zx zy zao zae zal zam zap zaj zac zad zab zaf zag zah zv zw zz zan zak zaa zai [])) rfl ?_
    by_cases hc159 : r224 = (2 : Int32)
    · simp only [if_pos hc159] at h
      refine OEndsQ.icmpT hm_0 rfl (q := 700) rfl ((teq hc159).1) ?_
      show OEndsQ own_P 0 700 [qr 0, qr 1, qi v2, qi v3, qi v4, qu, qu, qu, qu, ql v9, qw, ql v11, qw, qi v13, qi v14, qi v15, qi v16, qi v17, qu, qi v19, qi v20, qi v21, ql v22, qw, qi v24, qi v25, qi v26, qi v27, qi r224, qu] [] (qa scr :: bk0 zx zy zao zae zal zam zap zaj zac zad zab zaf zag zah zv zw zz zan zak zaa zai []) _
      exact ok_L_law_700 hkb hk777 h
    · simp only [if_neg hc159] at h
      refine OEndsQ.icmpF hm_0 rfl ((feq hc159).1) ?_
      refine OEndsQ.adv hm_0 2 (pc' := 699) (L' := [qr 0, qr 1, qi v2, qi v3, qi v4, qu, qu, qu, qu, ql v9, qw, ql v11, qw, qi v13, qi v14, qi v15, qi v16, qi v17, qu, qi v19, qi v20, qi v21, ql v22, qw, qi v24, qi v25, qi v26, qi v27, qi r224, qu]) (S' := [.int 0]) (H' := (qa scr :: bk0 zx zy zao zae zal zam zap zaj zac zad zab zaf zag zah zv zw zz zan zak zaa zai [])) rfl ?_
      cases h
      exact OEndsQ.iret hm_0 rfl rfl
  · simp only [if_neg hc158] at h
    refine OEndsQ.ifT hm_0 rfl (q := 692) rfl ((feq hc158).2) ?_
    refine OEndsQ.adv hm_0 2 (pc' := 695) (L' := [qr 0, qr 1, qi v2, qi v3, qi v4, qu, qu, qu, qu, ql v9, qw, ql v11, qw, qi v13, qi v14, qi v15, qi v16, qi v17, qu, qi v19, qi v20, qi v21, ql v22, qw, qi v24, qi v25, qi v26, qi v27, qi r224, qu]) (S' := [.int 1, .int r224]) (H' := (qa scr :: bk0 zx zy zao zae zal zam zap zaj zac zad zab zaf zag zah zv zw zz zan zak zaa zai [])) rfl ?_
    by_cases hc160 : r224 = (1 : Int32)
    · simp only [if_pos hc160] at h
      refine OEndsQ.icmpT hm_0 rfl (q := 700) rfl ((teq hc160).1) ?_
      show OEndsQ own_P 0 700 [qr 0, qr 1, qi v2, qi v3, qi v4, qu, qu, qu, qu, ql v9, qw, ql v11, qw, qi v13, qi v14, qi v15, qi v16, qi v17, qu, qi v19, qi v20, qi v21, ql v22, qw, qi v24, qi v25, qi v26, qi v27, qi r224, qu] [] (qa scr :: bk0 zx zy zao zae zal zam zap zaj zac zad zab zaf zag zah zv zw zz zan zak zaa zai []) _
      exact ok_L_law_700 hkb hk777 h
    · simp only [if_neg hc160] at h
      refine OEndsQ.icmpF hm_0 rfl ((feq hc160).1) ?_
      refine OEndsQ.adv hm_0 1 (pc' := 699) (L' := [qr 0, qr 1, qi v2, qi v3, qi v4, qu, qu, qu, qu, ql v9, qw, ql v11, qw, qi v13, qi v14, qi v15, qi v16, qi v17, qu, qi v19, qi v20, qi v21, ql v22, qw, qi v24, qi v25, qi v26, qi v27, qi r224, qu]) (S' := [.int 0]) (H' := (qa scr :: bk0 zx zy zao zae zal zam zap zaj zac zad zab zaf zag zah zv zw zz zan zak zaa zai [])) rfl ?_
      cases h
      exact OEndsQ.iret hm_0 rfl rfl
theorem ok_L_law_640 {scr : List Int32} {k666 : List Int32 → List Int32 → List Int32 → List Int32 → List Int32 → List Int64 → List Int32 → List Int32 → List Int32 → List Int32 → List Int32 → List Int32 → List Int32 → List Int32 → Int32 → Int32 → Int32 → Int64 → Int32 → Int32 → Int32 → Int32 → Int32 → Int32 → Int64 → Int64 → Int32 → Int32 → Int32 → Int32 → Int32 → Int32 → Int32 → Int32 → Int64 → Int32 → Int32 → Int32 → Int32 → Option (Int32)} (hk666 : ∀ {zx zy zao zae zal : List Int32} {zam : List Int64} {zap zaj zac zad zab zaf zag zah : List Int32} {zv zw zz : Int32} {zan : Int64} {zak zaa zai v2 v3 v4 : Int32} {v9 v11 : Int64} {v13 v14 v15 v16 v17 v19 v20 v21 : Int32} {v22 : Int64} {v24 v25 v26 v27 : Int32} {d5 d6 d7 d8 d18 d28 d29 : Slot} {res : Int32}, k666 zx zy zao zae zal zam zap zaj zac zad zab zaf zag zah zv zw zz zan zak zaa zai v2 v3 v4 v9 v11 v13 v14 v15 v16 v17 v19 v20 v21 v22 v24 v25 v26 v27 = some res → OEndsQ own_P 0 666 [qr 0, qr 1, qi v2, qi v3, qi v4, d5, d6, d7, d8, ql v9, qw, ql v11, qw, qi v13, qi v14, qi v15, qi v16, qi v17, d18, qi v19, qi v20, qi v21, ql v22, qw, qi v24, qi v25, qi v26, qi v27, d28, d29] [] (qa scr :: bk0 zx zy zao zae zal zam zap zaj zac zad zab zaf zag zah zv zw zz zan zak zaa zai []) (LawQ res 0 0)) : ∀ (n : Nat), ∀ {zx zy zao zae zal : List Int32} {zam : List Int64} {zap zaj zac zad zab zaf zag zah : List Int32} {zv zw zz : Int32} {zan : Int64} {zak zaa zai v2 v3 v4 : Int32} {v9 v11 : Int64} {v13 v14 v15 v16 v17 v19 v20 v21 : Int32} {v22 : Int64} {v24 v25 v26 v27 v28 : Int32} {d5 d6 d7 d8 d18 d29 : Slot} {res : Int32}, f_L_law_640 k666 scr n zx zy zao zae zal zam zap zaj zac zad zab zaf zag zah zv zw zz zan zak zaa zai v2 v3 v4 v9 v11 v13 v14 v15 v16 v17 v19 v20 v21 v22 v24 v25 v26 v27 v28 = some res → OEndsQ own_P 0 640 [qr 0, qr 1, qi v2, qi v3, qi v4, d5, d6, d7, d8, ql v9, qw, ql v11, qw, qi v13, qi v14, qi v15, qi v16, qi v17, d18, qi v19, qi v20, qi v21, ql v22, qw, qi v24, qi v25, qi v26, qi v27, qi v28, d29] [] (qa scr :: bk0 zx zy zao zae zal zam zap zaj zac zad zab zaf zag zah zv zw zz zan zak zaa zai []) (LawQ res 0 0) := by
  intro n
  induction n with
  | zero => intro zx zy zao zae zal zam zap zaj zac zad zab zaf zag zah zv zw zz zan zak zaa zai v2 v3 v4 v9 v11 v13 v14 v15 v16 v17 v19 v20 v21 v22 v24 v25 v26 v27 v28 d5 d6 d7 d8 d18 d29 res h; cases h
  | succ n ih =>
    intro zx zy zao zae zal zam zap zaj zac zad zab zaf zag zah zv zw zz zan zak zaa zai v2 v3 v4 v9 v11 v13 v14 v15 v16 v17 v19 v20 v21 v22 v24 v25 v26 v27 v28 d5 d6 d7 d8 d18 d29 res h
    unfold f_L_law_640 at h
    refine OEndsQ.adv hm_0 2 (pc' := 644) (L' := [qr 0, qr 1, qi v2, qi v3, qi v4, qu, qu, qu, qu, ql v9, qw, ql v11, qw, qi v13, qi v14, qi v15, qi v16, qi v17, qu, qi v19, qi v20, qi v21, ql v22, qw, qi v24, qi v25, qi v26, qi v27, qi v28, qu]) (S' := [.int v24, .int v28]) (H' := (qa scr :: bk0 zx zy zao zae zal zam zap zaj zac zad zab zaf zag zah zv zw zz zan zak zaa zai [])) rfl ?_
    by_cases hc161 : v28 < v24
    · simp only [if_pos hc161] at h
      refine OEndsQ.icmpF hm_0 rfl ((tlt hc161).2.1) ?_
      refine OEndsQ.adv hm_0 2 (pc' := 650) (L' := [qr 0, qr 1, qi v2, qi v3, qi v4, qu, qu, qu, qu, ql v9, qw, ql v11, qw, qi v13, qi v14, qi v15, qi v16, qi v17, qu, qi v19, qi v20, qi v21, ql v22, qw, qi v24, qi v25, qi v26, qi v27, qi v28, qu]) (S' := [.int v28, .ref 1]) (H' := (qa scr :: bk0 zx zy zao zae zal zam zap zaj zac zad zab zaf zag zah zv zw zz zan zak zaa zai [])) rfl ?_
      obtain ⟨r223, hq162, h⟩ := bnd h
      refine OEndsQ.call0 hm_0 rfl rfl (by decide) rfl (as := [.ref 1, .int v28]) (rest := []) rfl rfl (ok_fillId hq162) ?_
      refine OEndsQ.adv hm_0 1 (pc' := 655) (L' := [qr 0, qr 1, qi v2, qi v3, qi v4, qu, qu, qu, qu, ql v9, qw, ql v11, qw, qi v13, qi v14, qi v15, qi v16, qi v17, qu, qi v19, qi v20, qi v21, ql v22, qw, qi v24, qi v25, qi v26, qi v27, qi v28, qu]) (S' := [.int v25, .int r223]) (H' := (qa scr :: bk0 zx zy zao zae zal zam zap zaj zac zad zab zaf zag zah zv zw zz zan zak zaa zai [])) rfl ?_
      by_cases hc163 : r223 = v25
      · simp only [if_pos hc163] at h
        refine OEndsQ.icmpF hm_0 rfl ((teq hc163).2) ?_
        refine OEndsQ.adv hm_0 1 (pc' := 659) (L' := [qr 0, qr 1, qi v2, qi v3, qi v4, qu, qu, qu, qu, ql v9, qw, ql v11, qw, qi v13, qi v14, qi v15, qi v16, qi v17, qu, qi v19, qi v20, qi v21, ql v22, qw, qi v24, qi v25, qi v26, qi v27, qi v28, qu]) (S' := [.int 0]) (H' := (qa scr :: bk0 zx zy zao zae zal zam zap zaj zac zad zab zaf zag zah zv zw zz zan zak zaa zai [])) rfl ?_
        cases h
        exact OEndsQ.iret hm_0 rfl rfl
      · simp only [if_neg hc163] at h
        refine OEndsQ.icmpT hm_0 rfl (q := 660) rfl ((feq hc163).2) ?_
        refine OEndsQ.adv hm_0 2 (pc' := 640) (L' := [qr 0, qr 1, qi v2, qi v3, qi v4, qu, qu, qu, qu, ql v9, qw, ql v11, qw, qi v13, qi v14, qi v15, qi v16, qi v17, qu, qi v19, qi v20, qi v21, ql v22, qw, qi v24, qi v25, qi v26, qi v27, qi (v28 + (1 : Int32)), qu]) (S' := []) (H' := (qa scr :: bk0 zx zy zao zae zal zam zap zaj zac zad zab zaf zag zah zv zw zz zan zak zaa zai [])) rfl ?_
        exact ih h
    · simp only [if_neg hc161] at h
      refine OEndsQ.icmpT hm_0 rfl (q := 666) rfl ((flt hc161).2.1) ?_
      show OEndsQ own_P 0 666 [qr 0, qr 1, qi v2, qi v3, qi v4, qu, qu, qu, qu, ql v9, qw, ql v11, qw, qi v13, qi v14, qi v15, qi v16, qi v17, qu, qi v19, qi v20, qi v21, ql v22, qw, qi v24, qi v25, qi v26, qi v27, qi v28, qu] [] (qa scr :: bk0 zx zy zao zae zal zam zap zaj zac zad zab zaf zag zah zv zw zz zan zak zaa zai []) _
      exact hk666 h
theorem ok_L_law_598 {scr : List Int32} {kb : List Int32 → List Int32 → List Int32 → List Int32 → List Int32 → List Int64 → List Int32 → List Int32 → List Int32 → List Int32 → List Int32 → List Int32 → List Int32 → List Int32 → Int32 → Int32 → Int32 → Int64 → Int32 → Int32 → Int32 → Int32 → Int32 → Int32 → Int64 → Int64 → Int32 → Int32 → Int32 → Int32 → Int32 → Int32 → Int32 → Int32 → Int64 → Int32 → Option (Int32)} {k777 : List Int32 → List Int32 → List Int32 → List Int32 → List Int32 → List Int64 → List Int32 → List Int32 → List Int32 → List Int32 → List Int32 → List Int32 → List Int32 → List Int32 → Int32 → Int32 → Int32 → Int64 → Int32 → Int32 → Int32 → Int32 → Int32 → Int32 → Int64 → Int64 → Int32 → Int32 → Int32 → Int32 → Int32 → Int32 → Int32 → Int64 → Option (Int32)} (hkb : ∀ {zx zy zao zae zal : List Int32} {zam : List Int64} {zap zaj zac zad zab zaf zag zah : List Int32} {zv zw zz : Int32} {zan : Int64} {zak zaa zai v2 v3 v4 : Int32} {v9 v11 : Int64} {v13 v14 v15 v16 v17 v19 v20 v21 : Int32} {v22 : Int64} {v24 : Int32} {d5 d6 d7 d8 d18 d25 d26 d27 d28 d29 : Slot} {res : Int32}, kb zx zy zao zae zal zam zap zaj zac zad zab zaf zag zah zv zw zz zan zak zaa zai v2 v3 v4 v9 v11 v13 v14 v15 v16 v17 v19 v20 v21 v22 v24 = some res → OEndsQ own_P 0 522 [qr 0, qr 1, qi v2, qi v3, qi v4, d5, d6, d7, d8, ql v9, qw, ql v11, qw, qi v13, qi v14, qi v15, qi v16, qi v17, d18, qi v19, qi v20, qi v21, ql v22, qw, qi v24, d25, d26, d27, d28, d29] [] (qa scr :: bk0 zx zy zao zae zal zam zap zaj zac zad zab zaf zag zah zv zw zz zan zak zaa zai []) (LawQ res 0 0)) (hk777 : ∀ {zx zy zao zae zal : List Int32} {zam : List Int64} {zap zaj zac zad zab zaf zag zah : List Int32} {zv zw zz : Int32} {zan : Int64} {zak zaa zai v2 v3 v4 : Int32} {v9 v11 : Int64} {v13 v14 v15 v16 v17 v19 v20 : Int32} {v22 : Int64} {d5 d6 d7 d8 d18 d21 d24 d25 d26 d27 d28 d29 : Slot} {res : Int32}, k777 zx zy zao zae zal zam zap zaj zac zad zab zaf zag zah zv zw zz zan zak zaa zai v2 v3 v4 v9 v11 v13 v14 v15 v16 v17 v19 v20 v22 = some res → OEndsQ own_P 0 777 [qr 0, qr 1, qi v2, qi v3, qi v4, d5, d6, d7, d8, ql v9, qw, ql v11, qw, qi v13, qi v14, qi v15, qi v16, qi v17, d18, qi v19, qi v20, d21, ql v22, qw, d24, d25, d26, d27, d28, d29] [] (qa scr :: bk0 zx zy zao zae zal zam zap zaj zac zad zab zaf zag zah zv zw zz zan zak zaa zai []) (LawQ res 0 0)) : ∀ {zx zy zao zae zal : List Int32} {zam : List Int64} {zap zaj zac zad zab zaf zag zah : List Int32} {zv zw zz : Int32} {zan : Int64} {zak zaa zai v2 v3 v4 : Int32} {v9 v11 : Int64} {v13 v14 v15 v16 v17 v19 v20 v21 : Int32} {v22 : Int64} {v24 v25 v26 v27 : Int32} {d5 d6 d7 d8 d18 d28 d29 : Slot} {res : Int32}, f_L_law_598 kb k777 scr zx zy zao zae zal zam zap zaj zac zad zab zaf zag zah zv zw zz zan zak zaa zai v2 v3 v4 v9 v11 v13 v14 v15 v16 v17 v19 v20 v21 v22 v24 v25 v26 v27 = some res → OEndsQ own_P 0 598 [qr 0, qr 1, qi v2, qi v3, qi v4, d5, d6, d7, d8, ql v9, qw, ql v11, qw, qi v13, qi v14, qi v15, qi v16, qi v17, d18, qi v19, qi v20, qi v21, ql v22, qw, qi v24, qi v25, qi v26, qi v27, d28, d29] [] (qa scr :: bk0 zx zy zao zae zal zam zap zaj zac zad zab zaf zag zah zv zw zz zan zak zaa zai []) (LawQ res 0 0) := by
  intro zx zy zao zae zal zam zap zaj zac zad zab zaf zag zah zv zw zz zan zak zaa zai v2 v3 v4 v9 v11 v13 v14 v15 v16 v17 v19 v20 v21 v22 v24 v25 v26 v27 d5 d6 d7 d8 d18 d28 d29 res h
  unfold f_L_law_598 at h
  refine OEndsQ.adv hm_0 1 (pc' := 600) (L' := [qr 0, qr 1, qi v2, qi v3, qi v4, qu, qu, qu, qu, ql v9, qw, ql v11, qw, qi v13, qi v14, qi v15, qi v16, qi v17, qu, qi v19, qi v20, qi v21, ql v22, qw, qi v24, qi v25, qi v26, qi v27, qu, qu]) (S' := [.int v24]) (H' := (qa scr :: bk0 zx zy zao zae zal zam zap zaj zac zad zab zaf zag zah zv zw zz zan zak zaa zai [])) rfl ?_
  by_cases hc164 : (0 : Int32) < v24
  · simp only [if_pos hc164] at h
    refine OEndsQ.ifF hm_0 rfl ((tlt hc164).2.2.2) ?_
    refine OEndsQ.adv hm_0 4 (pc' := 608) (L' := [qr 0, qr 1, qi v2, qi v3, qi v4, qu, qu, qu, qu, ql v9, qw, ql v11, qw, qi v13, qi v14, qi v15, qi v16, qi v17, qu, qi v19, qi v20, qi v21, ql v22, qw, qi v24, qi v25, qi v26, qi v27, qu, qu]) (S' := [.int (v24 - (1 : Int32)), .ref 1]) (H' := (qa scr :: bk0 zx zy zao zae zal zam zap zaj zac zad zab zaf zag zah zv zw zz zan zak zaa zai [])) rfl ?_
    obtain ⟨r222, hq165, h⟩ := bnd h
    refine OEndsQ.call0 hm_0 rfl rfl (by decide) rfl (as := [.ref 1, .int (v24 - (1 : Int32))]) (rest := []) rfl rfl (ok_fillPrice hq165) ?_
    refine OEndsQ.adv hm_0 2 (pc' := 615) (L' := [qr 0, qr 1, qi v2, qi v3, qi v4, qu, qu, qu, qu, ql v9, qw, ql v11, qw, qi v13, qi v14, qi v15, qi v16, qi v17, qu, qi v19, qi v20, qi v21, ql v22, qw, qi v24, qi v25, qi v26, qi v27, qi r222, qu]) (S' := [.int v13]) (H' := (qa scr :: bk0 zx zy zao zae zal zam zap zaj zac zad zab zaf zag zah zv zw zz zan zak zaa zai [])) rfl ?_
    by_cases hc166 : v13 = (0 : Int32)
    · simp only [if_pos hc166] at h
      refine OEndsQ.ifF hm_0 rfl ((teq hc166).2) ?_
      refine OEndsQ.adv hm_0 2 (pc' := 622) (L' := [qr 0, qr 1, qi v2, qi v3, qi v4, qu, qu, qu, qu, ql v9, qw, ql v11, qw, qi v13, qi v14, qi v15, qi v16, qi v17, qu, qi v19, qi v20, qi v21, ql v22, qw, qi v24, qi v25, qi v26, qi v27, qi r222, qu]) (S' := [.int r222, .int v27]) (H' := (qa scr :: bk0 zx zy zao zae zal zam zap zaj zac zad zab zaf zag zah zv zw zz zan zak zaa zai [])) rfl ?_
      by_cases hc167 : v27 < r222
      · simp only [if_pos hc167] at h
        refine OEndsQ.icmpF hm_0 rfl ((tlt hc167).2.1) ?_
        refine OEndsQ.adv hm_0 2 (pc' := 636) (L' := [qr 0, qr 1, qi v2, qi v3, qi v4, qu, qu, qu, qu, ql v9, qw, ql v11, qw, qi v13, qi v14, qi v15, qi v16, qi v17, qu, qi v19, qi v20, qi v21, ql v22, qw, qi v24, qi v25, qi v26, qi v27, qi r222, qu]) (S' := [.int 0]) (H' := (qa scr :: bk0 zx zy zao zae zal zam zap zaj zac zad zab zaf zag zah zv zw zz zan zak zaa zai [])) rfl ?_
        cases h
        exact OEndsQ.iret hm_0 rfl rfl
      · simp only [if_neg hc167] at h
        refine OEndsQ.icmpT hm_0 rfl (q := 637) rfl ((flt hc167).2.1) ?_
        refine OEndsQ.adv hm_0 2 (pc' := 640) (L' := [qr 0, qr 1, qi v2, qi v3, qi v4, qu, qu, qu, qu, ql v9, qw, ql v11, qw, qi v13, qi v14, qi v15, qi v16, qi v17, qu, qi v19, qi v20, qi v21, ql v22, qw, qi v24, qi v25, qi v26, qi v27, qi 0, qu]) (S' := []) (H' := (qa scr :: bk0 zx zy zao zae zal zam zap zaj zac zad zab zaf zag zah zv zw zz zan zak zaa zai [])) rfl ?_
        exact ok_L_law_640 (k666 := f_L_law_666 kb k777 scr) (ok_L_law_666 hkb hk777) 100000 h
    · simp only [if_neg hc166] at h
      refine OEndsQ.ifT hm_0 rfl (q := 628) rfl ((feq hc166).2) ?_
      refine OEndsQ.adv hm_0 2 (pc' := 632) (L' := [qr 0, qr 1, qi v2, qi v3, qi v4, qu, qu, qu, qu, ql v9, qw, ql v11, qw, qi v13, qi v14, qi v15, qi v16, qi v17, qu, qi v19, qi v20, qi v21, ql v22, qw, qi v24, qi v25, qi v26, qi v27, qi r222, qu]) (S' := [.int r222, .int v27]) (H' := (qa scr :: bk0 zx zy zao zae zal zam zap zaj zac zad zab zaf zag zah zv zw zz zan zak zaa zai [])) rfl ?_
      by_cases hc168 : r222 < v27
      · simp only [if_pos hc168] at h
        refine OEndsQ.icmpF hm_0 rfl ((tlt hc168).2.2.2) ?_
        refine OEndsQ.adv hm_0 1 (pc' := 636) (L' := [qr 0, qr 1, qi v2, qi v3, qi v4, qu, qu, qu, qu, ql v9, qw, ql v11, qw, qi v13, qi v14, qi v15, qi v16, qi v17, qu, qi v19, qi v20, qi v21, ql v22, qw, qi v24, qi v25, qi v26, qi v27, qi r222, qu]) (S' := [.int 0]) (H' := (qa scr :: bk0 zx zy zao zae zal zam zap zaj zac zad zab zaf zag zah zv zw zz zan zak zaa zai [])) rfl ?_
        cases h
        exact OEndsQ.iret hm_0 rfl rfl
      · simp only [if_neg hc168] at h
        refine OEndsQ.icmpT hm_0 rfl (q := 637) rfl ((flt hc168).2.2.2) ?_
        refine OEndsQ.adv hm_0 2 (pc' := 640) (L' := [qr 0, qr 1, qi v2, qi v3, qi v4, qu, qu, qu, qu, ql v9, qw, ql v11, qw, qi v13, qi v14, qi v15, qi v16, qi v17, qu, qi v19, qi v20, qi v21, ql v22, qw, qi v24, qi v25, qi v26, qi v27, qi 0, qu]) (S' := []) (H' := (qa scr :: bk0 zx zy zao zae zal zam zap zaj zac zad zab zaf zag zah zv zw zz zan zak zaa zai [])) rfl ?_
        exact ok_L_law_640 (k666 := f_L_law_666 kb k777 scr) (ok_L_law_666 hkb hk777) 100000 h
  · simp only [if_neg hc164] at h
    refine OEndsQ.ifT hm_0 rfl (q := 637) rfl ((flt hc164).2.2.2) ?_
    refine OEndsQ.adv hm_0 2 (pc' := 640) (L' := [qr 0, qr 1, qi v2, qi v3, qi v4, qu, qu, qu, qu, ql v9, qw, ql v11, qw, qi v13, qi v14, qi v15, qi v16, qi v17, qu, qi v19, qi v20, qi v21, ql v22, qw, qi v24, qi v25, qi v26, qi v27, qi 0, qu]) (S' := []) (H' := (qa scr :: bk0 zx zy zao zae zal zam zap zaj zac zad zab zaf zag zah zv zw zz zan zak zaa zai [])) rfl ?_
    exact ok_L_law_640 (k666 := f_L_law_666 kb k777 scr) (ok_L_law_666 hkb hk777) 100000 h
theorem ok_L_law_522 {scr : List Int32} {k777 : List Int32 → List Int32 → List Int32 → List Int32 → List Int32 → List Int64 → List Int32 → List Int32 → List Int32 → List Int32 → List Int32 → List Int32 → List Int32 → List Int32 → Int32 → Int32 → Int32 → Int64 → Int32 → Int32 → Int32 → Int32 → Int32 → Int32 → Int64 → Int64 → Int32 → Int32 → Int32 → Int32 → Int32 → Int32 → Int32 → Int64 → Option (Int32)} (hk777 : ∀ {zx zy zao zae zal : List Int32} {zam : List Int64} {zap zaj zac zad zab zaf zag zah : List Int32} {zv zw zz : Int32} {zan : Int64} {zak zaa zai v2 v3 v4 : Int32} {v9 v11 : Int64} {v13 v14 v15 v16 v17 v19 v20 : Int32} {v22 : Int64} {d5 d6 d7 d8 d18 d21 d24 d25 d26 d27 d28 d29 : Slot} {res : Int32}, k777 zx zy zao zae zal zam zap zaj zac zad zab zaf zag zah zv zw zz zan zak zaa zai v2 v3 v4 v9 v11 v13 v14 v15 v16 v17 v19 v20 v22 = some res → OEndsQ own_P 0 777 [qr 0, qr 1, qi v2, qi v3, qi v4, d5, d6, d7, d8, ql v9, qw, ql v11, qw, qi v13, qi v14, qi v15, qi v16, qi v17, d18, qi v19, qi v20, d21, ql v22, qw, d24, d25, d26, d27, d28, d29] [] (qa scr :: bk0 zx zy zao zae zal zam zap zaj zac zad zab zaf zag zah zv zw zz zan zak zaa zai []) (LawQ res 0 0)) : ∀ (n : Nat), ∀ {zx zy zao zae zal : List Int32} {zam : List Int64} {zap zaj zac zad zab zaf zag zah : List Int32} {zv zw zz : Int32} {zan : Int64} {zak zaa zai v2 v3 v4 : Int32} {v9 v11 : Int64} {v13 v14 v15 v16 v17 v19 v20 v21 : Int32} {v22 : Int64} {v24 : Int32} {d5 d6 d7 d8 d18 d25 d26 d27 d28 d29 : Slot} {res : Int32}, f_L_law_522 k777 scr n zx zy zao zae zal zam zap zaj zac zad zab zaf zag zah zv zw zz zan zak zaa zai v2 v3 v4 v9 v11 v13 v14 v15 v16 v17 v19 v20 v21 v22 v24 = some res → OEndsQ own_P 0 522 [qr 0, qr 1, qi v2, qi v3, qi v4, d5, d6, d7, d8, ql v9, qw, ql v11, qw, qi v13, qi v14, qi v15, qi v16, qi v17, d18, qi v19, qi v20, qi v21, ql v22, qw, qi v24, d25, d26, d27, d28, d29] [] (qa scr :: bk0 zx zy zao zae zal zam zap zaj zac zad zab zaf zag zah zv zw zz zan zak zaa zai []) (LawQ res 0 0) := by
  intro n
  induction n with
  | zero => intro zx zy zao zae zal zam zap zaj zac zad zab zaf zag zah zv zw zz zan zak zaa zai v2 v3 v4 v9 v11 v13 v14 v15 v16 v17 v19 v20 v21 v22 v24 d5 d6 d7 d8 d18 d25 d26 d27 d28 d29 res h; cases h
  | succ n ih =>
    intro zx zy zao zae zal zam zap zaj zac zad zab zaf zag zah zv zw zz zan zak zaa zai v2 v3 v4 v9 v11 v13 v14 v15 v16 v17 v19 v20 v21 v22 v24 d5 d6 d7 d8 d18 d25 d26 d27 d28 d29 res h
    unfold f_L_law_522 at h
    refine OEndsQ.adv hm_0 2 (pc' := 526) (L' := [qr 0, qr 1, qi v2, qi v3, qi v4, qu, qu, qu, qu, ql v9, qw, ql v11, qw, qi v13, qi v14, qi v15, qi v16, qi v17, qu, qi v19, qi v20, qi v21, ql v22, qw, qi v24, qu, qu, qu, qu, qu]) (S' := [.int v21, .int v24]) (H' := (qa scr :: bk0 zx zy zao zae zal zam zap zaj zac zad zab zaf zag zah zv zw zz zan zak zaa zai [])) rfl ?_
    by_cases hc169 : v24 < v21
    · simp only [if_pos hc169] at h
      refine OEndsQ.icmpF hm_0 rfl ((tlt hc169).2.1) ?_
      refine OEndsQ.adv hm_0 2 (pc' := 532) (L' := [qr 0, qr 1, qi v2, qi v3, qi v4, qu, qu, qu, qu, ql v9, qw, ql v11, qw, qi v13, qi v14, qi v15, qi v16, qi v17, qu, qi v19, qi v20, qi v21, ql v22, qw, qi v24, qu, qu, qu, qu, qu]) (S' := [.int v24, .ref 1]) (H' := (qa scr :: bk0 zx zy zao zae zal zam zap zaj zac zad zab zaf zag zah zv zw zz zan zak zaa zai [])) rfl ?_
      obtain ⟨r219, hq170, h⟩ := bnd h
      refine OEndsQ.call0 hm_0 rfl rfl (by decide) rfl (as := [.ref 1, .int v24]) (rest := []) rfl rfl (ok_fillId hq170) ?_
      refine OEndsQ.adv hm_0 3 (pc' := 540) (L' := [qr 0, qr 1, qi v2, qi v3, qi v4, qu, qu, qu, qu, ql v9, qw, ql v11, qw, qi v13, qi v14, qi v15, qi v16, qi v17, qu, qi v19, qi v20, qi v21, ql v22, qw, qi v24, qi r219, qu, qu, qu, qu]) (S' := [.int v24, .ref 1]) (H' := (qa scr :: bk0 zx zy zao zae zal zam zap zaj zac zad zab zaf zag zah zv zw zz zan zak zaa zai [])) rfl ?_
      obtain ⟨r220, hq171, h⟩ := bnd h
      refine OEndsQ.call0 hm_0 rfl rfl (by decide) rfl (as := [.ref 1, .int v24]) (rest := []) rfl rfl (ok_fillQty hq171) ?_
      refine OEndsQ.adv hm_0 3 (pc' := 548) (L' := [qr 0, qr 1, qi v2, qi v3, qi v4, qu, qu, qu, qu, ql v9, qw, ql v11, qw, qi v13, qi v14, qi v15, qi v16, qi v17, qu, qi v19, qi v20, qi v21, ql v22, qw, qi v24, qi r219, qi r220, qu, qu, qu]) (S' := [.int v24, .ref 1]) (H' := (qa scr :: bk0 zx zy zao zae zal zam zap zaj zac zad zab zaf zag zah zv zw zz zan zak zaa zai [])) rfl ?_
      obtain ⟨r221, hq172, h⟩ := bnd h
      refine OEndsQ.call0 hm_0 rfl rfl (by decide) rfl (as := [.ref 1, .int v24]) (rest := []) rfl rfl (ok_fillPrice hq172) ?_
      refine OEndsQ.adv hm_0 3 (pc' := 556) (L' := [qr 0, qr 1, qi v2, qi v3, qi v4, qu, qu, qu, qu, ql v9, qw, ql v11, qw, qi v13, qi v14, qi v15, qi v16, qi v17, qu, qi v19, qi v20, qi v21, ql v22, qw, qi v24, qi r219, qi r220, qi r221, qu, qu]) (S' := [.int 1, .int r220]) (H' := (qa scr :: bk0 zx zy zao zae zal zam zap zaj zac zad zab zaf zag zah zv zw zz zan zak zaa zai [])) rfl ?_
      by_cases hc173 : r220 < (1 : Int32)
      · simp only [if_pos hc173] at h
        refine OEndsQ.icmpT hm_0 rfl (q := 572) rfl ((tlt hc173).1) ?_
        refine OEndsQ.adv hm_0 1 (pc' := 573) (L' := [qr 0, qr 1, qi v2, qi v3, qi v4, qu, qu, qu, qu, ql v9, qw, ql v11, qw, qi v13, qi v14, qi v15, qi v16, qi v17, qu, qi v19, qi v20, qi v21, ql v22, qw, qi v24, qi r219, qi r220, qi r221, qu, qu]) (S' := [.int 0]) (H' := (qa scr :: bk0 zx zy zao zae zal zam zap zaj zac zad zab zaf zag zah zv zw zz zan zak zaa zai [])) rfl ?_
        cases h
        exact OEndsQ.iret hm_0 rfl rfl
      · simp only [if_neg hc173] at h
        refine OEndsQ.icmpF hm_0 rfl ((flt hc173).1) ?_
        refine OEndsQ.adv hm_0 2 (pc' := 562) (L' := [qr 0, qr 1, qi v2, qi v3, qi v4, qu, qu, qu, qu, ql v9, qw, ql v11, qw, qi v13, qi v14, qi v15, qi v16, qi v17, qu, qi v19, qi v20, qi v21, ql v22, qw, qi v24, qi r219, qi r220, qi r221, qu, qu]) (S' := [.int 1, .int r219]) (H' := (qa scr :: bk0 zx zy zao zae zal zam zap zaj zac zad zab zaf zag zah zv zw zz zan zak zaa zai [])) rfl ?_
        by_cases hc174 : r219 < (1 : Int32)
        · simp only [if_pos hc174] at h
          refine OEndsQ.icmpT hm_0 rfl (q := 572) rfl ((tlt hc174).1) ?_
          refine OEndsQ.adv hm_0 1 (pc' := 573) (L' := [qr 0, qr 1, qi v2, qi v3, qi v4, qu, qu, qu, qu, ql v9, qw, ql v11, qw, qi v13, qi v14, qi v15, qi v16, qi v17, qu, qi v19, qi v20, qi v21, ql v22, qw, qi v24, qi r219, qi r220, qi r221, qu, qu]) (S' := [.int 0]) (H' := (qa scr :: bk0 zx zy zao zae zal zam zap zaj zac zad zab zaf zag zah zv zw zz zan zak zaa zai [])) rfl ?_
          cases h
          exact OEndsQ.iret hm_0 rfl rfl
        · simp only [if_neg hc174] at h
          refine OEndsQ.icmpF hm_0 rfl ((flt hc174).1) ?_
          refine OEndsQ.adv hm_0 2 (pc' := 569) (L' := [qr 0, qr 1, qi v2, qi v3, qi v4, qu, qu, qu, qu, ql v9, qw, ql v11, qw, qi v13, qi v14, qi v15, qi v16, qi v17, qu, qi v19, qi v20, qi v21, ql v22, qw, qi v24, qi r219, qi r220, qi r221, qu, qu]) (S' := [.int v19, .int r219]) (H' := (qa scr :: bk0 zx zy zao zae zal zam zap zaj zac zad zab zaf zag zah zv zw zz zan zak zaa zai [])) rfl ?_
          by_cases hc175 : r219 < v19
          · simp only [if_pos hc175] at h
            refine OEndsQ.icmpT hm_0 rfl (q := 574) rfl ((tlt hc175).1) ?_
            refine OEndsQ.adv hm_0 1 (pc' := 576) (L' := [qr 0, qr 1, qi v2, qi v3, qi v4, qu, qu, qu, qu, ql v9, qw, ql v11, qw, qi v13, qi v14, qi v15, qi v16, qi v17, qu, qi v19, qi v20, qi v21, ql v22, qw, qi v24, qi r219, qi r220, qi r221, qu, qu]) (S' := [.int v13]) (H' := (qa scr :: bk0 zx zy zao zae zal zam zap zaj zac zad zab zaf zag zah zv zw zz zan zak zaa zai [])) rfl ?_
            by_cases hc176 : v13 = (0 : Int32)
            · simp only [if_pos hc176] at h
              refine OEndsQ.ifF hm_0 rfl ((teq hc176).2) ?_
              refine OEndsQ.adv hm_0 2 (pc' := 583) (L' := [qr 0, qr 1, qi v2, qi v3, qi v4, qu, qu, qu, qu, ql v9, qw, ql v11, qw, qi v13, qi v14, qi v15, qi v16, qi v17, qu, qi v19, qi v20, qi v21, ql v22, qw, qi v24, qi r219, qi r220, qi r221, qu, qu]) (S' := [.int v16, .int r221]) (H' := (qa scr :: bk0 zx zy zao zae zal zam zap zaj zac zad zab zaf zag zah zv zw zz zan zak zaa zai [])) rfl ?_
              by_cases hc177 : v16 < r221
              · simp only [if_pos hc177] at h
                refine OEndsQ.icmpF hm_0 rfl ((tlt hc177).2.2.2) ?_
                refine OEndsQ.adv hm_0 2 (pc' := 597) (L' := [qr 0, qr 1, qi v2, qi v3, qi v4, qu, qu, qu, qu, ql v9, qw, ql v11, qw, qi v13, qi v14, qi v15, qi v16, qi v17, qu, qi v19, qi v20, qi v21, ql v22, qw, qi v24, qi r219, qi r220, qi r221, qu, qu]) (S' := [.int 0]) (H' := (qa scr :: bk0 zx zy zao zae zal zam zap zaj zac zad zab zaf zag zah zv zw zz zan zak zaa zai [])) rfl ?_
                cases h
                exact OEndsQ.iret hm_0 rfl rfl
              · simp only [if_neg hc177] at h
                refine OEndsQ.icmpT hm_0 rfl (q := 598) rfl ((flt hc177).2.2.2) ?_
                show OEndsQ own_P 0 598 [qr 0, qr 1, qi v2, qi v3, qi v4, qu, qu, qu, qu, ql v9, qw, ql v11, qw, qi v13, qi v14, qi v15, qi v16, qi v17, qu, qi v19, qi v20, qi v21, ql v22, qw, qi v24, qi r219, qi r220, qi r221, qu, qu] [] (qa scr :: bk0 zx zy zao zae zal zam zap zaj zac zad zab zaf zag zah zv zw zz zan zak zaa zai []) _
                exact ok_L_law_598 ih hk777 h
            · simp only [if_neg hc176] at h
              refine OEndsQ.ifT hm_0 rfl (q := 589) rfl ((feq hc176).2) ?_
              refine OEndsQ.adv hm_0 2 (pc' := 593) (L' := [qr 0, qr 1, qi v2, qi v3, qi v4, qu, qu, qu, qu, ql v9, qw, ql v11, qw, qi v13, qi v14, qi v15, qi v16, qi v17, qu, qi v19, qi v20, qi v21, ql v22, qw, qi v24, qi r219, qi r220, qi r221, qu, qu]) (S' := [.int v16, .int r221]) (H' := (qa scr :: bk0 zx zy zao zae zal zam zap zaj zac zad zab zaf zag zah zv zw zz zan zak zaa zai [])) rfl ?_
              by_cases hc178 : r221 < v16
              · simp only [if_pos hc178] at h
                refine OEndsQ.icmpF hm_0 rfl ((tlt hc178).2.1) ?_
                refine OEndsQ.adv hm_0 1 (pc' := 597) (L' := [qr 0, qr 1, qi v2, qi v3, qi v4, qu, qu, qu, qu, ql v9, qw, ql v11, qw, qi v13, qi v14, qi v15, qi v16, qi v17, qu, qi v19, qi v20, qi v21, ql v22, qw, qi v24, qi r219, qi r220, qi r221, qu, qu]) (S' := [.int 0]) (H' := (qa scr :: bk0 zx zy zao zae zal zam zap zaj zac zad zab zaf zag zah zv zw zz zan zak zaa zai [])) rfl ?_
                cases h
                exact OEndsQ.iret hm_0 rfl rfl
              · simp only [if_neg hc178] at h
                refine OEndsQ.icmpT hm_0 rfl (q := 598) rfl ((flt hc178).2.1) ?_
                show OEndsQ own_P 0 598 [qr 0, qr 1, qi v2, qi v3, qi v4, qu, qu, qu, qu, ql v9, qw, ql v11, qw, qi v13, qi v14, qi v15, qi v16, qi v17, qu, qi v19, qi v20, qi v21, ql v22, qw, qi v24, qi r219, qi r220, qi r221, qu, qu] [] (qa scr :: bk0 zx zy zao zae zal zam zap zaj zac zad zab zaf zag zah zv zw zz zan zak zaa zai []) _
                exact ok_L_law_598 ih hk777 h
          · simp only [if_neg hc175] at h
            refine OEndsQ.icmpF hm_0 rfl ((flt hc175).1) ?_
            refine OEndsQ.adv hm_0 1 (pc' := 573) (L' := [qr 0, qr 1, qi v2, qi v3, qi v4, qu, qu, qu, qu, ql v9, qw, ql v11, qw, qi v13, qi v14, qi v15, qi v16, qi v17, qu, qi v19, qi v20, qi v21, ql v22, qw, qi v24, qi r219, qi r220, qi r221, qu, qu]) (S' := [.int 0]) (H' := (qa scr :: bk0 zx zy zao zae zal zam zap zaj zac zad zab zaf zag zah zv zw zz zan zak zaa zai [])) rfl ?_
            cases h
            exact OEndsQ.iret hm_0 rfl rfl
    · simp only [if_neg hc169] at h
      refine OEndsQ.icmpT hm_0 rfl (q := 777) rfl ((flt hc169).2.1) ?_
      show OEndsQ own_P 0 777 [qr 0, qr 1, qi v2, qi v3, qi v4, qu, qu, qu, qu, ql v9, qw, ql v11, qw, qi v13, qi v14, qi v15, qi v16, qi v17, qu, qi v19, qi v20, qi v21, ql v22, qw, qi v24, qu, qu, qu, qu, qu] [] (qa scr :: bk0 zx zy zao zae zal zam zap zaj zac zad zab zaf zag zah zv zw zz zan zak zaa zai []) _
      exact hk777 h
theorem ok_L_law_403 {scr : List Int32} {kb : List Int32 → List Int32 → List Int32 → List Int32 → List Int32 → List Int64 → List Int32 → List Int32 → List Int32 → List Int32 → List Int32 → List Int32 → List Int32 → List Int32 → Int32 → Int32 → Int32 → Int64 → Int32 → Int32 → Int32 → Int32 → Int32 → Int32 → Option (Int32)} (hkb : ∀ {zx zy zao zae zal : List Int32} {zam : List Int64} {zap zaj zac zad zab zaf zag zah : List Int32} {zv zw zz : Int32} {zan : Int64} {zak zaa zai v2 v3 v4 : Int32} {d5 d6 d7 d8 d9 d10 d11 d12 d13 d14 d15 d16 d17 d18 d19 d20 d21 d22 d23 d24 d25 d26 d27 d28 d29 : Slot} {res : Int32}, kb zx zy zao zae zal zam zap zaj zac zad zab zaf zag zah zv zw zz zan zak zaa zai v2 v3 v4 = some res → OEndsQ own_P 0 36 [qr 0, qr 1, qi v2, qi v3, qi v4, d5, d6, d7, d8, d9, d10, d11, d12, d13, d14, d15, d16, d17, d18, d19, d20, d21, d22, d23, d24, d25, d26, d27, d28, d29] [] (qa scr :: bk0 zx zy zao zae zal zam zap zaj zac zad zab zaf zag zah zv zw zz zan zak zaa zai []) (LawQ res 0 0)) : ∀ {zx zy zao zae zal : List Int32} {zam : List Int64} {zap zaj zac zad zab zaf zag zah : List Int32} {zv zw zz : Int32} {zan : Int64} {zak zaa zai v2 v3 v4 v6 v7 : Int32} {v9 v11 : Int64} {v13 v14 t0 : Int32} {d5 d8 d15 d16 d17 d18 d19 d20 d21 d22 d23 d24 d25 d26 d27 d28 d29 : Slot} {res : Int32}, f_L_law_403 kb scr zx zy zao zae zal zam zap zaj zac zad zab zaf zag zah zv zw zz zan zak zaa zai v2 v3 v4 v6 v7 v9 v11 v13 v14 t0 = some res → OEndsQ own_P 0 403 [qr 0, qr 1, qi v2, qi v3, qi v4, d5, qi v6, qi v7, d8, ql v9, qw, ql v11, qw, qi v13, qi v14, d15, d16, d17, d18, d19, d20, d21, d22, d23, d24, d25, d26, d27, d28, d29] [.int t0] (qa scr :: bk0 zx zy zao zae zal zam zap zaj zac zad zab zaf zag zah zv zw zz zan zak zaa zai []) (LawQ res 0 0) := by
  intro zx zy zao zae zal zam zap zaj zac zad zab zaf zag zah zv zw zz zan zak zaa zai v2 v3 v4 v6 v7 v9 v11 v13 v14 t0 d5 d8 d15 d16 d17 d18 d19 d20 d21 d22 d23 d24 d25 d26 d27 d28 d29 res h
  unfold f_L_law_403 at h
  refine OEndsQ.adv hm_0 14 (pc' := 425) (L' := [qr 0, qr 1, qi v2, qi v3, qi v4, qu, qi v6, qi v7, qu, ql v9, qw, ql v11, qw, qi v13, qi v14, qi t0, qi ((100 : Int32) + (v6 % (8 : Int32))), qi ((1 : Int32) + (v7 % (100 : Int32))), qu, qu, qu, qu, qu, qu, qu, qu, qu, qu, qu, qu]) (S' := [.ref 1]) (H' := (qa scr :: bk0 zx zy zao zae zal zam zap zaj zac zad zab zaf zag zah zv zw zz zan zak zaa zai [])) rfl ?_
  obtain ⟨r193, hq179, h⟩ := bnd h
  refine OEndsQ.call0 hm_0 rfl rfl (by decide) rfl (as := [.ref 1]) (rest := []) rfl rfl (ok_fillCount hq179) ?_
  refine OEndsQ.adv hm_0 6 (pc' := 439) (L' := [qr 0, qr 1, qi v2, qi v3, qi v4, qu, qi v6, qi v7, qu, ql v9, qw, ql v11, qw, qi v13, qi v14, qi t0, qi ((100 : Int32) + (v6 % (8 : Int32))), qi ((1 : Int32) + (v7 % (100 : Int32))), qi r193, qu, qu, qu, qu, qu, qu, qu, qu, qu, qu, qu]) (S' := [.int t0, .int ((1 : Int32) + (v7 % (100 : Int32))), .int ((100 : Int32) + (v6 % (8 : Int32))), .int v13, .ref 1]) (H' := (qa scr :: bk0 zx zy zao zae zal zam zap zaj zac zad zab zaf zag zah zv zw zz zan zak zaa zai [])) rfl ?_
  obtain ⟨⟨r194, s195, s196, s197, s198, s199, s200, s201, s202, s203, s204, s205, s206, s207, s208, s209, s210, s211, s212, s213⟩, hq180, h⟩ := bnd h
  refine OEndsQ.call0 hm_0 rfl rfl (by decide) rfl (as := [.ref 1, .int v13, .int ((100 : Int32) + (v6 % (8 : Int32))), .int ((1 : Int32) + (v7 % (100 : Int32))), .int t0]) (rest := []) rfl rfl (ok_submit hq180) ?_
  refine OEndsQ.adv hm_0 3 (pc' := 448) (L' := [qr 0, qr 1, qi v2, qi v3, qi v4, qu, qi v6, qi v7, qu, ql v9, qw, ql v11, qw, qi v13, qi v14, qi t0, qi ((100 : Int32) + (v6 % (8 : Int32))), qi ((1 : Int32) + (v7 % (100 : Int32))), qi r193, qi r194, qu, qu, qu, qu, qu, qu, qu, qu, qu, qu]) (S' := [.int 255, .int v2]) (H' := (qa scr :: bk0 s195 s196 s197 s198 s199 s200 s201 s202 s203 s204 s205 s206 s207 s208 zv zw s209 s210 s211 s212 s213 [])) rfl ?_
  by_cases hc181 : v2 = (255 : Int32)
  · simp only [if_pos hc181] at h
    refine OEndsQ.icmpF hm_0 rfl ((teq hc181).2) ?_
    refine OEndsQ.adv hm_0 2 (pc' := 455) (L' := [qr 0, qr 1, qi v2, qi v3, qi v4, qu, qi v6, qi v7, qu, ql v9, qw, ql v11, qw, qi v13, qi v14, qi t0, qi ((100 : Int32) + (v6 % (8 : Int32))), qi ((1 : Int32) + (v7 % (100 : Int32))), qi r193, qi r194, qu, qu, qu, qu, qu, qu, qu, qu, qu, qu]) (S' := [.int (-5), .int r194]) (H' := (qa scr :: bk0 s195 s196 s197 s198 s199 s200 s201 s202 s203 s204 s205 s206 s207 s208 zv zw s209 s210 s211 s212 s213 [])) rfl ?_
    by_cases hc182 : r194 = (-5 : Int32)
    · simp only [if_pos hc182] at h
      refine OEndsQ.icmpF hm_0 rfl ((teq hc182).2) ?_
      refine OEndsQ.adv hm_0 2 (pc' := 460) (L' := [qr 0, qr 1, qi v2, qi v3, qi v4, qu, qi v6, qi v7, qu, ql v9, qw, ql v11, qw, qi v13, qi v14, qi t0, qi ((100 : Int32) + (v6 % (8 : Int32))), qi ((1 : Int32) + (v7 % (100 : Int32))), qi r193, qi r194, qu, qu, qu, qu, qu, qu, qu, qu, qu, qu]) (S' := [.int 0, .ref 1]) (H' := (qa scr :: bk0 s195 s196 s197 s198 s199 s200 s201 s202 s203 s204 s205 s206 s207 s208 zv zw s209 s210 s211 s212 s213 [])) rfl ?_
      obtain ⟨r216, hq183, h⟩ := bnd h
      refine OEndsQ.call0 hm_0 rfl rfl (by decide) rfl (as := [.ref 1, .int 0]) (rest := []) rfl rfl (ok_L_depth hq183) ?_
      refine OEndsQ.adv hm_0 2 (pc' := 466) (L' := [qr 0, qr 1, qi v2, qi v3, qi v4, qu, qi v6, qi v7, qu, ql v9, qw, ql v11, qw, qi v13, qi v14, qi t0, qi ((100 : Int32) + (v6 % (8 : Int32))), qi ((1 : Int32) + (v7 % (100 : Int32))), qi r193, qi r194, qu, qu, qu, qu, qu, qu, qu, qu, qu, qu]) (S' := [.int (XT.cmpL r216 v9)]) (H' := (qa scr :: bk0 s195 s196 s197 s198 s199 s200 s201 s202 s203 s204 s205 s206 s207 s208 zv zw s209 s210 s211 s212 s213 [])) rfl ?_
      by_cases hc184 : r216 = v9
      · simp only [if_pos hc184] at h
        refine OEndsQ.ifF hm_0 rfl ((teq (c_eq.mpr hc184)).2) ?_
        refine OEndsQ.adv hm_0 2 (pc' := 471) (L' := [qr 0, qr 1, qi v2, qi v3, qi v4, qu, qi v6, qi v7, qu, ql v9, qw, ql v11, qw, qi v13, qi v14, qi t0, qi ((100 : Int32) + (v6 % (8 : Int32))), qi ((1 : Int32) + (v7 % (100 : Int32))), qi r193, qi r194, qu, qu, qu, qu, qu, qu, qu, qu, qu, qu]) (S' := [.int 1, .ref 1]) (H' := (qa scr :: bk0 s195 s196 s197 s198 s199 s200 s201 s202 s203 s204 s205 s206 s207 s208 zv zw s209 s210 s211 s212 s213 [])) rfl ?_
        obtain ⟨r217, hq185, h⟩ := bnd h
        refine OEndsQ.call0 hm_0 rfl rfl (by decide) rfl (as := [.ref 1, .int 1]) (rest := []) rfl rfl (ok_L_depth hq185) ?_
        refine OEndsQ.adv hm_0 2 (pc' := 477) (L' := [qr 0, qr 1, qi v2, qi v3, qi v4, qu, qi v6, qi v7, qu, ql v9, qw, ql v11, qw, qi v13, qi v14, qi t0, qi ((100 : Int32) + (v6 % (8 : Int32))), qi ((1 : Int32) + (v7 % (100 : Int32))), qi r193, qi r194, qu, qu, qu, qu, qu, qu, qu, qu, qu, qu]) (S' := [.int (XT.cmpL r217 v11)]) (H' := (qa scr :: bk0 s195 s196 s197 s198 s199 s200 s201 s202 s203 s204 s205 s206 s207 s208 zv zw s209 s210 s211 s212 s213 [])) rfl ?_
        by_cases hc186 : r217 = v11
        · simp only [if_pos hc186] at h
          refine OEndsQ.ifF hm_0 rfl ((teq (c_eq.mpr hc186)).2) ?_
          refine OEndsQ.adv hm_0 1 (pc' := 481) (L' := [qr 0, qr 1, qi v2, qi v3, qi v4, qu, qi v6, qi v7, qu, ql v9, qw, ql v11, qw, qi v13, qi v14, qi t0, qi ((100 : Int32) + (v6 % (8 : Int32))), qi ((1 : Int32) + (v7 % (100 : Int32))), qi r193, qi r194, qu, qu, qu, qu, qu, qu, qu, qu, qu, qu]) (S' := [.ref 1]) (H' := (qa scr :: bk0 s195 s196 s197 s198 s199 s200 s201 s202 s203 s204 s205 s206 s207 s208 zv zw s209 s210 s211 s212 s213 [])) rfl ?_
          obtain ⟨r218, hq187, h⟩ := bnd h
          refine OEndsQ.call0 hm_0 rfl rfl (by decide) rfl (as := [.ref 1]) (rest := []) rfl rfl (ok_fillCount hq187) ?_
          refine OEndsQ.adv hm_0 1 (pc' := 486) (L' := [qr 0, qr 1, qi v2, qi v3, qi v4, qu, qi v6, qi v7, qu, ql v9, qw, ql v11, qw, qi v13, qi v14, qi t0, qi ((100 : Int32) + (v6 % (8 : Int32))), qi ((1 : Int32) + (v7 % (100 : Int32))), qi r193, qi r194, qu, qu, qu, qu, qu, qu, qu, qu, qu, qu]) (S' := [.int r193, .int r218]) (H' := (qa scr :: bk0 s195 s196 s197 s198 s199 s200 s201 s202 s203 s204 s205 s206 s207 s208 zv zw s209 s210 s211 s212 s213 [])) rfl ?_
          by_cases hc188 : r218 = r193
          · simp only [if_pos hc188] at h
            refine OEndsQ.icmpT hm_0 rfl (q := 971) rfl ((teq hc188).1) ?_
            refine OEndsQ.adv hm_0 2 (pc' := 36) (L' := [qr 0, qr 1, qi v2, qi v3, qi (v4 + (1 : Int32)), qu, qi v6, qi v7, qu, ql v9, qw, ql v11, qw, qi v13, qi v14, qi t0, qi ((100 : Int32) + (v6 % (8 : Int32))), qi ((1 : Int32) + (v7 % (100 : Int32))), qi r193, qi r194, qu, qu, qu, qu, qu, qu, qu, qu, qu, qu]) (S' := []) (H' := (qa scr :: bk0 s195 s196 s197 s198 s199 s200 s201 s202 s203 s204 s205 s206 s207 s208 zv zw s209 s210 s211 s212 s213 [])) rfl ?_
            exact hkb h
          · simp only [if_neg hc188] at h
            refine OEndsQ.icmpF hm_0 rfl ((feq hc188).1) ?_
            refine OEndsQ.adv hm_0 1 (pc' := 490) (L' := [qr 0, qr 1, qi v2, qi v3, qi v4, qu, qi v6, qi v7, qu, ql v9, qw, ql v11, qw, qi v13, qi v14, qi t0, qi ((100 : Int32) + (v6 % (8 : Int32))), qi ((1 : Int32) + (v7 % (100 : Int32))), qi r193, qi r194, qu, qu, qu, qu, qu, qu, qu, qu, qu, qu]) (S' := [.int 0]) (H' := (qa scr :: bk0 s195 s196 s197 s198 s199 s200 s201 s202 s203 s204 s205 s206 s207 s208 zv zw s209 s210 s211 s212 s213 [])) rfl ?_
            cases h
            exact OEndsQ.iret hm_0 rfl rfl
        · simp only [if_neg hc186] at h
          refine OEndsQ.ifT hm_0 rfl (q := 489) rfl ((feq (mt c_eq.mp hc186)).2) ?_
          refine OEndsQ.adv hm_0 1 (pc' := 490) (L' := [qr 0, qr 1, qi v2, qi v3, qi v4, qu, qi v6, qi v7, qu, ql v9, qw, ql v11, qw, qi v13, qi v14, qi t0, qi ((100 : Int32) + (v6 % (8 : Int32))), qi ((1 : Int32) + (v7 % (100 : Int32))), qi r193, qi r194, qu, qu, qu, qu, qu, qu, qu, qu, qu, qu]) (S' := [.int 0]) (H' := (qa scr :: bk0 s195 s196 s197 s198 s199 s200 s201 s202 s203 s204 s205 s206 s207 s208 zv zw s209 s210 s211 s212 s213 [])) rfl ?_
          cases h
          exact OEndsQ.iret hm_0 rfl rfl
      · simp only [if_neg hc184] at h
        refine OEndsQ.ifT hm_0 rfl (q := 489) rfl ((feq (mt c_eq.mp hc184)).2) ?_
        refine OEndsQ.adv hm_0 1 (pc' := 490) (L' := [qr 0, qr 1, qi v2, qi v3, qi v4, qu, qi v6, qi v7, qu, ql v9, qw, ql v11, qw, qi v13, qi v14, qi t0, qi ((100 : Int32) + (v6 % (8 : Int32))), qi ((1 : Int32) + (v7 % (100 : Int32))), qi r193, qi r194, qu, qu, qu, qu, qu, qu, qu, qu, qu, qu]) (S' := [.int 0]) (H' := (qa scr :: bk0 s195 s196 s197 s198 s199 s200 s201 s202 s203 s204 s205 s206 s207 s208 zv zw s209 s210 s211 s212 s213 [])) rfl ?_
        cases h
        exact OEndsQ.iret hm_0 rfl rfl
    · simp only [if_neg hc182] at h
      refine OEndsQ.icmpT hm_0 rfl (q := 489) rfl ((feq hc182).2) ?_
      refine OEndsQ.adv hm_0 1 (pc' := 490) (L' := [qr 0, qr 1, qi v2, qi v3, qi v4, qu, qi v6, qi v7, qu, ql v9, qw, ql v11, qw, qi v13, qi v14, qi t0, qi ((100 : Int32) + (v6 % (8 : Int32))), qi ((1 : Int32) + (v7 % (100 : Int32))), qi r193, qi r194, qu, qu, qu, qu, qu, qu, qu, qu, qu, qu]) (S' := [.int 0]) (H' := (qa scr :: bk0 s195 s196 s197 s198 s199 s200 s201 s202 s203 s204 s205 s206 s207 s208 zv zw s209 s210 s211 s212 s213 [])) rfl ?_
      cases h
      exact OEndsQ.iret hm_0 rfl rfl
  · simp only [if_neg hc181] at h
    refine OEndsQ.icmpT hm_0 rfl (q := 491) rfl ((feq hc181).2) ?_
    refine OEndsQ.adv hm_0 3 (pc' := 497) (L' := [qr 0, qr 1, qi (v2 + (1 : Int32)), qi v3, qi v4, qu, qi v6, qi v7, qu, ql v9, qw, ql v11, qw, qi v13, qi v14, qi t0, qi ((100 : Int32) + (v6 % (8 : Int32))), qi ((1 : Int32) + (v7 % (100 : Int32))), qi r193, qi r194, qu, qu, qu, qu, qu, qu, qu, qu, qu, qu]) (S' := [.int (v2 + (1 : Int32)), .int r194]) (H' := (qa scr :: bk0 s195 s196 s197 s198 s199 s200 s201 s202 s203 s204 s205 s206 s207 s208 zv zw s209 s210 s211 s212 s213 [])) rfl ?_
    by_cases hc189 : r194 = (v2 + (1 : Int32))
    · simp only [if_pos hc189] at h
      refine OEndsQ.icmpT hm_0 rfl (q := 502) rfl ((teq hc189).1) ?_
      refine OEndsQ.adv hm_0 2 (pc' := 505) (L' := [qr 0, qr 1, qi (v2 + (1 : Int32)), qi v3, qi v4, qu, qi v6, qi v7, qu, ql v9, qw, ql v11, qw, qi v13, qi v14, qi t0, qi ((100 : Int32) + (v6 % (8 : Int32))), qi ((1 : Int32) + (v7 % (100 : Int32))), qi r193, qi r194, qu, qu, qu, qu, qu, qu, qu, qu, qu, qu]) (S' := [.int r194, .ref 1]) (H' := (qa scr :: bk0 s195 s196 s197 s198 s199 s200 s201 s202 s203 s204 s205 s206 s207 s208 zv zw s209 s210 s211 s212 s213 [])) rfl ?_
      obtain ⟨r214, hq190, h⟩ := bnd h
      refine OEndsQ.call0 hm_0 rfl rfl (by decide) rfl (as := [.ref 1, .int r194]) (rest := []) rfl rfl (ok_filled hq190) ?_
      refine OEndsQ.adv hm_0 2 (pc' := 511) (L' := [qr 0, qr 1, qi (v2 + (1 : Int32)), qi v3, qi v4, qu, qi v6, qi v7, qu, ql v9, qw, ql v11, qw, qi v13, qi v14, qi t0, qi ((100 : Int32) + (v6 % (8 : Int32))), qi ((1 : Int32) + (v7 % (100 : Int32))), qi r193, qi r194, qi r214, qu, qu, qu, qu, qu, qu, qu, qu, qu]) (S' := [.ref 1]) (H' := (qa scr :: bk0 s195 s196 s197 s198 s199 s200 s201 s202 s203 s204 s205 s206 s207 s208 zv zw s209 s210 s211 s212 s213 [])) rfl ?_
      obtain ⟨r215, hq191, h⟩ := bnd h
      refine OEndsQ.call0 hm_0 rfl rfl (by decide) rfl (as := [.ref 1]) (rest := []) rfl rfl (ok_fillCount hq191) ?_
      refine OEndsQ.adv hm_0 5 (pc' := 522) (L' := [qr 0, qr 1, qi (v2 + (1 : Int32)), qi v3, qi v4, qu, qi v6, qi v7, qu, ql v9, qw, ql v11, qw, qi v13, qi v14, qi t0, qi ((100 : Int32) + (v6 % (8 : Int32))), qi ((1 : Int32) + (v7 % (100 : Int32))), qi r193, qi r194, qi r214, qi r215, ql 0, qw, qi 0, qu, qu, qu, qu, qu]) (S' := []) (H' := (qa scr :: bk0 s195 s196 s197 s198 s199 s200 s201 s202 s203 s204 s205 s206 s207 s208 zv zw s209 s210 s211 s212 s213 [])) rfl ?_
      exact ok_L_law_522 (k777 := f_L_law_777 kb scr) (ok_L_law_777 hkb) 100000 h
    · simp only [if_neg hc189] at h
      refine OEndsQ.icmpF hm_0 rfl ((feq hc189).1) ?_
      refine OEndsQ.adv hm_0 1 (pc' := 501) (L' := [qr 0, qr 1, qi (v2 + (1 : Int32)), qi v3, qi v4, qu, qi v6, qi v7, qu, ql v9, qw, ql v11, qw, qi v13, qi v14, qi t0, qi ((100 : Int32) + (v6 % (8 : Int32))), qi ((1 : Int32) + (v7 % (100 : Int32))), qi r193, qi r194, qu, qu, qu, qu, qu, qu, qu, qu, qu, qu]) (S' := [.int 0]) (H' := (qa scr :: bk0 s195 s196 s197 s198 s199 s200 s201 s202 s203 s204 s205 s206 s207 s208 zv zw s209 s210 s211 s212 s213 [])) rfl ?_
      cases h
      exact OEndsQ.iret hm_0 rfl rfl
theorem ok_L_law_158 {scr : List Int32} {kb : List Int32 → List Int32 → List Int32 → List Int32 → List Int32 → List Int64 → List Int32 → List Int32 → List Int32 → List Int32 → List Int32 → List Int32 → List Int32 → List Int32 → Int32 → Int32 → Int32 → Int64 → Int32 → Int32 → Int32 → Int32 → Int32 → Int32 → Option (Int32)} (hkb : ∀ {zx zy zao zae zal : List Int32} {zam : List Int64} {zap zaj zac zad zab zaf zag zah : List Int32} {zv zw zz : Int32} {zan : Int64} {zak zaa zai v2 v3 v4 : Int32} {d5 d6 d7 d8 d9 d10 d11 d12 d13 d14 d15 d16 d17 d18 d19 d20 d21 d22 d23 d24 d25 d26 d27 d28 d29 : Slot} {res : Int32}, kb zx zy zao zae zal zam zap zaj zac zad zab zaf zag zah zv zw zz zan zak zaa zai v2 v3 v4 = some res → OEndsQ own_P 0 36 [qr 0, qr 1, qi v2, qi v3, qi v4, d5, d6, d7, d8, d9, d10, d11, d12, d13, d14, d15, d16, d17, d18, d19, d20, d21, d22, d23, d24, d25, d26, d27, d28, d29] [] (qa scr :: bk0 zx zy zao zae zal zam zap zaj zac zad zab zaf zag zah zv zw zz zan zak zaa zai []) (LawQ res 0 0)) : ∀ {zx zy zao zae zal : List Int32} {zam : List Int64} {zap zaj zac zad zab zaf zag zah : List Int32} {zv zw zz : Int32} {zan : Int64} {zak zaa zai v2 v3 v4 v7 v8 : Int32} {v9 v11 : Int64} {v13 v15 t0 : Int32} {d5 d6 d14 d16 d17 d18 d19 d20 d21 d22 d23 d24 d25 d26 d27 d28 d29 : Slot} {res : Int32}, f_L_law_158 kb scr zx zy zao zae zal zam zap zaj zac zad zab zaf zag zah zv zw zz zan zak zaa zai v2 v3 v4 v7 v8 v9 v11 v13 v15 t0 = some res → OEndsQ own_P 0 158 [qr 0, qr 1, qi v2, qi v3, qi v4, d5, d6, qi v7, qi v8, ql v9, qw, ql v11, qw, qi v13, d14, qi v15, d16, d17, d18, d19, d20, d21, d22, d23, d24, d25, d26, d27, d28, d29] [.int t0] (qa scr :: bk0 zx zy zao zae zal zam zap zaj zac zad zab zaf zag zah zv zw zz zan zak zaa zai []) (LawQ res 0 0) := by
  intro zx zy zao zae zal zam zap zaj zac zad zab zaf zag zah zv zw zz zan zak zaa zai v2 v3 v4 v7 v8 v9 v11 v13 v15 t0 d5 d6 d14 d16 d17 d18 d19 d20 d21 d22 d23 d24 d25 d26 d27 d28 d29 res h
  unfold f_L_law_158 at h
  refine OEndsQ.adv hm_0 3 (pc' := 163) (L' := [qr 0, qr 1, qi v2, qi v3, qi v4, qu, qu, qi v7, qi v8, ql v9, qw, ql v11, qw, qi v13, qu, qi v15, qi t0, qu, qu, qu, qu, qu, qu, qu, qu, qu, qu, qu, qu, qu]) (S' := [.int 5, .int v8]) (H' := (qa scr :: bk0 zx zy zao zae zal zam zap zaj zac zad zab zaf zag zah zv zw zz zan zak zaa zai [])) rfl ?_
  by_cases hc192 : v8 = (5 : Int32)
  · simp only [if_pos hc192] at h
    refine OEndsQ.icmpF hm_0 rfl ((teq hc192).2) ?_
    refine OEndsQ.adv hm_0 2 (pc' := 169) (L' := [qr 0, qr 1, qi v2, qi v3, qi v4, qu, qu, qi v7, qi v8, ql v9, qw, ql v11, qw, qi v13, qu, qi v15, qi t0, qu, qu, qu, qu, qu, qu, qu, qu, qu, qu, qu, qu, qu]) (S' := [.int v13, .ref 1]) (H' := (qa scr :: bk0 zx zy zao zae zal zam zap zaj zac zad zab zaf zag zah zv zw zz zan zak zaa zai [])) rfl ?_
    obtain ⟨⟨r246, s247, s248, s249, s250, s251⟩, hq193, h⟩ := bnd h
    refine OEndsQ.call0 hm_0 rfl rfl (by decide) rfl (as := [.ref 1, .int v13]) (rest := []) rfl rfl (ok_cancel hq193) ?_
    refine OEndsQ.adv hm_0 2 (pc' := 176) (L' := [qr 0, qr 1, qi v2, qi v3, qi v4, qu, qu, qi v7, qi v8, ql v9, qw, ql v11, qw, qi v13, qu, qi v15, qi t0, qi r246, qu, qu, qu, qu, qu, qu, qu, qu, qu, qu, qu, qu]) (S' := [.int t0]) (H' := (qa scr :: bk0 zx zy s247 zae s248 zam s249 s250 zac zad zab zaf zag zah zv zw zz zan s251 zaa zai [])) rfl ?_
    by_cases hc194 : t0 = (0 : Int32)
    · simp only [if_pos hc194] at h
      refine OEndsQ.ifT hm_0 rfl (q := 229) rfl ((teq hc194).1) ?_
      refine OEndsQ.adv hm_0 2 (pc' := 233) (L' := [qr 0, qr 1, qi v2, qi v3, qi v4, qu, qu, qi v7, qi v8, ql v9, qw, ql v11, qw, qi v13, qu, qi v15, qi t0, qi r246, qu, qu, qu, qu, qu, qu, qu, qu, qu, qu, qu, qu]) (S' := [.int (-6), .int r246]) (H' := (qa scr :: bk0 zx zy s247 zae s248 zam s249 s250 zac zad zab zaf zag zah zv zw zz zan s251 zaa zai [])) rfl ?_
      by_cases hc195 : r246 = (-6 : Int32)
      · simp only [if_pos hc195] at h
        refine OEndsQ.icmpF hm_0 rfl ((teq hc195).2) ?_
        refine OEndsQ.adv hm_0 2 (pc' := 238) (L' := [qr 0, qr 1, qi v2, qi v3, qi v4, qu, qu, qi v7, qi v8, ql v9, qw, ql v11, qw, qi v13, qu, qi v15, qi t0, qi r246, qu, qu, qu, qu, qu, qu, qu, qu, qu, qu, qu, qu]) (S' := [.int 0, .ref 1]) (H' := (qa scr :: bk0 zx zy s247 zae s248 zam s249 s250 zac zad zab zaf zag zah zv zw zz zan s251 zaa zai [])) rfl ?_
        obtain ⟨r252, hq196, h⟩ := bnd h
        refine OEndsQ.call0 hm_0 rfl rfl (by decide) rfl (as := [.ref 1, .int 0]) (rest := []) rfl rfl (ok_L_depth hq196) ?_
        refine OEndsQ.adv hm_0 2 (pc' := 244) (L' := [qr 0, qr 1, qi v2, qi v3, qi v4, qu, qu, qi v7, qi v8, ql v9, qw, ql v11, qw, qi v13, qu, qi v15, qi t0, qi r246, qu, qu, qu, qu, qu, qu, qu, qu, qu, qu, qu, qu]) (S' := [.int (XT.cmpL r252 v9)]) (H' := (qa scr :: bk0 zx zy s247 zae s248 zam s249 s250 zac zad zab zaf zag zah zv zw zz zan s251 zaa zai [])) rfl ?_
        by_cases hc197 : r252 = v9
        · simp only [if_pos hc197] at h
          refine OEndsQ.ifF hm_0 rfl ((teq (c_eq.mpr hc197)).2) ?_
          refine OEndsQ.adv hm_0 2 (pc' := 249) (L' := [qr 0, qr 1, qi v2, qi v3, qi v4, qu, qu, qi v7, qi v8, ql v9, qw, ql v11, qw, qi v13, qu, qi v15, qi t0, qi r246, qu, qu, qu, qu, qu, qu, qu, qu, qu, qu, qu, qu]) (S' := [.int 1, .ref 1]) (H' := (qa scr :: bk0 zx zy s247 zae s248 zam s249 s250 zac zad zab zaf zag zah zv zw zz zan s251 zaa zai [])) rfl ?_
          obtain ⟨r253, hq198, h⟩ := bnd h
          refine OEndsQ.call0 hm_0 rfl rfl (by decide) rfl (as := [.ref 1, .int 1]) (rest := []) rfl rfl (ok_L_depth hq198) ?_
          refine OEndsQ.adv hm_0 2 (pc' := 255) (L' := [qr 0, qr 1, qi v2, qi v3, qi v4, qu, qu, qi v7, qi v8, ql v9, qw, ql v11, qw, qi v13, qu, qi v15, qi t0, qi r246, qu, qu, qu, qu, qu, qu, qu, qu, qu, qu, qu, qu]) (S' := [.int (XT.cmpL r253 v11)]) (H' := (qa scr :: bk0 zx zy s247 zae s248 zam s249 s250 zac zad zab zaf zag zah zv zw zz zan s251 zaa zai [])) rfl ?_
          by_cases hc199 : r253 = v11
          · simp only [if_pos hc199] at h
            refine OEndsQ.ifT hm_0 rfl (q := 260) rfl ((teq (c_eq.mpr hc199)).1) ?_
            refine OEndsQ.adv hm_0 3 (pc' := 36) (L' := [qr 0, qr 1, qi v2, qi v3, qi (v4 + (1 : Int32)), qu, qu, qi v7, qi v8, ql v9, qw, ql v11, qw, qi v13, qu, qi v15, qi t0, qi r246, qu, qu, qu, qu, qu, qu, qu, qu, qu, qu, qu, qu]) (S' := []) (H' := (qa scr :: bk0 zx zy s247 zae s248 zam s249 s250 zac zad zab zaf zag zah zv zw zz zan s251 zaa zai [])) rfl ?_
            exact hkb h
          · simp only [if_neg hc199] at h
            refine OEndsQ.ifF hm_0 rfl ((feq (mt c_eq.mp hc199)).1) ?_
            refine OEndsQ.adv hm_0 1 (pc' := 259) (L' := [qr 0, qr 1, qi v2, qi v3, qi v4, qu, qu, qi v7, qi v8, ql v9, qw, ql v11, qw, qi v13, qu, qi v15, qi t0, qi r246, qu, qu, qu, qu, qu, qu, qu, qu, qu, qu, qu, qu]) (S' := [.int 0]) (H' := (qa scr :: bk0 zx zy s247 zae s248 zam s249 s250 zac zad zab zaf zag zah zv zw zz zan s251 zaa zai [])) rfl ?_
            cases h
            exact OEndsQ.iret hm_0 rfl rfl
        · simp only [if_neg hc197] at h
          refine OEndsQ.ifT hm_0 rfl (q := 258) rfl ((feq (mt c_eq.mp hc197)).2) ?_
          refine OEndsQ.adv hm_0 1 (pc' := 259) (L' := [qr 0, qr 1, qi v2, qi v3, qi v4, qu, qu, qi v7, qi v8, ql v9, qw, ql v11, qw, qi v13, qu, qi v15, qi t0, qi r246, qu, qu, qu, qu, qu, qu, qu, qu, qu, qu, qu, qu]) (S' := [.int 0]) (H' := (qa scr :: bk0 zx zy s247 zae s248 zam s249 s250 zac zad zab zaf zag zah zv zw zz zan s251 zaa zai [])) rfl ?_
          cases h
          exact OEndsQ.iret hm_0 rfl rfl
      · simp only [if_neg hc195] at h
        refine OEndsQ.icmpT hm_0 rfl (q := 258) rfl ((feq hc195).2) ?_
        refine OEndsQ.adv hm_0 1 (pc' := 259) (L' := [qr 0, qr 1, qi v2, qi v3, qi v4, qu, qu, qi v7, qi v8, ql v9, qw, ql v11, qw, qi v13, qu, qi v15, qi t0, qi r246, qu, qu, qu, qu, qu, qu, qu, qu, qu, qu, qu, qu]) (S' := [.int 0]) (H' := (qa scr :: bk0 zx zy s247 zae s248 zam s249 s250 zac zad zab zaf zag zah zv zw zz zan s251 zaa zai [])) rfl ?_
        cases h
        exact OEndsQ.iret hm_0 rfl rfl
    · simp only [if_neg hc194] at h
      refine OEndsQ.ifF hm_0 rfl ((feq hc194).1) ?_
      refine OEndsQ.adv hm_0 1 (pc' := 181) (L' := [qr 0, qr 1, qi v2, qi v3, qi v4, qu, qu, qi v7, qi v8, ql v9, qw, ql v11, qw, qi v13, qu, qi v15, qi t0, qi r246, qu, qu, qu, qu, qu, qu, qu, qu, qu, qu, qu, qu]) (S' := [.int r246]) (H' := (qa scr :: bk0 zx zy s247 zae s248 zam s249 s250 zac zad zab zaf zag zah zv zw zz zan s251 zaa zai [])) rfl ?_
      by_cases hc200 : r246 = (0 : Int32)
      · simp only [if_pos hc200] at h
        refine OEndsQ.ifF hm_0 rfl ((teq hc200).2) ?_
        refine OEndsQ.adv hm_0 2 (pc' := 187) (L' := [qr 0, qr 1, qi v2, qi v3, qi v4, qu, qu, qi v7, qi v8, ql v9, qw, ql v11, qw, qi v13, qu, qi v15, qi t0, qi r246, qu, qu, qu, qu, qu, qu, qu, qu, qu, qu, qu, qu]) (S' := [.int v13, .ref 1]) (H' := (qa scr :: bk0 zx zy s247 zae s248 zam s249 s250 zac zad zab zaf zag zah zv zw zz zan s251 zaa zai [])) rfl ?_
        obtain ⟨r254, hq201, h⟩ := bnd h
        refine OEndsQ.call0 hm_0 rfl rfl (by decide) rfl (as := [.ref 1, .int v13]) (rest := []) rfl rfl (ok_status hq201) ?_
        refine OEndsQ.adv hm_0 1 (pc' := 191) (L' := [qr 0, qr 1, qi v2, qi v3, qi v4, qu, qu, qi v7, qi v8, ql v9, qw, ql v11, qw, qi v13, qu, qi v15, qi t0, qi r246, qu, qu, qu, qu, qu, qu, qu, qu, qu, qu, qu, qu]) (S' := [.int 3, .int r254]) (H' := (qa scr :: bk0 zx zy s247 zae s248 zam s249 s250 zac zad zab zaf zag zah zv zw zz zan s251 zaa zai [])) rfl ?_
        by_cases hc202 : r254 = (3 : Int32)
        · simp only [if_pos hc202] at h
          refine OEndsQ.icmpF hm_0 rfl ((teq hc202).2) ?_
          refine OEndsQ.adv hm_0 2 (pc' := 197) (L' := [qr 0, qr 1, qi v2, qi v3, qi v4, qu, qu, qi v7, qi v8, ql v9, qw, ql v11, qw, qi v13, qu, qi v15, qi t0, qi r246, qu, qu, qu, qu, qu, qu, qu, qu, qu, qu, qu, qu]) (S' := [.int v13, .ref 1]) (H' := (qa scr :: bk0 zx zy s247 zae s248 zam s249 s250 zac zad zab zaf zag zah zv zw zz zan s251 zaa zai [])) rfl ?_
          obtain ⟨r255, hq203, h⟩ := bnd h
          refine OEndsQ.call0 hm_0 rfl rfl (by decide) rfl (as := [.ref 1, .int v13]) (rest := []) rfl rfl (ok_remaining hq203) ?_
          show OEndsQ own_P 0 200 [qr 0, qr 1, qi v2, qi v3, qi v4, qu, qu, qi v7, qi v8, ql v9, qw, ql v11, qw, qi v13, qu, qi v15, qi t0, qi r246, qu, qu, qu, qu, qu, qu, qu, qu, qu, qu, qu, qu] [.int r255] (qa scr :: bk0 zx zy s247 zae s248 zam s249 s250 zac zad zab zaf zag zah zv zw zz zan s251 zaa zai []) _
          by_cases hc204 : r255 = (0 : Int32)
          · simp only [if_pos hc204] at h
            refine OEndsQ.ifF hm_0 rfl ((teq hc204).2) ?_
            refine OEndsQ.adv hm_0 2 (pc' := 205) (L' := [qr 0, qr 1, qi v2, qi v3, qi v4, qu, qu, qi v7, qi v8, ql v9, qw, ql v11, qw, qi v13, qu, qi v15, qi t0, qi r246, qu, qu, qu, qu, qu, qu, qu, qu, qu, qu, qu, qu]) (S' := [.int 0, .ref 1]) (H' := (qa scr :: bk0 zx zy s247 zae s248 zam s249 s250 zac zad zab zaf zag zah zv zw zz zan s251 zaa zai [])) rfl ?_
            obtain ⟨r256, hq205, h⟩ := bnd h
            refine OEndsQ.call0 hm_0 rfl rfl (by decide) rfl (as := [.ref 1, .int 0]) (rest := []) rfl rfl (ok_L_depth hq205) ?_
            refine OEndsQ.adv hm_0 2 (pc' := 210) (L' := [qr 0, qr 1, qi v2, qi v3, qi v4, qu, qu, qi v7, qi v8, ql v9, qw, ql v11, qw, qi v13, qu, qi v15, qi t0, qi r246, qu, qu, qu, qu, qu, qu, qu, qu, qu, qu, qu, qu]) (S' := [.int 1, .ref 1, .long r256]) (H' := (qa scr :: bk0 zx zy s247 zae s248 zam s249 s250 zac zad zab zaf zag zah zv zw zz zan s251 zaa zai [])) rfl ?_
            obtain ⟨r257, hq206, h⟩ := bnd h
            refine OEndsQ.call0 hm_0 rfl rfl (by decide) rfl (as := [.ref 1, .int 1]) (rest := [.long r256]) rfl rfl (ok_L_depth hq206) ?_
            refine OEndsQ.adv hm_0 8 (pc' := 224) (L' := [qr 0, qr 1, qi v2, qi v3, qi v4, qu, qu, qi v7, qi v8, ql v9, qw, ql v11, qw, qi v13, qu, qi v15, qi t0, qi r246, qu, qu, qu, qu, qu, qu, qu, qu, qu, qu, qu, qu]) (S' := [.int (XT.cmpL (r256 + r257) ((v9 + v11) - v15.toInt64))]) (H' := (qa scr :: bk0 zx zy s247 zae s248 zam s249 s250 zac zad zab zaf zag zah zv zw zz zan s251 zaa zai [])) rfl ?_
            by_cases hc207 : (r256 + r257) = ((v9 + v11) - v15.toInt64)
            · simp only [if_pos hc207] at h
              refine OEndsQ.ifT hm_0 rfl (q := 260) rfl ((teq (c_eq.mpr hc207)).1) ?_
              refine OEndsQ.adv hm_0 3 (pc' := 36) (L' := [qr 0, qr 1, qi v2, qi v3, qi (v4 + (1 : Int32)), qu, qu, qi v7, qi v8, ql v9, qw, ql v11, qw, qi v13, qu, qi v15, qi t0, qi r246, qu, qu, qu, qu, qu, qu, qu, qu, qu, qu, qu, qu]) (S' := []) (H' := (qa scr :: bk0 zx zy s247 zae s248 zam s249 s250 zac zad zab zaf zag zah zv zw zz zan s251 zaa zai [])) rfl ?_
              exact hkb h
            · simp only [if_neg hc207] at h
              refine OEndsQ.ifF hm_0 rfl ((feq (mt c_eq.mp hc207)).1) ?_
              refine OEndsQ.adv hm_0 1 (pc' := 228) (L' := [qr 0, qr 1, qi v2, qi v3, qi v4, qu, qu, qi v7, qi v8, ql v9, qw, ql v11, qw, qi v13, qu, qi v15, qi t0, qi r246, qu, qu, qu, qu, qu, qu, qu, qu, qu, qu, qu, qu]) (S' := [.int 0]) (H' := (qa scr :: bk0 zx zy s247 zae s248 zam s249 s250 zac zad zab zaf zag zah zv zw zz zan s251 zaa zai [])) rfl ?_
              cases h
              exact OEndsQ.iret hm_0 rfl rfl
          · simp only [if_neg hc204] at h
            refine OEndsQ.ifT hm_0 rfl (q := 227) rfl ((feq hc204).2) ?_
            refine OEndsQ.adv hm_0 1 (pc' := 228) (L' := [qr 0, qr 1, qi v2, qi v3, qi v4, qu, qu, qi v7, qi v8, ql v9, qw, ql v11, qw, qi v13, qu, qi v15, qi t0, qi r246, qu, qu, qu, qu, qu, qu, qu, qu, qu, qu, qu, qu]) (S' := [.int 0]) (H' := (qa scr :: bk0 zx zy s247 zae s248 zam s249 s250 zac zad zab zaf zag zah zv zw zz zan s251 zaa zai [])) rfl ?_
            cases h
            exact OEndsQ.iret hm_0 rfl rfl
        · simp only [if_neg hc202] at h
          refine OEndsQ.icmpT hm_0 rfl (q := 227) rfl ((feq hc202).2) ?_
          refine OEndsQ.adv hm_0 1 (pc' := 228) (L' := [qr 0, qr 1, qi v2, qi v3, qi v4, qu, qu, qi v7, qi v8, ql v9, qw, ql v11, qw, qi v13, qu, qi v15, qi t0, qi r246, qu, qu, qu, qu, qu, qu, qu, qu, qu, qu, qu, qu]) (S' := [.int 0]) (H' := (qa scr :: bk0 zx zy s247 zae s248 zam s249 s250 zac zad zab zaf zag zah zv zw zz zan s251 zaa zai [])) rfl ?_
          cases h
          exact OEndsQ.iret hm_0 rfl rfl
      · simp only [if_neg hc200] at h
        refine OEndsQ.ifT hm_0 rfl (q := 227) rfl ((feq hc200).2) ?_
        refine OEndsQ.adv hm_0 1 (pc' := 228) (L' := [qr 0, qr 1, qi v2, qi v3, qi v4, qu, qu, qi v7, qi v8, ql v9, qw, ql v11, qw, qi v13, qu, qi v15, qi t0, qi r246, qu, qu, qu, qu, qu, qu, qu, qu, qu, qu, qu, qu]) (S' := [.int 0]) (H' := (qa scr :: bk0 zx zy s247 zae s248 zam s249 s250 zac zad zab zaf zag zah zv zw zz zan s251 zaa zai [])) rfl ?_
        cases h
        exact OEndsQ.iret hm_0 rfl rfl
  · simp only [if_neg hc192] at h
    refine OEndsQ.icmpT hm_0 rfl (q := 263) rfl ((feq hc192).2) ?_
    refine OEndsQ.adv hm_0 9 (pc' := 277) (L' := [qr 0, qr 1, qi v2, qi v3, qi v4, qu, qu, qi v7, qi v8, ql v9, qw, ql v11, qw, qi v13, qu, qi v15, qi t0, qi ((1 : Int32) + (v7 % (64 : Int32))), qu, qu, qu, qu, qu, qu, qu, qu, qu, qu, qu, qu]) (S' := [.int ((1 : Int32) + (v7 % (64 : Int32))), .int v13, .ref 1]) (H' := (qa scr :: bk0 zx zy zao zae zal zam zap zaj zac zad zab zaf zag zah zv zw zz zan zak zaa zai [])) rfl ?_
    obtain ⟨⟨r235, s236, s237, s238, s239⟩, hq208, h⟩ := bnd h
    refine OEndsQ.call0 hm_0 rfl rfl (by decide) rfl (as := [.ref 1, .int v13, .int ((1 : Int32) + (v7 % (64 : Int32)))]) (rest := []) rfl rfl (ok_amend hq208) ?_
    refine OEndsQ.adv hm_0 2 (pc' := 284) (L' := [qr 0, qr 1, qi v2, qi v3, qi v4, qu, qu, qi v7, qi v8, ql v9, qw, ql v11, qw, qi v13, qu, qi v15, qi t0, qi ((1 : Int32) + (v7 % (64 : Int32))), qi r235, qu, qu, qu, qu, qu, qu, qu, qu, qu, qu, qu]) (S' := [.int t0]) (H' := (qa scr :: bk0 zx zy s236 zae zal s237 s238 zaj zac zad zab zaf zag zah zv zw zz s239 zak zaa zai [])) rfl ?_
    by_cases hc209 : t0 = (0 : Int32)
    · simp only [if_pos hc209] at h
      refine OEndsQ.ifT hm_0 rfl (q := 343) rfl ((teq hc209).1) ?_
      refine OEndsQ.adv hm_0 2 (pc' := 347) (L' := [qr 0, qr 1, qi v2, qi v3, qi v4, qu, qu, qi v7, qi v8, ql v9, qw, ql v11, qw, qi v13, qu, qi v15, qi t0, qi ((1 : Int32) + (v7 % (64 : Int32))), qi r235, qu, qu, qu, qu, qu, qu, qu, qu, qu, qu, qu]) (S' := [.int (-6), .int r235]) (H' := (qa scr :: bk0 zx zy s236 zae zal s237 s238 zaj zac zad zab zaf zag zah zv zw zz s239 zak zaa zai [])) rfl ?_
      by_cases hc210 : r235 = (-6 : Int32)
      · simp only [if_pos hc210] at h
        refine OEndsQ.icmpF hm_0 rfl ((teq hc210).2) ?_
        refine OEndsQ.adv hm_0 2 (pc' := 352) (L' := [qr 0, qr 1, qi v2, qi v3, qi v4, qu, qu, qi v7, qi v8, ql v9, qw, ql v11, qw, qi v13, qu, qi v15, qi t0, qi ((1 : Int32) + (v7 % (64 : Int32))), qi r235, qu, qu, qu, qu, qu, qu, qu, qu, qu, qu, qu]) (S' := [.int 0, .ref 1]) (H' := (qa scr :: bk0 zx zy s236 zae zal s237 s238 zaj zac zad zab zaf zag zah zv zw zz s239 zak zaa zai [])) rfl ?_
        obtain ⟨r240, hq211, h⟩ := bnd h
        refine OEndsQ.call0 hm_0 rfl rfl (by decide) rfl (as := [.ref 1, .int 0]) (rest := []) rfl rfl (ok_L_depth hq211) ?_
        refine OEndsQ.adv hm_0 2 (pc' := 358) (L' := [qr 0, qr 1, qi v2, qi v3, qi v4, qu, qu, qi v7, qi v8, ql v9, qw, ql v11, qw, qi v13, qu, qi v15, qi t0, qi ((1 : Int32) + (v7 % (64 : Int32))), qi r235, qu, qu, qu, qu, qu, qu, qu, qu, qu, qu, qu]) (S' := [.int (XT.cmpL r240 v9)]) (H' := (qa scr :: bk0 zx zy s236 zae zal s237 s238 zaj zac zad zab zaf zag zah zv zw zz s239 zak zaa zai [])) rfl ?_
        by_cases hc212 : r240 = v9
        · simp only [if_pos hc212] at h
          refine OEndsQ.ifF hm_0 rfl ((teq (c_eq.mpr hc212)).2) ?_
          refine OEndsQ.adv hm_0 2 (pc' := 363) (L' := [qr 0, qr 1, qi v2, qi v3, qi v4, qu, qu, qi v7, qi v8, ql v9, qw, ql v11, qw, qi v13, qu, qi v15, qi t0, qi ((1 : Int32) + (v7 % (64 : Int32))), qi r235, qu, qu, qu, qu, qu, qu, qu, qu, qu, qu, qu]) (S' := [.int 1, .ref 1]) (H' := (qa scr :: bk0 zx zy s236 zae zal s237 s238 zaj zac zad zab zaf zag zah zv zw zz s239 zak zaa zai [])) rfl ?_
          obtain ⟨r241, hq213, h⟩ := bnd h
          refine OEndsQ.call0 hm_0 rfl rfl (by decide) rfl (as := [.ref 1, .int 1]) (rest := []) rfl rfl (ok_L_depth hq213) ?_
          refine OEndsQ.adv hm_0 2 (pc' := 369) (L' := [qr 0, qr 1, qi v2, qi v3, qi v4, qu, qu, qi v7, qi v8, ql v9, qw, ql v11, qw, qi v13, qu, qi v15, qi t0, qi ((1 : Int32) + (v7 % (64 : Int32))), qi r235, qu, qu, qu, qu, qu, qu, qu, qu, qu, qu, qu]) (S' := [.int (XT.cmpL r241 v11)]) (H' := (qa scr :: bk0 zx zy s236 zae zal s237 s238 zaj zac zad zab zaf zag zah zv zw zz s239 zak zaa zai [])) rfl ?_
          by_cases hc214 : r241 = v11
          · simp only [if_pos hc214] at h
            refine OEndsQ.ifT hm_0 rfl (q := 374) rfl ((teq (c_eq.mpr hc214)).1) ?_
            refine OEndsQ.adv hm_0 3 (pc' := 36) (L' := [qr 0, qr 1, qi v2, qi v3, qi (v4 + (1 : Int32)), qu, qu, qi v7, qi v8, ql v9, qw, ql v11, qw, qi v13, qu, qi v15, qi t0, qi ((1 : Int32) + (v7 % (64 : Int32))), qi r235, qu, qu, qu, qu, qu, qu, qu, qu, qu, qu, qu]) (S' := []) (H' := (qa scr :: bk0 zx zy s236 zae zal s237 s238 zaj zac zad zab zaf zag zah zv zw zz s239 zak zaa zai [])) rfl ?_
            exact hkb h
          · simp only [if_neg hc214] at h
            refine OEndsQ.ifF hm_0 rfl ((feq (mt c_eq.mp hc214)).1) ?_
            refine OEndsQ.adv hm_0 1 (pc' := 373) (L' := [qr 0, qr 1, qi v2, qi v3, qi v4, qu, qu, qi v7, qi v8, ql v9, qw, ql v11, qw, qi v13, qu, qi v15, qi t0, qi ((1 : Int32) + (v7 % (64 : Int32))), qi r235, qu, qu, qu, qu, qu, qu, qu, qu, qu, qu, qu]) (S' := [.int 0]) (H' := (qa scr :: bk0 zx zy s236 zae zal s237 s238 zaj zac zad zab zaf zag zah zv zw zz s239 zak zaa zai [])) rfl ?_
            cases h
            exact OEndsQ.iret hm_0 rfl rfl
        · simp only [if_neg hc212] at h
          refine OEndsQ.ifT hm_0 rfl (q := 372) rfl ((feq (mt c_eq.mp hc212)).2) ?_
          refine OEndsQ.adv hm_0 1 (pc' := 373) (L' := [qr 0, qr 1, qi v2, qi v3, qi v4, qu, qu, qi v7, qi v8, ql v9, qw, ql v11, qw, qi v13, qu, qi v15, qi t0, qi ((1 : Int32) + (v7 % (64 : Int32))), qi r235, qu, qu, qu, qu, qu, qu, qu, qu, qu, qu, qu]) (S' := [.int 0]) (H' := (qa scr :: bk0 zx zy s236 zae zal s237 s238 zaj zac zad zab zaf zag zah zv zw zz s239 zak zaa zai [])) rfl ?_
          cases h
          exact OEndsQ.iret hm_0 rfl rfl
      · simp only [if_neg hc210] at h
        refine OEndsQ.icmpT hm_0 rfl (q := 372) rfl ((feq hc210).2) ?_
        refine OEndsQ.adv hm_0 1 (pc' := 373) (L' := [qr 0, qr 1, qi v2, qi v3, qi v4, qu, qu, qi v7, qi v8, ql v9, qw, ql v11, qw, qi v13, qu, qi v15, qi t0, qi ((1 : Int32) + (v7 % (64 : Int32))), qi r235, qu, qu, qu, qu, qu, qu, qu, qu, qu, qu, qu]) (S' := [.int 0]) (H' := (qa scr :: bk0 zx zy s236 zae zal s237 s238 zaj zac zad zab zaf zag zah zv zw zz s239 zak zaa zai [])) rfl ?_
        cases h
        exact OEndsQ.iret hm_0 rfl rfl
    · simp only [if_neg hc209] at h
      refine OEndsQ.ifF hm_0 rfl ((feq hc209).1) ?_
      refine OEndsQ.adv hm_0 1 (pc' := 289) (L' := [qr 0, qr 1, qi v2, qi v3, qi v4, qu, qu, qi v7, qi v8, ql v9, qw, ql v11, qw, qi v13, qu, qi v15, qi t0, qi ((1 : Int32) + (v7 % (64 : Int32))), qi r235, qu, qu, qu, qu, qu, qu, qu, qu, qu, qu, qu]) (S' := [.int r235]) (H' := (qa scr :: bk0 zx zy s236 zae zal s237 s238 zaj zac zad zab zaf zag zah zv zw zz s239 zak zaa zai [])) rfl ?_
      by_cases hc215 : r235 = (0 : Int32)
      · simp only [if_pos hc215] at h
        refine OEndsQ.ifF hm_0 rfl ((teq hc215).2) ?_
        refine OEndsQ.adv hm_0 2 (pc' := 295) (L' := [qr 0, qr 1, qi v2, qi v3, qi v4, qu, qu, qi v7, qi v8, ql v9, qw, ql v11, qw, qi v13, qu, qi v15, qi t0, qi ((1 : Int32) + (v7 % (64 : Int32))), qi r235, qu, qu, qu, qu, qu, qu, qu, qu, qu, qu, qu]) (S' := [.int v13, .ref 1]) (H' := (qa scr :: bk0 zx zy s236 zae zal s237 s238 zaj zac zad zab zaf zag zah zv zw zz s239 zak zaa zai [])) rfl ?_
        obtain ⟨r242, hq216, h⟩ := bnd h
        refine OEndsQ.call0 hm_0 rfl rfl (by decide) rfl (as := [.ref 1, .int v13]) (rest := []) rfl rfl (ok_status hq216) ?_
        refine OEndsQ.adv hm_0 1 (pc' := 299) (L' := [qr 0, qr 1, qi v2, qi v3, qi v4, qu, qu, qi v7, qi v8, ql v9, qw, ql v11, qw, qi v13, qu, qi v15, qi t0, qi ((1 : Int32) + (v7 % (64 : Int32))), qi r235, qu, qu, qu, qu, qu, qu, qu, qu, qu, qu, qu]) (S' := [.int 1, .int r242]) (H' := (qa scr :: bk0 zx zy s236 zae zal s237 s238 zaj zac zad zab zaf zag zah zv zw zz s239 zak zaa zai [])) rfl ?_
        by_cases hc217 : r242 = (1 : Int32)
        · simp only [if_pos hc217] at h
          refine OEndsQ.icmpF hm_0 rfl ((teq hc217).2) ?_
          refine OEndsQ.adv hm_0 2 (pc' := 305) (L' := [qr 0, qr 1, qi v2, qi v3, qi v4, qu, qu, qi v7, qi v8, ql v9, qw, ql v11, qw, qi v13, qu, qi v15, qi t0, qi ((1 : Int32) + (v7 % (64 : Int32))), qi r235, qu, qu, qu, qu, qu, qu, qu, qu, qu, qu, qu]) (S' := [.int v13, .ref 1]) (H' := (qa scr :: bk0 zx zy s236 zae zal s237 s238 zaj zac zad zab zaf zag zah zv zw zz s239 zak zaa zai [])) rfl ?_
          obtain ⟨r243, hq218, h⟩ := bnd h
          refine OEndsQ.call0 hm_0 rfl rfl (by decide) rfl (as := [.ref 1, .int v13]) (rest := []) rfl rfl (ok_remaining hq218) ?_
          refine OEndsQ.adv hm_0 1 (pc' := 310) (L' := [qr 0, qr 1, qi v2, qi v3, qi v4, qu, qu, qi v7, qi v8, ql v9, qw, ql v11, qw, qi v13, qu, qi v15, qi t0, qi ((1 : Int32) + (v7 % (64 : Int32))), qi r235, qu, qu, qu, qu, qu, qu, qu, qu, qu, qu, qu]) (S' := [.int ((1 : Int32) + (v7 % (64 : Int32))), .int r243]) (H' := (qa scr :: bk0 zx zy s236 zae zal s237 s238 zaj zac zad zab zaf zag zah zv zw zz s239 zak zaa zai [])) rfl ?_
          by_cases hc219 : r243 = ((1 : Int32) + (v7 % (64 : Int32)))
          · simp only [if_pos hc219] at h
            refine OEndsQ.icmpF hm_0 rfl ((teq hc219).2) ?_
            refine OEndsQ.adv hm_0 2 (pc' := 315) (L' := [qr 0, qr 1, qi v2, qi v3, qi v4, qu, qu, qi v7, qi v8, ql v9, qw, ql v11, qw, qi v13, qu, qi v15, qi t0, qi ((1 : Int32) + (v7 % (64 : Int32))), qi r235, qu, qu, qu, qu, qu, qu, qu, qu, qu, qu, qu]) (S' := [.int 0, .ref 1]) (H' := (qa scr :: bk0 zx zy s236 zae zal s237 s238 zaj zac zad zab zaf zag zah zv zw zz s239 zak zaa zai [])) rfl ?_
            obtain ⟨r244, hq220, h⟩ := bnd h
            refine OEndsQ.call0 hm_0 rfl rfl (by decide) rfl (as := [.ref 1, .int 0]) (rest := []) rfl rfl (ok_L_depth hq220) ?_
            refine OEndsQ.adv hm_0 2 (pc' := 320) (L' := [qr 0, qr 1, qi v2, qi v3, qi v4, qu, qu, qi v7, qi v8, ql v9, qw, ql v11, qw, qi v13, qu, qi v15, qi t0, qi ((1 : Int32) + (v7 % (64 : Int32))), qi r235, qu, qu, qu, qu, qu, qu, qu, qu, qu, qu, qu]) (S' := [.int 1, .ref 1, .long r244]) (H' := (qa scr :: bk0 zx zy s236 zae zal s237 s238 zaj zac zad zab zaf zag zah zv zw zz s239 zak zaa zai [])) rfl ?_
            obtain ⟨r245, hq221, h⟩ := bnd h
            refine OEndsQ.call0 hm_0 rfl rfl (by decide) rfl (as := [.ref 1, .int 1]) (rest := [.long r244]) rfl rfl (ok_L_depth hq221) ?_
            refine OEndsQ.adv hm_0 11 (pc' := 338) (L' := [qr 0, qr 1, qi v2, qi v3, qi v4, qu, qu, qi v7, qi v8, ql v9, qw, ql v11, qw, qi v13, qu, qi v15, qi t0, qi ((1 : Int32) + (v7 % (64 : Int32))), qi r235, qu, qu, qu, qu, qu, qu, qu, qu, qu, qu, qu]) (S' := [.int (XT.cmpL (r244 + r245) (((v9 + v11) - v15.toInt64) + ((1 : Int32) + (v7 % (64 : Int32))).toInt64))]) (H' := (qa scr :: bk0 zx zy s236 zae zal s237 s238 zaj zac zad zab zaf zag zah zv zw zz s239 zak zaa zai [])) rfl ?_
            by_cases hc222 : (r244 + r245) = (((v9 + v11) - v15.toInt64) + ((1 : Int32) + (v7 % (64 : Int32))).toInt64)
            · simp only [if_pos hc222] at h
              refine OEndsQ.ifT hm_0 rfl (q := 374) rfl ((teq (c_eq.mpr hc222)).1) ?_
              refine OEndsQ.adv hm_0 3 (pc' := 36) (L' := [qr 0, qr 1, qi v2, qi v3, qi (v4 + (1 : Int32)), qu, qu, qi v7, qi v8, ql v9, qw, ql v11, qw, qi v13, qu, qi v15, qi t0, qi ((1 : Int32) + (v7 % (64 : Int32))), qi r235, qu, qu, qu, qu, qu, qu, qu, qu, qu, qu, qu]) (S' := []) (H' := (qa scr :: bk0 zx zy s236 zae zal s237 s238 zaj zac zad zab zaf zag zah zv zw zz s239 zak zaa zai [])) rfl ?_
              exact hkb h
            · simp only [if_neg hc222] at h
              refine OEndsQ.ifF hm_0 rfl ((feq (mt c_eq.mp hc222)).1) ?_
              refine OEndsQ.adv hm_0 1 (pc' := 342) (L' := [qr 0, qr 1, qi v2, qi v3, qi v4, qu, qu, qi v7, qi v8, ql v9, qw, ql v11, qw, qi v13, qu, qi v15, qi t0, qi ((1 : Int32) + (v7 % (64 : Int32))), qi r235, qu, qu, qu, qu, qu, qu, qu, qu, qu, qu, qu]) (S' := [.int 0]) (H' := (qa scr :: bk0 zx zy s236 zae zal s237 s238 zaj zac zad zab zaf zag zah zv zw zz s239 zak zaa zai [])) rfl ?_
              cases h
              exact OEndsQ.iret hm_0 rfl rfl
          · simp only [if_neg hc219] at h
            refine OEndsQ.icmpT hm_0 rfl (q := 341) rfl ((feq hc219).2) ?_
            refine OEndsQ.adv hm_0 1 (pc' := 342) (L' := [qr 0, qr 1, qi v2, qi v3, qi v4, qu, qu, qi v7, qi v8, ql v9, qw, ql v11, qw, qi v13, qu, qi v15, qi t0, qi ((1 : Int32) + (v7 % (64 : Int32))), qi r235, qu, qu, qu, qu, qu, qu, qu, qu, qu, qu, qu]) (S' := [.int 0]) (H' := (qa scr :: bk0 zx zy s236 zae zal s237 s238 zaj zac zad zab zaf zag zah zv zw zz s239 zak zaa zai [])) rfl ?_
            cases h
            exact OEndsQ.iret hm_0 rfl rfl
        · simp only [if_neg hc217] at h
          refine OEndsQ.icmpT hm_0 rfl (q := 341) rfl ((feq hc217).2) ?_
          refine OEndsQ.adv hm_0 1 (pc' := 342) (L' := [qr 0, qr 1, qi v2, qi v3, qi v4, qu, qu, qi v7, qi v8, ql v9, qw, ql v11, qw, qi v13, qu, qi v15, qi t0, qi ((1 : Int32) + (v7 % (64 : Int32))), qi r235, qu, qu, qu, qu, qu, qu, qu, qu, qu, qu, qu]) (S' := [.int 0]) (H' := (qa scr :: bk0 zx zy s236 zae zal s237 s238 zaj zac zad zab zaf zag zah zv zw zz s239 zak zaa zai [])) rfl ?_
          cases h
          exact OEndsQ.iret hm_0 rfl rfl
      · simp only [if_neg hc215] at h
        refine OEndsQ.ifT hm_0 rfl (q := 341) rfl ((feq hc215).2) ?_
        refine OEndsQ.adv hm_0 1 (pc' := 342) (L' := [qr 0, qr 1, qi v2, qi v3, qi v4, qu, qu, qi v7, qi v8, ql v9, qw, ql v11, qw, qi v13, qu, qi v15, qi t0, qi ((1 : Int32) + (v7 % (64 : Int32))), qi r235, qu, qu, qu, qu, qu, qu, qu, qu, qu, qu, qu]) (S' := [.int 0]) (H' := (qa scr :: bk0 zx zy s236 zae zal s237 s238 zaj zac zad zab zaf zag zah zv zw zz s239 zak zaa zai [])) rfl ?_
        cases h
        exact OEndsQ.iret hm_0 rfl rfl
theorem ok_L_law_121 {scr : List Int32} {kb : List Int32 → List Int32 → List Int32 → List Int32 → List Int32 → List Int64 → List Int32 → List Int32 → List Int32 → List Int32 → List Int32 → List Int32 → List Int32 → List Int32 → Int32 → Int32 → Int32 → Int64 → Int32 → Int32 → Int32 → Int32 → Int32 → Int32 → Option (Int32)} (hkb : ∀ {zx zy zao zae zal : List Int32} {zam : List Int64} {zap zaj zac zad zab zaf zag zah : List Int32} {zv zw zz : Int32} {zan : Int64} {zak zaa zai v2 v3 v4 : Int32} {d5 d6 d7 d8 d9 d10 d11 d12 d13 d14 d15 d16 d17 d18 d19 d20 d21 d22 d23 d24 d25 d26 d27 d28 d29 : Slot} {res : Int32}, kb zx zy zao zae zal zam zap zaj zac zad zab zaf zag zah zv zw zz zan zak zaa zai v2 v3 v4 = some res → OEndsQ own_P 0 36 [qr 0, qr 1, qi v2, qi v3, qi v4, d5, d6, d7, d8, d9, d10, d11, d12, d13, d14, d15, d16, d17, d18, d19, d20, d21, d22, d23, d24, d25, d26, d27, d28, d29] [] (qa scr :: bk0 zx zy zao zae zal zam zap zaj zac zad zab zaf zag zah zv zw zz zan zak zaa zai []) (LawQ res 0 0)) : ∀ {zx zy zao zae zal : List Int32} {zam : List Int64} {zap zaj zac zad zab zaf zag zah : List Int32} {zv zw zz : Int32} {zan : Int64} {zak zaa zai v2 v3 v4 v6 v7 v8 : Int32} {v9 v11 : Int64} {d5 d13 d14 d15 d16 d17 d18 d19 d20 d21 d22 d23 d24 d25 d26 d27 d28 d29 : Slot} {res : Int32}, f_L_law_121 kb scr zx zy zao zae zal zam zap zaj zac zad zab zaf zag zah zv zw zz zan zak zaa zai v2 v3 v4 v6 v7 v8 v9 v11 = some res → OEndsQ own_P 0 121 [qr 0, qr 1, qi v2, qi v3, qi v4, d5, qi v6, qi v7, qi v8, ql v9, qw, ql v11, qw, d13, d14, d15, d16, d17, d18, d19, d20, d21, d22, d23, d24, d25, d26, d27, d28, d29] [] (qa scr :: bk0 zx zy zao zae zal zam zap zaj zac zad zab zaf zag zah zv zw zz zan zak zaa zai []) (LawQ res 0 0) := by
  intro zx zy zao zae zal zam zap zaj zac zad zab zaf zag zah zv zw zz zan zak zaa zai v2 v3 v4 v6 v7 v8 v9 v11 d5 d13 d14 d15 d16 d17 d18 d19 d20 d21 d22 d23 d24 d25 d26 d27 d28 d29 res h
  unfold f_L_law_121 at h
  refine OEndsQ.adv hm_0 5 (pc' := 127) (L' := [qr 0, qr 1, qi v2, qi v3, qi v4, qu, qi v6, qi v7, qi v8, ql v9, qw, ql v11, qw, qu, qu, qu, qu, qu, qu, qu, qu, qu, qu, qu, qu, qu, qu, qu, qu, qu]) (S' := [.int (v2 + (1 : Int32)), .int v6, .int 1]) (H' := (qa scr :: bk0 zx zy zao zae zal zam zap zaj zac zad zab zaf zag zah zv zw zz zan zak zaa zai [])) rfl ?_
  by_cases hz223 : (v2 + (1 : Int32)) = 0
  · simp only [if_pos hz223] at h
    cases h
  simp only [if_neg hz223] at h
  refine OEndsQ.plain hm_0 rfl rfl (x_irem hz223) ?_
  refine OEndsQ.adv hm_0 4 (pc' := 134) (L' := [qr 0, qr 1, qi v2, qi v3, qi v4, qu, qi v6, qi v7, qi v8, ql v9, qw, ql v11, qw, qi ((1 : Int32) + (v6 % (v2 + (1 : Int32)))), qu, qu, qu, qu, qu, qu, qu, qu, qu, qu, qu, qu, qu, qu, qu, qu]) (S' := [.int ((1 : Int32) + (v6 % (v2 + (1 : Int32)))), .ref 1]) (H' := (qa scr :: bk0 zx zy zao zae zal zam zap zaj zac zad zab zaf zag zah zv zw zz zan zak zaa zai [])) rfl ?_
  obtain ⟨r233, hq224, h⟩ := bnd h
  refine OEndsQ.call0 hm_0 rfl rfl (by decide) rfl (as := [.ref 1, .int ((1 : Int32) + (v6 % (v2 + (1 : Int32))))]) (rest := []) rfl rfl (ok_status hq224) ?_
  refine OEndsQ.adv hm_0 3 (pc' := 142) (L' := [qr 0, qr 1, qi v2, qi v3, qi v4, qu, qi v6, qi v7, qi v8, ql v9, qw, ql v11, qw, qi ((1 : Int32) + (v6 % (v2 + (1 : Int32)))), qi r233, qu, qu, qu, qu, qu, qu, qu, qu, qu, qu, qu, qu, qu, qu, qu]) (S' := [.int ((1 : Int32) + (v6 % (v2 + (1 : Int32)))), .ref 1]) (H' := (qa scr :: bk0 zx zy zao zae zal zam zap zaj zac zad zab zaf zag zah zv zw zz zan zak zaa zai [])) rfl ?_
  obtain ⟨r234, hq225, h⟩ := bnd h
  refine OEndsQ.call0 hm_0 rfl rfl (by decide) rfl (as := [.ref 1, .int ((1 : Int32) + (v6 % (v2 + (1 : Int32))))]) (rest := []) rfl rfl (ok_remaining hq225) ?_
  refine OEndsQ.adv hm_0 3 (pc' := 150) (L' := [qr 0, qr 1, qi v2, qi v3, qi v4, qu, qi v6, qi v7, qi v8, ql v9, qw, ql v11, qw, qi ((1 : Int32) + (v6 % (v2 + (1 : Int32)))), qi r233, qi r234, qu, qu, qu, qu, qu, qu, qu, qu, qu, qu, qu, qu, qu, qu]) (S' := [.int 1, .int r233]) (H' := (qa scr :: bk0 zx zy zao zae zal zam zap zaj zac zad zab zaf zag zah zv zw zz zan zak zaa zai [])) rfl ?_
  by_cases hc226 : r233 = (1 : Int32)
  · simp only [if_pos hc226] at h
    refine OEndsQ.icmpF hm_0 rfl ((teq hc226).2) ?_
    refine OEndsQ.adv hm_0 2 (pc' := 158) (L' := [qr 0, qr 1, qi v2, qi v3, qi v4, qu, qi v6, qi v7, qi v8, ql v9, qw, ql v11, qw, qi ((1 : Int32) + (v6 % (v2 + (1 : Int32)))), qi r233, qi r234, qu, qu, qu, qu, qu, qu, qu, qu, qu, qu, qu, qu, qu, qu]) (S' := [.int 1]) (H' := (qa scr :: bk0 zx zy zao zae zal zam zap zaj zac zad zab zaf zag zah zv zw zz zan zak zaa zai [])) rfl ?_
    exact ok_L_law_158 hkb h
  · simp only [if_neg hc226] at h
    refine OEndsQ.icmpT hm_0 rfl (q := 157) rfl ((feq hc226).2) ?_
    refine OEndsQ.adv hm_0 1 (pc' := 158) (L' := [qr 0, qr 1, qi v2, qi v3, qi v4, qu, qi v6, qi v7, qi v8, ql v9, qw, ql v11, qw, qi ((1 : Int32) + (v6 % (v2 + (1 : Int32)))), qi r233, qi r234, qu, qu, qu, qu, qu, qu, qu, qu, qu, qu, qu, qu, qu, qu]) (S' := [.int 0]) (H' := (qa scr :: bk0 zx zy zao zae zal zam zap zaj zac zad zab zaf zag zah zv zw zz zan zak zaa zai [])) rfl ?_
    exact ok_L_law_158 hkb h
theorem ok_L_law_36 {scr : List Int32} : ∀ (n : Nat), ∀ {zx zy zao zae zal : List Int32} {zam : List Int64} {zap zaj zac zad zab zaf zag zah : List Int32} {zv zw zz : Int32} {zan : Int64} {zak zaa zai v2 v3 v4 : Int32} {d5 d6 d7 d8 d9 d10 d11 d12 d13 d14 d15 d16 d17 d18 d19 d20 d21 d22 d23 d24 d25 d26 d27 d28 d29 : Slot} {res : Int32}, f_L_law_36 scr n zx zy zao zae zal zam zap zaj zac zad zab zaf zag zah zv zw zz zan zak zaa zai v2 v3 v4 = some res → OEndsQ own_P 0 36 [qr 0, qr 1, qi v2, qi v3, qi v4, d5, d6, d7, d8, d9, d10, d11, d12, d13, d14, d15, d16, d17, d18, d19, d20, d21, d22, d23, d24, d25, d26, d27, d28, d29] [] (qa scr :: bk0 zx zy zao zae zal zam zap zaj zac zad zab zaf zag zah zv zw zz zan zak zaa zai []) (LawQ res 0 0) := by
  intro n
  induction n with
  | zero => intro zx zy zao zae zal zam zap zaj zac zad zab zaf zag zah zv zw zz zan zak zaa zai v2 v3 v4 d5 d6 d7 d8 d9 d10 d11 d12 d13 d14 d15 d16 d17 d18 d19 d20 d21 d22 d23 d24 d25 d26 d27 d28 d29 res h; cases h
  | succ n ih =>
    intro zx zy zao zae zal zam zap zaj zac zad zab zaf zag zah zv zw zz zan zak zaa zai v2 v3 v4 d5 d6 d7 d8 d9 d10 d11 d12 d13 d14 d15 d16 d17 d18 d19 d20 d21 d22 d23 d24 d25 d26 d27 d28 d29 res h
    unfold f_L_law_36 at h
    refine OEndsQ.adv hm_0 2 (pc' := 39) (L' := [qr 0, qr 1, qi v2, qi v3, qi v4, qu, qu, qu, qu, qu, qu, qu, qu, qu, qu, qu, qu, qu, qu, qu, qu, qu, qu, qu, qu, qu, qu, qu, qu, qu]) (S' := [.int v3, .int v4]) (H' := (qa scr :: bk0 zx zy zao zae zal zam zap zaj zac zad zab zaf zag zah zv zw zz zan zak zaa zai [])) rfl ?_
    by_cases hc227 : v4 < v3
    · simp only [if_pos hc227] at h
      refine OEndsQ.icmpF hm_0 rfl ((tlt hc227).2.1) ?_
      refine OEndsQ.adv hm_0 6 (pc' := 49) (L' := [qr 0, qr 1, qi v2, qi v3, qi v4, qu, qu, qu, qu, qu, qu, qu, qu, qu, qu, qu, qu, qu, qu, qu, qu, qu, qu, qu, qu, qu, qu, qu, qu, qu]) (S' := [.int ((2 : Int32) + ((3 : Int32) * v4)), .ref 0]) (H' := (qa scr :: bk0 zx zy zao zae zal zam zap zaj zac zad zab zaf zag zah zv zw zz zan zak zaa zai [])) rfl ?_
      obtain ⟨r188, hq228, h⟩ := bnd h
      refine OEndsQ.call0 hm_0 rfl rfl (by decide) rfl (as := [.ref 0, .int ((2 : Int32) + ((3 : Int32) * v4))]) (rest := []) rfl rfl (ok_L_cell hq228) ?_
      refine OEndsQ.adv hm_0 9 (pc' := 64) (L' := [qr 0, qr 1, qi v2, qi v3, qi v4, qi (r188 &&& (2147483647 : Int32)), qu, qu, qu, qu, qu, qu, qu, qu, qu, qu, qu, qu, qu, qu, qu, qu, qu, qu, qu, qu, qu, qu, qu, qu]) (S' := [.int ((3 : Int32) + ((3 : Int32) * v4)), .ref 0]) (H' := (qa scr :: bk0 zx zy zao zae zal zam zap zaj zac zad zab zaf zag zah zv zw zz zan zak zaa zai [])) rfl ?_
      obtain ⟨r189, hq229, h⟩ := bnd h
      refine OEndsQ.call0 hm_0 rfl rfl (by decide) rfl (as := [.ref 0, .int ((3 : Int32) + ((3 : Int32) * v4))]) (rest := []) rfl rfl (ok_L_cell hq229) ?_
      refine OEndsQ.adv hm_0 9 (pc' := 79) (L' := [qr 0, qr 1, qi v2, qi v3, qi v4, qi (r188 &&& (2147483647 : Int32)), qi (r189 &&& (2147483647 : Int32)), qu, qu, qu, qu, qu, qu, qu, qu, qu, qu, qu, qu, qu, qu, qu, qu, qu, qu, qu, qu, qu, qu, qu]) (S' := [.int ((4 : Int32) + ((3 : Int32) * v4)), .ref 0]) (H' := (qa scr :: bk0 zx zy zao zae zal zam zap zaj zac zad zab zaf zag zah zv zw zz zan zak zaa zai [])) rfl ?_
      obtain ⟨r190, hq230, h⟩ := bnd h
      refine OEndsQ.call0 hm_0 rfl rfl (by decide) rfl (as := [.ref 0, .int ((4 : Int32) + ((3 : Int32) * v4))]) (rest := []) rfl rfl (ok_L_cell hq230) ?_
      refine OEndsQ.adv hm_0 9 (pc' := 96) (L' := [qr 0, qr 1, qi v2, qi v3, qi v4, qi (r188 &&& (2147483647 : Int32)), qi (r189 &&& (2147483647 : Int32)), qi (r190 &&& (2147483647 : Int32)), qi ((r188 &&& (2147483647 : Int32)) % (8 : Int32)), qu, qu, qu, qu, qu, qu, qu, qu, qu, qu, qu, qu, qu, qu, qu, qu, qu, qu, qu, qu, qu]) (S' := [.int 0, .ref 1]) (H' := (qa scr :: bk0 zx zy zao zae zal zam zap zaj zac zad zab zaf zag zah zv zw zz zan zak zaa zai [])) rfl ?_
      obtain ⟨r191, hq231, h⟩ := bnd h
      refine OEndsQ.call0 hm_0 rfl rfl (by decide) rfl (as := [.ref 1, .int 0]) (rest := []) rfl rfl (ok_L_depth hq231) ?_
      refine OEndsQ.adv hm_0 3 (pc' := 103) (L' := [qr 0, qr 1, qi v2, qi v3, qi v4, qi (r188 &&& (2147483647 : Int32)), qi (r189 &&& (2147483647 : Int32)), qi (r190 &&& (2147483647 : Int32)), qi ((r188 &&& (2147483647 : Int32)) % (8 : Int32)), ql r191, qw, qu, qu, qu, qu, qu, qu, qu, qu, qu, qu, qu, qu, qu, qu, qu, qu, qu, qu, qu]) (S' := [.int 1, .ref 1]) (H' := (qa scr :: bk0 zx zy zao zae zal zam zap zaj zac zad zab zaf zag zah zv zw zz zan zak zaa zai [])) rfl ?_
      obtain ⟨r192, hq232, h⟩ := bnd h
      refine OEndsQ.call0 hm_0 rfl rfl (by decide) rfl (as := [.ref 1, .int 1]) (rest := []) rfl rfl (ok_L_depth hq232) ?_
      refine OEndsQ.adv hm_0 3 (pc' := 111) (L' := [qr 0, qr 1, qi v2, qi v3, qi v4, qi (r188 &&& (2147483647 : Int32)), qi (r189 &&& (2147483647 : Int32)), qi (r190 &&& (2147483647 : Int32)), qi ((r188 &&& (2147483647 : Int32)) % (8 : Int32)), ql r191, qw, ql r192, qw, qu, qu, qu, qu, qu, qu, qu, qu, qu, qu, qu, qu, qu, qu, qu, qu, qu]) (S' := [.int 5, .int ((r188 &&& (2147483647 : Int32)) % (8 : Int32))]) (H' := (qa scr :: bk0 zx zy zao zae zal zam zap zaj zac zad zab zaf zag zah zv zw zz zan zak zaa zai [])) rfl ?_
      by_cases hc233 : ((r188 &&& (2147483647 : Int32)) % (8 : Int32)) = (5 : Int32)
      · simp only [if_pos hc233] at h
        refine OEndsQ.icmpT hm_0 rfl (q := 121) rfl ((teq hc233).1) ?_
        show OEndsQ own_P 0 121 [qr 0, qr 1, qi v2, qi v3, qi v4, qi (r188 &&& (2147483647 : Int32)), qi (r189 &&& (2147483647 : Int32)), qi (r190 &&& (2147483647 : Int32)), qi ((r188 &&& (2147483647 : Int32)) % (8 : Int32)), ql r191, qw, ql r192, qw, qu, qu, qu, qu, qu, qu, qu, qu, qu, qu, qu, qu, qu, qu, qu, qu, qu] [] (qa scr :: bk0 zx zy zao zae zal zam zap zaj zac zad zab zaf zag zah zv zw zz zan zak zaa zai []) _
        exact ok_L_law_121 ih h
      · simp only [if_neg hc233] at h
        refine OEndsQ.icmpF hm_0 rfl ((feq hc233).1) ?_
        refine OEndsQ.adv hm_0 2 (pc' := 118) (L' := [qr 0, qr 1, qi v2, qi v3, qi v4, qi (r188 &&& (2147483647 : Int32)), qi (r189 &&& (2147483647 : Int32)), qi (r190 &&& (2147483647 : Int32)), qi ((r188 &&& (2147483647 : Int32)) % (8 : Int32)), ql r191, qw, ql r192, qw, qu, qu, qu, qu, qu, qu, qu, qu, qu, qu, qu, qu, qu, qu, qu, qu, qu]) (S' := [.int 6, .int ((r188 &&& (2147483647 : Int32)) % (8 : Int32))]) (H' := (qa scr :: bk0 zx zy zao zae zal zam zap zaj zac zad zab zaf zag zah zv zw zz zan zak zaa zai [])) rfl ?_
        by_cases hc234 : ((r188 &&& (2147483647 : Int32)) % (8 : Int32)) = (6 : Int32)
        · simp only [if_pos hc234] at h
          refine OEndsQ.icmpF hm_0 rfl ((teq hc234).2) ?_
          show OEndsQ own_P 0 121 [qr 0, qr 1, qi v2, qi v3, qi v4, qi (r188 &&& (2147483647 : Int32)), qi (r189 &&& (2147483647 : Int32)), qi (r190 &&& (2147483647 : Int32)), qi ((r188 &&& (2147483647 : Int32)) % (8 : Int32)), ql r191, qw, ql r192, qw, qu, qu, qu, qu, qu, qu, qu, qu, qu, qu, qu, qu, qu, qu, qu, qu, qu] [] (qa scr :: bk0 zx zy zao zae zal zam zap zaj zac zad zab zaf zag zah zv zw zz zan zak zaa zai []) _
          exact ok_L_law_121 ih h
        · simp only [if_neg hc234] at h
          refine OEndsQ.icmpT hm_0 rfl (q := 377) rfl ((feq hc234).2) ?_
          refine OEndsQ.adv hm_0 12 (pc' := 395) (L' := [qr 0, qr 1, qi v2, qi v3, qi v4, qi (r188 &&& (2147483647 : Int32)), qi (r189 &&& (2147483647 : Int32)), qi (r190 &&& (2147483647 : Int32)), qi ((r188 &&& (2147483647 : Int32)) % (8 : Int32)), ql r191, qw, ql r192, qw, qi (((r188 &&& (2147483647 : Int32)) >>> ((3 : Int32) &&& 31)) &&& (1 : Int32)), qi ((1 : Int32) - (((r188 &&& (2147483647 : Int32)) >>> ((3 : Int32) &&& 31)) &&& (1 : Int32))), qu, qu, qu, qu, qu, qu, qu, qu, qu, qu, qu, qu, qu, qu, qu]) (S' := [.int 7, .int ((r188 &&& (2147483647 : Int32)) % (8 : Int32))]) (H' := (qa scr :: bk0 zx zy zao zae zal zam zap zaj zac zad zab zaf zag zah zv zw zz zan zak zaa zai [])) rfl ?_
          by_cases hc235 : ((r188 &&& (2147483647 : Int32)) % (8 : Int32)) = (7 : Int32)
          · simp only [if_pos hc235] at h
            refine OEndsQ.icmpF hm_0 rfl ((teq hc235).2) ?_
            refine OEndsQ.adv hm_0 2 (pc' := 403) (L' := [qr 0, qr 1, qi v2, qi v3, qi v4, qi (r188 &&& (2147483647 : Int32)), qi (r189 &&& (2147483647 : Int32)), qi (r190 &&& (2147483647 : Int32)), qi ((r188 &&& (2147483647 : Int32)) % (8 : Int32)), ql r191, qw, ql r192, qw, qi (((r188 &&& (2147483647 : Int32)) >>> ((3 : Int32) &&& 31)) &&& (1 : Int32)), qi ((1 : Int32) - (((r188 &&& (2147483647 : Int32)) >>> ((3 : Int32) &&& 31)) &&& (1 : Int32))), qu, qu, qu, qu, qu, qu, qu, qu, qu, qu, qu, qu, qu, qu, qu]) (S' := [.int 1]) (H' := (qa scr :: bk0 zx zy zao zae zal zam zap zaj zac zad zab zaf zag zah zv zw zz zan zak zaa zai [])) rfl ?_
            exact ok_L_law_403 ih h
          · simp only [if_neg hc235] at h
            refine OEndsQ.icmpT hm_0 rfl (q := 402) rfl ((feq hc235).2) ?_
            refine OEndsQ.adv hm_0 1 (pc' := 403) (L' := [qr 0, qr 1, qi v2, qi v3, qi v4, qi (r188 &&& (2147483647 : Int32)), qi (r189 &&& (2147483647 : Int32)), qi (r190 &&& (2147483647 : Int32)), qi ((r188 &&& (2147483647 : Int32)) % (8 : Int32)), ql r191, qw, ql r192, qw, qi (((r188 &&& (2147483647 : Int32)) >>> ((3 : Int32) &&& 31)) &&& (1 : Int32)), qi ((1 : Int32) - (((r188 &&& (2147483647 : Int32)) >>> ((3 : Int32) &&& 31)) &&& (1 : Int32))), qu, qu, qu, qu, qu, qu, qu, qu, qu, qu, qu, qu, qu, qu, qu]) (S' := [.int 0]) (H' := (qa scr :: bk0 zx zy zao zae zal zam zap zaj zac zad zab zaf zag zah zv zw zz zan zak zaa zai [])) rfl ?_
            exact ok_L_law_403 ih h
    · simp only [if_neg hc227] at h
      refine OEndsQ.icmpT hm_0 rfl (q := 977) rfl ((flt hc227).2.1) ?_
      refine OEndsQ.adv hm_0 1 (pc' := 978) (L' := [qr 0, qr 1, qi v2, qi v3, qi v4, qu, qu, qu, qu, qu, qu, qu, qu, qu, qu, qu, qu, qu, qu, qu, qu, qu, qu, qu, qu, qu, qu, qu, qu, qu]) (S' := [.int 1]) (H' := (qa scr :: bk0 zx zy zao zae zal zam zap zaj zac zad zab zaf zag zah zv zw zz zan zak zaa zai [])) rfl ?_
      cases h
      exact OEndsQ.iret hm_0 rfl rfl
theorem ok_L_law {scr : List Int32} {res : Int32} (h : f_L_law scr = some res) : OEndsQ own_P 0 0 [qr 0, qu, qu, qu, qu, qu, qu, qu, qu, qu, qu, qu, qu, qu, qu, qu, qu, qu, qu, qu, qu, qu, qu, qu, qu, qu, qu, qu, qu, qu] [] (qa scr :: []) (LawQ res 15 2261) := by
  unfold f_L_law at h
  refine OEndsQ.made hm_0 rfl rfl (ks := 21) (c0 := 14) (s0 := 2240) rfl (Nat.le_of_ble_eq_true rfl) (Nat.le_of_ble_eq_true rfl) ?_
  refine OEndsQ.adv hm_0 4 (pc' := 7) (L' := [qr 0, qu, qu, qu, qu, qu, qu, qu, qu, qu, qu, qu, qu, qu, qu, qu, qu, qu, qu, qu, qu, qu, qu, qu, qu, qu, qu, qu, qu, qu]) (S' := [.int 0, .ref 0, .int 1, .ref 1, .ref 1]) (H' := (qa scr :: (.inl (0, [.null, .null, .null, .null, .null, .null, .null, .null, .null, .null, .null, .null, .null, .null, .int 0, .int 0, .int 0, .long 0, .int 0, .int 0, .int 0]) : ACell) :: [])) rfl ?_
  obtain ⟨r165, hq236, h⟩ := bnd h
  refine OEndsQ.call0 hm_0 rfl rfl (by decide) rfl (as := [.ref 0, .int 0]) (rest := [.int 1, .ref 1, .ref 1]) rfl rfl (ok_L_cell hq236) ?_
  refine OEndsQ.adv hm_0 5 (pc' := 16) (L' := [qr 0, qu, qu, qu, qu, qu, qu, qu, qu, qu, qu, qu, qu, qu, qu, qu, qu, qu, qu, qu, qu, qu, qu, qu, qu, qu, qu, qu, qu, qu]) (S' := [.int 1, .ref 0, .int ((1 : Int32) + (r165 &&& (7 : Int32))), .ref 1, .ref 1]) (H' := (qa scr :: (.inl (0, [.null, .null, .null, .null, .null, .null, .null, .null, .null, .null, .null, .null, .null, .null, .int 0, .int 0, .int 0, .long 0, .int 0, .int 0, .int 0]) : ACell) :: [])) rfl ?_
  obtain ⟨r166, hq237, h⟩ := bnd h
  refine OEndsQ.call0 hm_0 rfl rfl (by decide) rfl (as := [.ref 0, .int 1]) (rest := [.int ((1 : Int32) + (r165 &&& (7 : Int32))), .ref 1, .ref 1]) rfl rfl (ok_L_cell hq237) ?_
  refine OEndsQ.adv hm_0 2 (pc' := 22) (L' := [qr 0, qu, qu, qu, qu, qu, qu, qu, qu, qu, qu, qu, qu, qu, qu, qu, qu, qu, qu, qu, qu, qu, qu, qu, qu, qu, qu, qu, qu, qu]) (S' := [.int (r166 &&& (31 : Int32)), .int ((1 : Int32) + (r165 &&& (7 : Int32))), .ref 1, .ref 1]) (H' := (qa scr :: (.inl (0, [.null, .null, .null, .null, .null, .null, .null, .null, .null, .null, .null, .null, .null, .null, .int 0, .int 0, .int 0, .long 0, .int 0, .int 0, .int 0]) : ACell) :: [])) rfl ?_
  obtain ⟨⟨s167, s168, s169, s170, s171, s172, s173, s174, s175, s176, s177, s178, s179, s180, s181, s182, s183, s184, s185, s186, s187⟩, hq238, h⟩ := bnd h
  refine OEndsQ.callN hm_0 rfl rfl (by decide) rfl (as := [.ref 1, .int ((1 : Int32) + (r165 &&& (7 : Int32))), .int (r166 &&& (31 : Int32))]) (rest := [.ref 1]) rfl rfl (c0 := 0) (s0 := 0) (ok_init hq238) (Nat.le_of_ble_eq_true rfl) (Nat.le_of_ble_eq_true rfl) ?_
  refine OEndsQ.adv hm_0 10 (pc' := 36) (L' := [qr 0, qr 1, qi 0, qi (scr.length.toInt32 / (3 : Int32)), qi 0, qu, qu, qu, qu, qu, qu, qu, qu, qu, qu, qu, qu, qu, qu, qu, qu, qu, qu, qu, qu, qu, qu, qu, qu, qu]) (S' := []) (H' := (qa scr :: bk0 s167 s168 s169 s170 s171 s172 s173 s174 s175 s176 s177 s178 s179 s180 s181 s182 s183 s184 s185 s186 s187 [])) rfl ?_
  exact ok_L_law_36 100000 h
theorem own_iL {α : Type} {Q : α → Prop} {a b : Int32} {x y : Option α} (h1 : a.toInt < b.toInt → Tot x Q) (h2 : b.toInt ≤ a.toInt → Tot y Q) : Tot (if a < b then x else y) Q :=
  Tot.ite (fun c => h1 (ilt.mp c)) (fun c => h2 (by rw [ilt] at c; omega))
theorem own_iE {α : Type} {Q : α → Prop} {a b : Int32} {x y : Option α} (h1 : a = b → Tot x Q) (h2 : ¬ a = b → Tot y Q) : Tot (if a = b then x else y) Q :=
  Tot.ite h1 h2
theorem own_bs {α β : Type} {a : α} {f : α → Option β} {Q : β → Prop} (h : Tot (f a) Q) : Tot ((some a).bind f) Q := h
theorem own_p1 {a : Int32} (h : a.toInt < 2147483647) : (a + 1).toInt = a.toInt + 1 := by
  have := Int32.le_toInt a
  ((try simp only [ilt, ile, ieq, iadd_e, isub_e, imul_e, Int32.reduceToInt] at *) <;> omega)
theorem own_m1 {a : Int32} (h : -2147483648 < a.toInt) : (a - 1).toInt = a.toInt - 1 := by
  have := Int32.toInt_lt a
  ((try simp only [ilt, ile, ieq, iadd_e, isub_e, imul_e, Int32.reduceToInt] at *) <;> omega)
def own_R (L : List Int32) : Prop := ∀ x ∈ L, 0 ≤ x.toInt ∧ x.toInt < 256
theorem own_Rg {L : List Int32} (h : own_R L) {j : Int32} (h0 : 0 ≤ j.toInt) (h1 : j.toInt < L.length) : 0 ≤ (gI L j).toInt ∧ (gI L j).toInt < 256 := by
  have h2 : j.toInt.toNat < L.length := by omega
  unfold gI
  rw [rdA_in h0 h2]
  exact h _ (List.getElem_mem h2)
theorem own_Rs {L : List Int32} (h : own_R L) {j : Nat} {x : Int32} (x0 : 0 ≤ x.toInt) (x1 : x.toInt < 256) : own_R (L.set j x) := by
  intro y hy
  rcases List.mem_or_eq_of_mem_set hy with h' | h'
  · exact h y h'
  · rw [h']; exact ⟨x0, x1⟩
theorem own_rdR {β : Type} {L : List Int32} {j : Int32} {f : Int32 → Option β} {Q : β → Prop} (hR : own_R L) (h0 : 0 ≤ j.toInt) (h1 : j.toInt < L.length) (g : ∀ a : Int32, 0 ≤ a.toInt → a.toInt < 256 → Tot (f a) Q) : Tot ((rdA L j).bind f) Q := by
  rw [rdg h0 h1]
  exact g _ (own_Rg hR h0 h1).1 (own_Rg hR h0 h1).2
theorem own_wrR {β : Type} {L : List Int32} {j x : Int32} {f : List Int32 → Option β} {Q : β → Prop} (hR : own_R L) (h0 : 0 ≤ j.toInt) (h1 : j.toInt < L.length) (x0 : 0 ≤ x.toInt) (x1 : x.toInt < 256) (g : ∀ L' : List Int32, own_R L' → L'.length = L.length → Tot (f L') Q) : Tot ((wrA L j x).bind f) Q :=
  Tot.wr h0 h1 (fun L' e l => g L' (by rw [e]; exact own_Rs hR x0 x1) l)
abbrev own_W (RI : List Int32) (RN acc : Int32) : Prop := (RI.length = 64) ∧ (0 ≤ RN.toInt) ∧ (RN.toInt ≤ 64) ∧ (own_R RI) ∧ (∀ i : Int32, 0 ≤ i.toInt → i.toInt < RN.toInt → 1 ≤ (gI RI i).toInt ∧ (gI RI i).toInt ≤ acc.toInt) ∧ (∀ i j : Int32, 0 ≤ i.toInt → i.toInt < RN.toInt → 0 ≤ j.toInt → j.toInt < RN.toInt → gI RI i = gI RI j → i = j)
theorem own_W.l {RI : List Int32} {RN acc : Int32} (self : own_W RI RN acc) : RI.length = 64 := self.1
theorem own_W.n0 {RI : List Int32} {RN acc : Int32} (self : own_W RI RN acc) : 0 ≤ RN.toInt := self.2.1
theorem own_W.n1 {RI : List Int32} {RN acc : Int32} (self : own_W RI RN acc) : RN.toInt ≤ 64 := self.2.2.1
theorem own_W.r {RI : List Int32} {RN acc : Int32} (self : own_W RI RN acc) : own_R RI := self.2.2.2.1
theorem own_W.e {RI : List Int32} {RN acc : Int32} (self : own_W RI RN acc) : ∀ i : Int32, 0 ≤ i.toInt → i.toInt < RN.toInt → 1 ≤ (gI RI i).toInt ∧ (gI RI i).toInt ≤ acc.toInt := self.2.2.2.2.1
theorem own_W.d {RI : List Int32} {RN acc : Int32} (self : own_W RI RN acc) : ∀ i j : Int32, 0 ≤ i.toInt → i.toInt < RN.toInt → 0 ≤ j.toInt → j.toInt < RN.toInt → gI RI i = gI RI j → i = j := self.2.2.2.2.2
def own_mem (RI : List Int32) (RN x : Int32) : Prop := ∃ j : Int32, 0 ≤ j.toInt ∧ j.toInt < RN.toInt ∧ gI RI j = x
theorem own_rm2 {RI : List Int32} {RN acc : Int32} (w : own_W RI RN acc) (v : Int32) : ∀ (n : Nat) (k : Int32), 0 ≤ k.toInt → k.toInt ≤ RN.toInt → RN.toInt - k.toInt < n → (∀ j : Int32, 0 ≤ j.toInt → j.toInt < k.toInt → gI RI j ≠ v) →
    Tot (f_removeResting_2 f_removeResting_20 n RI RN v k) (fun p => own_W p.1 p.2 acc ∧ p.2.toInt ≤ RN.toInt ∧ (∀ x, own_mem p.1 p.2 x ↔ own_mem RI RN x ∧ x ≠ v) ∧ (own_mem RI RN v → p.2.toInt = RN.toInt - 1)) := by
  intro n
  have l := w.l
  have n0 := w.n0
  have n1 := w.n1
  induction n with
  | zero => intro k h0 h1 h2; omega
  | succ n ih =>
    intro k h0 h1 h2 hk
    unfold f_removeResting_2
    refine own_iL (fun c => ?_) (fun c => ?_)
    · refine Tot.rdI h0 (by omega) ?_
      refine own_iE (fun e => ?_) (fun e => ?_)
      · have m1 := own_m1 (a := RN) (by omega)
        unfold f_removeResting_20
        rw [rdg (by omega) (by omega), Option.bind_some, wrA_in h0 (by omega), Option.bind_some]
        refine Tot.mk ?_
        have g : ∀ j : Int32, 0 ≤ j.toInt → gI (RI.set k.toInt.toNat (gI RI (RN - 1))) j = if k = j then gI RI (RN - 1) else gI RI j := fun j hj => gset h0 (by omega) hj
        have lst := w.e (RN - 1) (by omega) (by omega)
        have lst2 := own_Rg w.r (j := RN - 1) (by omega) (by omega)
        refine ⟨⟨by simp [l], (by show 0 ≤ (RN - 1).toInt; omega), (by show (RN - 1).toInt ≤ 64; omega), own_Rs w.r (by omega) (by omega), ?_, ?_⟩, (by show (RN - 1).toInt ≤ RN.toInt; omega), ?_, fun _ => (by show (RN - 1).toInt = RN.toInt - 1; omega)⟩
        · intro i i0 i1
          show 1 ≤ (gI (RI.set k.toInt.toNat (gI RI (RN - 1))) i).toInt ∧ (gI (RI.set k.toInt.toNat (gI RI (RN - 1))) i).toInt ≤ acc.toInt
          have i1' : i.toInt < (RN - 1).toInt := i1
          rw [g i i0]
          split
          · exact lst
          · exact w.e i i0 (by omega)
        · intro i j i0 i1 j0 j1 hh
          have i1' : i.toInt < (RN - 1).toInt := i1
          have j1' : j.toInt < (RN - 1).toInt := j1
          have hh' : gI (RI.set k.toInt.toNat (gI RI (RN - 1))) i = gI (RI.set k.toInt.toNat (gI RI (RN - 1))) j := hh
          rw [g i i0, g j j0] at hh'
          by_cases ei : k = i <;> by_cases ej : k = j
          · rw [← ei, ← ej]
          · rw [if_pos ei, if_neg ej] at hh'
            have q := w.d _ _ (by omega) (by omega) (by omega) (by omega) hh'
            rw [ieq] at q
            omega
          · rw [if_neg ei, if_pos ej] at hh'
            have q := w.d _ _ (by omega) (by omega) (by omega) (by omega) hh'
            rw [ieq] at q
            omega
          · rw [if_neg ei, if_neg ej] at hh'
            exact w.d _ _ (by omega) (by omega) (by omega) (by omega) hh'
        · intro x
          show own_mem (RI.set k.toInt.toNat (gI RI (RN - 1))) (RN - 1) x ↔ _
          constructor
          · rintro ⟨j, j0, j1, ej⟩
            rw [g j j0] at ej
            by_cases hkj : k = j
            · rw [if_pos hkj] at ej
              refine ⟨⟨RN - 1, by omega, by omega, ej⟩, ?_⟩
              intro hx
              have q := w.d (RN - 1) k (by omega) (by omega) h0 c (by rw [ej, hx, e])
              rw [ieq] at q
              rw [ieq] at hkj
              omega
            · rw [if_neg hkj] at ej
              refine ⟨⟨j, j0, by omega, ej⟩, ?_⟩
              intro hx
              exact hkj (w.d k j h0 c j0 (by omega) (by rw [ej, hx, e]))
          · rintro ⟨⟨j, j0, j1, ej⟩, hx⟩
            have hkj : ¬ k = j := by
              intro h
              rw [← h, e] at ej
              exact hx ej.symm
            by_cases hl : j.toInt = (RN - 1).toInt
            · refine ⟨k, h0, by rw [ieq] at hkj; omega, ?_⟩
              rw [g k h0, if_pos rfl]
              rw [← ieq] at hl
              rw [← hl, ej]
            · refine ⟨j, j0, by omega, ?_⟩
              rw [g j j0, if_neg hkj, ej]
      · have p := own_p1 (a := k) (by omega)
        refine ih _ (by omega) (by omega) (by omega) ?_
        intro j j0 j1
        by_cases hj : j.toInt < k.toInt
        · exact hk j j0 hj
        · have : j = k := by rw [ieq]; omega
          rw [this]
          exact e
    · refine Tot.mk ⟨w, Int.le_refl _, ?_, ?_⟩
      · intro x
        constructor
        · rintro ⟨j, j0, j1, ej⟩
          refine ⟨⟨j, j0, j1, ej⟩, ?_⟩
          intro hx
          have j1' : j.toInt < RN.toInt := j1
          exact hk j j0 (by omega) (by rw [← hx]; exact ej)
        · exact fun h => h.1
      · rintro ⟨j, j0, j1, ej⟩
        exact absurd ej (hk j j0 (by omega))
theorem own_rm {RI : List Int32} {RN acc : Int32} (w : own_W RI RN acc) (v : Int32) : Tot (f_removeResting RI RN v) (fun p => own_W p.1 p.2 acc ∧ p.2.toInt ≤ RN.toInt ∧ (∀ x, own_mem p.1 p.2 x ↔ own_mem RI RN x ∧ x ≠ v) ∧ (own_mem RI RN v → p.2.toInt = RN.toInt - 1)) := by
  have n0 := w.n0
  have n1 := w.n1
  have e0 : (0 : Int32).toInt = 0 := rfl
  exact own_rm2 w v 100000 0 (by omega) (by omega) (by omega) (fun j j0 j1 => by omega)
theorem own_best4 {SD PR RI : List Int32} {RN acc : Int32} (w : own_W RI RN acc) (lS : SD.length = 256) (lP : PR.length = 256) (v1 : Int32) : ∀ (n : Nat) (v2 v3 : Int32), 0 ≤ v3.toInt → v3.toInt ≤ RN.toInt → RN.toInt - v3.toInt < n → Tot (f_bestOf_4 SD PR RI RN n v1 v2 v3) (fun _ => True) := by
  intro n
  have l := w.l
  have n1 := w.n1
  have r := w.r
  induction n with
  | zero => intro v2 v3 h0 h1 h2; omega
  | succ n ih =>
    intro v2 v3 h0 h1 h2
    have p := own_p1 (a := v3) (by omega)
    unfold f_bestOf_4 f_better
    (repeat' (first | with_reducible refine own_iL (fun _ => ?_) (fun _ => ?_) | with_reducible refine own_iE (fun _ => ?_) (fun _ => ?_) | with_reducible refine own_rdR (by assumption) (by omega) (by omega) (fun _ _ _ => ?_) | with_reducible refine Tot.rd (by omega) (by omega) (fun _ _ => ?_) | with_reducible refine own_wrR (by assumption) (by omega) (by omega) (by omega) (by omega) (fun _ _ _ => ?_) | with_reducible refine Tot.wr (by omega) (by omega) (fun _ _ _ => ?_) | with_reducible refine own_bs ?_))
    all_goals first | exact Tot.mk trivial | exact ih _ _ (by omega) (by omega) (by omega)
theorem own_best {SD PR RI : List Int32} {RN acc : Int32} (w : own_W RI RN acc) (lS : SD.length = 256) (lP : PR.length = 256) (v1 : Int32) : Tot (f_bestOf SD PR RI RN v1) (fun _ => True) := by
  have n0 := w.n0
  have n1 := w.n1
  have e0 : (0 : Int32).toInt = 0 := rfl
  exact own_best4 w lS lP v1 100000 0 0 (by omega) (by omega) (by omega)
abbrev own_V (LI LR LA : List Int32) : Prop := (own_R LI) ∧ (LI.length = 64) ∧ (LR.length = 64) ∧ (LA.length = 64)
theorem own_V.r {LI LR LA : List Int32} (self : own_V LI LR LA) : own_R LI := self.1
theorem own_V.lI {LI LR LA : List Int32} (self : own_V LI LR LA) : LI.length = 64 := self.2.1
theorem own_V.lR {LI LR LA : List Int32} (self : own_V LI LR LA) : LR.length = 64 := self.2.2.1
theorem own_V.lA {LI LR LA : List Int32} (self : own_V LI LR LA) : LA.length = 64 := self.2.2.2
theorem own_W.up {RI : List Int32} {RN acc acc' : Int32} (w : own_W RI RN acc) (h : acc.toInt ≤ acc'.toInt) : own_W RI RN acc' :=
  ⟨w.l, w.n0, w.n1, w.r, fun i i0 i1 => by have := w.e i i0 i1; omega, w.d⟩
theorem own_W.add {RI : List Int32} {RN acc v : Int32} (w : own_W RI RN acc) (a0 : 0 ≤ acc.toInt) (h : v.toInt = acc.toInt + 1) (hv : v.toInt ≤ 255) (c : RN.toInt < 64) : own_W (RI.set RN.toInt.toNat v) (RN + 1) v := by
  have l := w.l
  have n0 := w.n0
  have p := own_p1 (a := RN) (by omega)
  have g : ∀ j : Int32, 0 ≤ j.toInt → gI (RI.set RN.toInt.toNat v) j = if RN = j then v else gI RI j := fun j hj => gset n0 (by omega) hj
  refine ⟨by simp [l], by omega, by omega, own_Rs w.r (by omega) (by omega), ?_, ?_⟩
  · intro i i0 i1
    rw [g i i0]
    by_cases hi : RN = i
    · rw [if_pos hi]; omega
    · rw [if_neg hi]
      rw [ieq] at hi
      have := w.e i i0 (by omega)
      omega
  · intro i j i0 i1 j0 j1 hh
    rw [g i i0, g j j0] at hh
    by_cases hi : RN = i <;> by_cases hj : RN = j
    · rw [← hi, ← hj]
    · rw [if_pos hi, if_neg hj] at hh
      rw [ieq] at hj
      have := w.e j j0 (by omega)
      rw [← hh] at this
      omega
    · rw [if_neg hi, if_pos hj] at hh
      rw [ieq] at hi
      have := w.e i i0 (by omega)
      rw [hh] at this
      omega
    · rw [if_neg hi, if_neg hj] at hh
      rw [ieq] at hi hj
      exact w.d i j i0 (by omega) j0 (by omega) hh
theorem own_sub_full {SD PR RM FL ST : List Int32} {SP : List Int64} {TP RI FI FQ FP LI LR LA : List Int32} {acc RN FN : Int32} (ma tc LN : Int32) (stamp : Int64) (v1 v2 v3 v4 : Int32) (h1 : v1 = 0 ∨ v1 = 1) (h2 : 1 ≤ v2.toInt) (h2' : v2.toInt ≤ 1000) (h3 : 1 ≤ v3.toInt) (h3' : v3.toInt ≤ 10000) (h4 : v4 = 0 ∨ v4 = 1) (ha : 255 ≤ acc.toInt) :
    f_submit ma tc SD PR RM FL ST SP TP RI FI FQ FP LI LR LA acc stamp RN FN LN v1 v2 v3 v4 = some (-5, SD, PR, RM, FL, ST, SP, TP, RI, FI, FQ, FP, LI, LR, LA, acc, stamp, RN, FN, LN) := by
  have n1 : ¬ v2 < 1 := by rw [ilt]; exact Int.not_lt.mpr h2
  have n2 : ¬ (1000 : Int32) < v2 := by rw [ilt]; exact Int.not_lt.mpr h2'
  have n3 : ¬ v3 < 1 := by rw [ilt]; exact Int.not_lt.mpr h3
  have n4 : ¬ (10000 : Int32) < v3 := by rw [ilt]; exact Int.not_lt.mpr h3'
  have n5 : ¬ acc < 255 := by rw [ilt]; exact Int.not_lt.mpr ha
  unfold f_submit f_submit_11 f_submit_55
  rw [if_neg n1, if_neg n2, if_neg n3, if_neg n4, if_neg n5]
  rcases h1 with h | h <;> rcases h4 with h' | h' <;> subst h <;> subst h' <;> rfl
theorem own_Rrep (n : Nat) : own_R (List.replicate n 0) := by
  intro x hx
  rw [List.eq_of_mem_replicate hx]
  decide
theorem own_i0 {P : Int32 → Prop} {k : Int32} (h : ∀ j : Int32, 0 ≤ j.toInt → j.toInt < k.toInt → P j) (hk : P k) (k0 : 0 ≤ k.toInt) (hk1 : k.toInt < 2147483647) : ∀ j : Int32, 0 ≤ j.toInt → j.toInt < (k + 1).toInt → P j := by
  have p := own_p1 (a := k) (by omega)
  intro j j0 j1
  by_cases e : j.toInt < k.toInt
  · exact h j j0 e
  · have : j = k := by rw [ieq]; omega
    rw [this]; exact hk
def own_bt (v a b : Int32) : Prop := if v = 0 then b.toInt < a.toInt else a.toInt < b.toInt
theorem own_bestX {SD PR RI : List Int32} {RN acc : Int32} (w : own_W RI RN acc) (lS : SD.length = 256) (lP : PR.length = 256) (hp : ∀ x, own_mem RI RN x → 1 ≤ (gI PR x).toInt) (v1 : Int32) :
    Tot (f_bestOf SD PR RI RN v1) (fun r => (r = 0 ∧ ∀ x, own_mem RI RN x → ¬ gI SD x = v1) ∨ (∃ x, own_mem RI RN x ∧ gI SD x = v1 ∧ gI PR x = r ∧ 1 ≤ r.toInt ∧ ∀ y, own_mem RI RN y → gI SD y = v1 → ¬ own_bt v1 (gI PR y) r)) := by
  have e0 : (0 : Int32).toInt = 0 := rfl
  have l := w.l
  have n0 := w.n0
  have n1 := w.n1
  have key : ∀ (n : Nat) (v2 v3 : Int32), 0 ≤ v3.toInt → v3.toInt ≤ RN.toInt → RN.toInt - v3.toInt < n → ((v2 = 0 ∧ ∀ j : Int32, 0 ≤ j.toInt → j.toInt < v3.toInt → ¬ gI SD (gI RI j) = v1) ∨ (∃ x, own_mem RI RN x ∧ gI SD x = v1 ∧ gI PR x = v2 ∧ 1 ≤ v2.toInt ∧ ∀ j : Int32, 0 ≤ j.toInt → j.toInt < v3.toInt → gI SD (gI RI j) = v1 → ¬ own_bt v1 (gI PR (gI RI j)) v2)) →
      Tot (f_bestOf_4 SD PR RI RN n v1 v2 v3) (fun r => (r = 0 ∧ ∀ x, own_mem RI RN x → ¬ gI SD x = v1) ∨ (∃ x, own_mem RI RN x ∧ gI SD x = v1 ∧ gI PR x = r ∧ 1 ≤ r.toInt ∧ ∀ y, own_mem RI RN y → gI SD y = v1 → ¬ own_bt v1 (gI PR y) r)) := by
    intro n
    induction n with
    | zero => intro v2 v3 h0 h1 h2; omega
    | succ n ih =>
      intro v2 v3 h0 h1 h2 hv
      unfold f_bestOf_4 f_better
      refine own_iL (fun c => ?_) (fun c => ?_)
      · have p := own_p1 (a := v3) (by omega)
        have rg := own_Rg w.r h0 (by omega)
        have hm : own_mem RI RN (gI RI v3) := ⟨v3, h0, c, rfl⟩
        have hpr := hp _ hm
        rw [rdg h0 (by omega), Option.bind_some, rdg rg.1 (by omega), Option.bind_some]
        refine own_iE (fun g => ?_) (fun g => ?_)
        · rw [rdg rg.1 (by omega), Option.bind_some]
          refine own_iE (fun z => ?_) (fun z => ?_)
          · rcases hv with ⟨_, hv⟩ | ⟨x, _, _, _, hx, _⟩
            · refine ih _ _ (by omega) (by omega) (by omega) (Or.inr ⟨_, hm, g, rfl, hpr, ?_⟩)
              refine own_i0 (fun j j0 j1 hs => absurd hs (hv j j0 j1)) (fun _ => ?_) h0 (by omega)
              unfold own_bt
              split <;> omega
            · rw [z] at hx; exact absurd hx (by decide)
          · rcases hv with ⟨hz, _⟩ | ⟨x, hx1, hx2, hx3, hx4, hx5⟩
            · exact absurd hz z
            · refine own_bs ?_
              by_cases b : own_bt v1 (gI PR (gI RI v3)) v2
              · have e : (if (if v1 = (0 : Int32) then (if v2 < gI PR (gI RI v3) then (1 : Int32) else (0 : Int32)) else (if gI PR (gI RI v3) < v2 then (1 : Int32) else (0 : Int32))) = (0 : Int32) then v2 else gI PR (gI RI v3)) = gI PR (gI RI v3) := by
                  unfold own_bt at b
                  by_cases q : v1 = 0
                  · rw [if_pos q] at b ⊢; rw [if_pos (ilt.mpr b), if_neg (by decide)]
                  · rw [if_neg q] at b ⊢; rw [if_pos (ilt.mpr b), if_neg (by decide)]
                rw [e]
                refine ih _ _ (by omega) (by omega) (by omega) (Or.inr ⟨_, hm, g, rfl, hpr, ?_⟩)
                refine own_i0 (fun j j0 j1 hs hb => ?_) (fun _ => ?_) h0 (by omega)
                · refine hx5 j j0 j1 hs ?_
                  unfold own_bt at b hb ⊢
                  by_cases q : v1 = 0
                  · rw [if_pos q] at b hb ⊢; omega
                  · rw [if_neg q] at b hb ⊢; omega
                · unfold own_bt
                  split <;> omega
              · have e : (if (if v1 = (0 : Int32) then (if v2 < gI PR (gI RI v3) then (1 : Int32) else (0 : Int32)) else (if gI PR (gI RI v3) < v2 then (1 : Int32) else (0 : Int32))) = (0 : Int32) then v2 else gI PR (gI RI v3)) = v2 := by
                  have b' := b
                  unfold own_bt at b
                  by_cases q : v1 = 0
                  · rw [if_pos q] at b ⊢; rw [if_neg (fun z => b (ilt.mp z)), if_pos rfl]
                  · rw [if_neg q] at b ⊢; rw [if_neg (fun z => b (ilt.mp z)), if_pos rfl]
                rw [e]
                exact ih _ _ (by omega) (by omega) (by omega) (Or.inr ⟨x, hx1, hx2, hx3, hx4, own_i0 hx5 (fun _ => b) h0 (by omega)⟩)
        · rcases hv with ⟨hz, hv⟩ | ⟨x, hx1, hx2, hx3, hx4, hx5⟩
          · exact ih _ _ (by omega) (by omega) (by omega) (Or.inl ⟨hz, own_i0 hv g h0 (by omega)⟩)
          · exact ih _ _ (by omega) (by omega) (by omega) (Or.inr ⟨x, hx1, hx2, hx3, hx4, own_i0 hx5 (fun q => absurd q g) h0 (by omega)⟩)
      · have e : v3.toInt = RN.toInt := by omega
        rw [e] at hv
        refine Tot.mk ?_
        rcases hv with ⟨hz, hv⟩ | ⟨x, hx1, hx2, hx3, hx4, hx5⟩
        · left
          refine ⟨hz, ?_⟩
          rintro x ⟨j, j0, j1, ej⟩
          rw [← ej]; exact hv j j0 j1
        · right
          refine ⟨x, hx1, hx2, hx3, hx4, ?_⟩
          rintro y ⟨j, j0, j1, ej⟩ hy
          rw [← ej] at hy ⊢
          exact hx5 j j0 j1 hy
  exact key 100000 0 0 (by omega) (by omega) (by omega) (Or.inl ⟨rfl, fun j j0 j1 => by omega⟩)
abbrev own_G (LI : List Int32) (LN : Int32) : Prop := (own_R LI) ∧ (LI.length = 64) ∧ (0 ≤ LN.toInt) ∧ (LN.toInt ≤ 64) ∧ (∀ i j : Int32, 0 ≤ i.toInt → i.toInt < LN.toInt → 0 ≤ j.toInt → j.toInt < LN.toInt → gI LI i = gI LI j → i = j)
theorem own_G.r {LI : List Int32} {LN : Int32} (self : own_G LI LN) : own_R LI := self.1
theorem own_G.l {LI : List Int32} {LN : Int32} (self : own_G LI LN) : LI.length = 64 := self.2.1
theorem own_G.n0 {LI : List Int32} {LN : Int32} (self : own_G LI LN) : 0 ≤ LN.toInt := self.2.2.1
theorem own_G.n1 {LI : List Int32} {LN : Int32} (self : own_G LI LN) : LN.toInt ≤ 64 := self.2.2.2.1
theorem own_G.d {LI : List Int32} {LN : Int32} (self : own_G LI LN) : ∀ i j : Int32, 0 ≤ i.toInt → i.toInt < LN.toInt → 0 ≤ j.toInt → j.toInt < LN.toInt → gI LI i = gI LI j → i = j := self.2.2.2.2
theorem own_gatX {SD PR RI LI : List Int32} {RN acc : Int32} (LN : Int32) (w : own_W RI RN acc) (lS : SD.length = 256) (lP : PR.length = 256) (v1 v2 : Int32) (hR : own_R LI) (hl : LI.length = 64) :
    Tot (f_gatherLevel SD PR RI RN LI LN v1 v2) (fun p => own_G p.1 p.2 ∧ ∀ x, own_mem p.1 p.2 x ↔ own_mem RI RN x ∧ gI SD x = v1 ∧ gI PR x = v2) := by
  have e0 : (0 : Int32).toInt = 0 := rfl
  have e64 : (64 : Int32).toInt = 64 := rfl
  have l := w.l
  have n0 := w.n0
  have n1 := w.n1
  have key : ∀ (n : Nat) (LI : List Int32) (LN v3 : Int32), 0 ≤ v3.toInt → v3.toInt ≤ RN.toInt → RN.toInt - v3.toInt < n → own_G LI LN → LN.toInt ≤ v3.toInt → (∀ x, own_mem LI LN x ↔ own_mem RI v3 x ∧ gI SD x = v1 ∧ gI PR x = v2) →
      Tot (f_gatherLevel_7 SD PR RI RN n LI LN v1 v2 v3) (fun p => own_G p.1 p.2 ∧ ∀ x, own_mem p.1 p.2 x ↔ own_mem RI RN x ∧ gI SD x = v1 ∧ gI PR x = v2) := by
    intro n
    induction n with
    | zero => intro LI LN v3 h0 h1 h2; omega
    | succ n ih =>
      intro LI LN v3 h0 h1 h2 g h3 hm
      have gl := g.l
      have gn0 := g.n0
      have gn1 := g.n1
      unfold f_gatherLevel_7
      refine own_iL (fun c => ?_) (fun c => ?_)
      · have p := own_p1 (a := v3) (by omega)
        have p2 := own_p1 (a := LN) (by omega)
        have rg := own_Rg w.r h0 (by omega)
        have up : ∀ x, own_mem RI (v3 + 1) x ↔ own_mem RI v3 x ∨ gI RI v3 = x := by
          intro x
          constructor
          · rintro ⟨j, j0, j1, ej⟩
            by_cases e : j.toInt < v3.toInt
            · exact Or.inl ⟨j, j0, e, ej⟩
            · have : j = v3 := by rw [ieq]; omega
              rw [this] at ej; exact Or.inr ej
          · rintro (⟨j, j0, j1, ej⟩ | h)
            · exact ⟨j, j0, by omega, ej⟩
            · exact ⟨v3, h0, by omega, h⟩
        have skip : ¬ (gI SD (gI RI v3) = v1 ∧ gI PR (gI RI v3) = v2) → Tot (f_gatherLevel_7 SD PR RI RN n LI LN v1 v2 (v3 + 1)) (fun p => own_G p.1 p.2 ∧ ∀ x, own_mem p.1 p.2 x ↔ own_mem RI RN x ∧ gI SD x = v1 ∧ gI PR x = v2) := by
          intro no
          refine ih _ _ _ (by omega) (by omega) (by omega) g (by omega) ?_
          intro x
          rw [hm x, up x]
          constructor
          · rintro ⟨a, b⟩; exact ⟨Or.inl a, b⟩
          · rintro ⟨a | a, b⟩
            · exact ⟨a, b⟩
            · rw [← a] at b; exact absurd b no
        rw [rdg h0 (by omega), Option.bind_some, rdg rg.1 (by omega), Option.bind_some]
        refine own_iE (fun g1 => ?_) (fun g1 => skip (fun q => g1 q.1))
        rw [rdg rg.1 (by omega), Option.bind_some]
        refine own_iE (fun g2 => ?_) (fun g2 => skip (fun q => g2 q.2))
        refine own_iL (fun c2 => ?_) (fun c2 => absurd c2 (by omega))
        rw [wrA_in gn0 (by omega), Option.bind_some]
        have gs : ∀ j : Int32, 0 ≤ j.toInt → gI (LI.set LN.toInt.toNat (gI RI v3)) j = if LN = j then gI RI v3 else gI LI j := fun j hj => gset gn0 (by omega) hj
        have fresh : ∀ i : Int32, 0 ≤ i.toInt → i.toInt < LN.toInt → ¬ gI LI i = gI RI v3 := by
          intro i i0 i1 hi
          obtain ⟨⟨j, j0, j1, ej⟩, _⟩ := (hm (gI RI v3)).mp ⟨i, i0, i1, hi⟩
          have := w.d j v3 j0 (by omega) h0 c ej
          rw [ieq] at this
          omega
        refine ih _ _ _ (by omega) (by omega) (by omega) ⟨own_Rs g.r rg.1 rg.2, by rw [List.length_set]; exact gl, by omega, by omega, ?_⟩ (by omega) ?_
        · intro i j i0 i1 j0 j1 hh
          rw [gs i i0, gs j j0] at hh
          by_cases ei : LN = i <;> by_cases ej : LN = j
          · rw [← ei, ← ej]
          · rw [if_pos ei, if_neg ej] at hh
            rw [ieq] at ej
            exact absurd hh.symm (fresh j j0 (by omega))
          · rw [if_neg ei, if_pos ej] at hh
            rw [ieq] at ei
            exact absurd hh (fresh i i0 (by omega))
          · rw [if_neg ei, if_neg ej] at hh
            rw [ieq] at ei ej
            exact g.d i j i0 (by omega) j0 (by omega) hh
        · intro x
          rw [up x]
          constructor
          · rintro ⟨j, j0, j1, ej⟩
            rw [gs j j0] at ej
            by_cases e : LN = j
            · rw [if_pos e] at ej
              refine ⟨Or.inr ej, ?_⟩
              rw [← ej]; exact ⟨g1, g2⟩
            · rw [if_neg e] at ej
              rw [ieq] at e
              obtain ⟨a, b⟩ := (hm x).mp ⟨j, j0, by omega, ej⟩
              exact ⟨Or.inl a, b⟩
          · rintro ⟨a | a, b⟩
            · obtain ⟨j, j0, j1, ej⟩ := (hm x).mpr ⟨a, b⟩
              refine ⟨j, j0, by omega, ?_⟩
              rw [gs j j0, if_neg (by rw [ieq]; omega)]
              exact ej
            · refine ⟨LN, gn0, by omega, ?_⟩
              rw [gs LN gn0, if_pos rfl]
              exact a
      · have e : v3 = RN := by rw [ieq]; omega
        rw [e] at hm
        exact Tot.mk ⟨g, hm⟩
  refine key 100000 LI 0 0 (by omega) (by omega) (by omega) ⟨hR, hl, by omega, by omega, fun i j i0 i1 => by omega⟩ (by omega) ?_
  intro x
  constructor
  · rintro ⟨j, j0, j1, _⟩; omega
  · rintro ⟨⟨j, j0, j1, _⟩, _⟩; omega
theorem own_srtX {SP : List Int64} {LI0 : List Int32} {LN : Int32} (lSP : SP.length = 256) (g0 : own_G LI0 LN) :
    Tot (f_sortLevel SP LN LI0) (fun LI => own_G LI LN ∧ ∀ x, own_mem LI LN x ↔ own_mem LI0 LN x) := by
  have e0 : (0 : Int32).toInt = 0 := rfl
  have e1 : (1 : Int32).toInt = 1 := rfl
  have n1 := g0.n1
  have swap : ∀ (M : List Int32) (j : Int32), 1 ≤ j.toInt → j.toInt < LN.toInt → own_G M LN → (∀ x, own_mem M LN x ↔ own_mem LI0 LN x) → ∀ M' : List Int32, M'.length = 64 → own_R M' → (∀ i : Int32, 0 ≤ i.toInt → gI M' i = if i = j - 1 then gI M j else if i = j then gI M (j - 1) else gI M i) → own_G M' LN ∧ ∀ x, own_mem M' LN x ↔ own_mem LI0 LN x := by
    intro M j j0 j1 g hm M' l' r' hg
    have pj := own_m1 (a := j) (by omega)
    have nj : ¬ j = j - 1 := by rw [ieq]; omega
    refine ⟨⟨r', l', g.n0, g.n1, ?_⟩, ?_⟩
    · intro a b a0 a1 b0 b1 hh
      rw [hg a a0, hg b b0] at hh
      by_cases h1 : a = j - 1
      · rw [if_pos h1] at hh
        by_cases h2 : b = j - 1
        · rw [h1, h2]
        · rw [if_neg h2] at hh
          by_cases h3 : b = j
          · rw [if_pos h3] at hh
            have := g.d _ _ (by omega) (by omega) (by omega) (by omega) hh
            exact absurd this nj
          · rw [if_neg h3] at hh
            exact absurd (g.d _ _ (by omega) (by omega) b0 b1 hh).symm h3
      · rw [if_neg h1] at hh
        by_cases h3 : a = j
        · rw [if_pos h3] at hh
          by_cases h2 : b = j - 1
          · rw [if_pos h2] at hh
            have := g.d _ _ (by omega) (by omega) (by omega) (by omega) hh
            exact absurd this.symm nj
          · rw [if_neg h2] at hh
            by_cases h4 : b = j
            · rw [h3, h4]
            · rw [if_neg h4] at hh
              exact absurd (g.d _ _ (by omega) (by omega) b0 b1 hh).symm h2
        · rw [if_neg h3] at hh
          by_cases h2 : b = j - 1
          · rw [if_pos h2] at hh
            exact absurd (g.d _ _ a0 a1 (by omega) (by omega) hh) h3
          · rw [if_neg h2] at hh
            by_cases h4 : b = j
            · rw [if_pos h4] at hh
              exact absurd (g.d _ _ a0 a1 (by omega) (by omega) hh) h1
            · rw [if_neg h4] at hh
              exact g.d _ _ a0 a1 b0 b1 hh
    · intro x
      rw [← hm x]
      constructor
      · rintro ⟨i, i0, i1, ei⟩
        rw [hg i i0] at ei
        by_cases h1 : i = j - 1
        · rw [if_pos h1] at ei; exact ⟨j, by omega, j1, ei⟩
        · rw [if_neg h1] at ei
          by_cases h2 : i = j
          · rw [if_pos h2] at ei; exact ⟨j - 1, by omega, by omega, ei⟩
          · rw [if_neg h2] at ei; exact ⟨i, i0, i1, ei⟩
      · rintro ⟨i, i0, i1, ei⟩
        by_cases h1 : i = j - 1
        · refine ⟨j, by omega, j1, ?_⟩
          rw [hg j (by omega), if_neg nj, if_pos rfl, ← h1]; exact ei
        · by_cases h2 : i = j
          · refine ⟨j - 1, by omega, by omega, ?_⟩
            rw [hg _ (by omega), if_pos rfl, ← h2]; exact ei
          · refine ⟨i, i0, i1, ?_⟩
            rw [hg i i0, if_neg h1, if_neg h2]; exact ei
  have k2 : ∀ (n : Nat) (LI : List Int32) (v1 : Int32), 1 ≤ v1.toInt → 65 - v1.toInt ≤ n → v1.toInt ≤ 64 → own_G LI LN → (∀ x, own_mem LI LN x ↔ own_mem LI0 LN x) → Tot (f_sortLevel_2 SP LN n LI v1) (fun LI => own_G LI LN ∧ ∀ x, own_mem LI LN x ↔ own_mem LI0 LN x) := by
    intro n
    induction n with
    | zero => intro LI v1 h0 h1 h2; omega
    | succ n ih =>
      intro LI v1 h0 h1 h2 g hm
      have gl := g.l
      unfold f_sortLevel_2
      refine own_iL (fun c => ?_) (fun c => Tot.mk ⟨g, hm⟩)
      have p := own_p1 (a := v1) (by omega)
      have rg := own_Rg g.r (j := v1) (by omega) (by omega)
      rw [rdg (by omega) (by omega), Option.bind_some]
      refine Tot.rd rg.1 (by omega) fun st _ => ?_
      have k27 : ∀ (m : Nat) (L : List Int32) (v5 : Int32), 0 ≤ v5.toInt → v5.toInt ≤ v1.toInt → v5.toInt < m → L.length = 64 → own_R L → own_G (L.set v5.toInt.toNat (gI LI v1)) LN → (∀ x, own_mem (L.set v5.toInt.toNat (gI LI v1)) LN x ↔ own_mem LI0 LN x) → Tot (f_sortLevel_27 (f_sortLevel_73 (f_sortLevel_2 SP LN n) SP LN) SP LN m L v1 (gI LI v1) st v5) (fun LI => own_G LI LN ∧ ∀ x, own_mem LI LN x ↔ own_mem LI0 LN x) := by
        intro m
        induction m with
        | zero => intro L v5 a0 a1 a2; omega
        | succ m ihm =>
          intro L v5 a0 a1 a2 lL rL gM hM
          have fin1 : Tot (f_sortLevel_73 (f_sortLevel_2 SP LN n) SP LN L v1 (gI LI v1) v5) (fun LI => own_G LI LN ∧ ∀ x, own_mem LI LN x ↔ own_mem LI0 LN x) := by
            unfold f_sortLevel_73
            rw [wrA_in a0 (by omega), Option.bind_some]
            exact ih _ _ (by omega) (by omega) (by omega) gM hM
          unfold f_sortLevel_27
          refine own_iL (fun c1 => ?_) (fun c1 => fin1)
          have m1 := own_m1 (a := v5) (by omega)
          have em : v5 + (-1) = v5 - 1 := (Int32.sub_eq_add_neg v5 1).symm
          have r5 := own_Rg rL (j := v5 - 1) (by omega) (by omega)
          rw [rdg (by omega) (by omega), Option.bind_some]
          refine Tot.rd r5.1 (by omega) fun sx _ => ?_
          refine Tot.ite (fun _ => ?_) (fun _ => fin1)
          rw [Option.bind_some, wrA_in a0 (by omega), Option.bind_some, em]
          have lM : (L.set v5.toInt.toNat (gI LI v1)).length = 64 := gM.l
          have l2 : (L.set v5.toInt.toNat (gI L (v5 - 1))).length = 64 := by rw [List.length_set]; exact lL
          have r2 := own_Rs (j := v5.toInt.toNat) rL r5.1 r5.2
          have hg : ∀ i : Int32, 0 ≤ i.toInt → gI ((L.set v5.toInt.toNat (gI L (v5 - 1))).set (v5 - 1).toInt.toNat (gI LI v1)) i = if i = v5 - 1 then gI (L.set v5.toInt.toNat (gI LI v1)) v5 else if i = v5 then gI (L.set v5.toInt.toNat (gI LI v1)) (v5 - 1) else gI (L.set v5.toInt.toNat (gI LI v1)) i := by
            intro i i0
            have nv : ¬ v5 = v5 - 1 := fun h => by rw [ieq] at h; omega
            have A := gset (L := L) (i := v5) (j := v5) (x := gI LI v1) a0 (by omega) a0
            have B := gset (L := L) (i := v5) (j := v5 - 1) (x := gI LI v1) a0 (by omega) (by omega)
            have C := gset (L := L) (i := v5) (j := i) (x := gI LI v1) a0 (by omega) i0
            have D := gset (L := L) (i := v5) (j := i) (x := gI L (v5 - 1)) a0 (by omega) i0
            have E := gset (L := L.set v5.toInt.toNat (gI L (v5 - 1))) (i := v5 - 1) (j := i) (x := gI LI v1) (by omega) (by omega) i0
            rw [if_pos rfl] at A
            rw [if_neg nv] at B
            rw [E, A, B, C, D]
            by_cases h1 : i = v5 - 1
            · rw [if_pos h1, if_pos h1.symm]
            · rw [if_neg h1, if_neg (fun h => h1 h.symm)]
              by_cases h2 : i = v5
              · rw [if_pos h2, if_pos h2.symm]
              · rw [if_neg h2, if_neg (fun h => h2 h.symm), if_neg (fun h => h2 h.symm)]
          obtain ⟨gN, hN⟩ := swap _ v5 (by omega) (by omega) gM hM _ (by rw [List.length_set]; exact l2) (own_Rs r2 rg.1 rg.2) hg
          exact ihm _ _ (by omega) (by omega) (by omega) l2 r2 gN hN
      have es : LI.set v1.toInt.toNat (gI LI v1) = LI := by
        refine gext (by rw [List.length_set, gl]; omega) (by rw [List.length_set]) (fun i i0 i1 => ?_)
        rw [gset (by omega) (by omega) i0]
        by_cases e : v1 = i
        · rw [if_pos e, e]
        · rw [if_neg e]
      exact k27 100000 LI v1 (by omega) (by omega) (by omega) gl g.r (by rw [es]; exact g) (by rw [es]; exact hm)
  exact k2 100000 LI0 1 (by omega) (by omega) (by omega) g0 (fun x => Iff.rfl)
def own_sm (L : List Int32) : Nat → Int
  | 0 => 0
  | n + 1 => own_sm L n + (gI L (Int32.ofNat n)).toInt
theorem own_sm_s {L : List Int32} {k x : Int32} (k0 : 0 ≤ k.toInt) (k1 : k.toInt < L.length) : ∀ n : Nat, n ≤ L.length → n ≤ 100000 → own_sm (L.set k.toInt.toNat x) n = own_sm L n + (if k.toInt < n then x.toInt - (gI L k).toInt else 0) := by
  intro n
  induction n with
  | zero => intro _ _; rw [own_sm, own_sm, if_neg (by omega)]; omega
  | succ n ih =>
    intro h1 h2
    have i := ih (by omega) (by omega)
    have en : (Int32.ofNat n).toInt = n := Int32.toInt_ofNat_of_lt (by omega)
    rw [own_sm, own_sm, i, gset k0 k1 (by omega)]
    by_cases e : k = Int32.ofNat n
    · rw [if_pos e, ← e]
      have ek := ieq.mp e
      rw [if_neg (by omega), if_pos (by omega)]
      omega
    · rw [if_neg e]
      rw [ieq, en] at e
      by_cases g : k.toInt < n
      · rw [if_pos g, if_pos (by omega)]; omega
      · rw [if_neg g, if_neg (by omega)]; omega
theorem own_sm_le {L : List Int32} {m : Nat} {lo hi : Int} (hm : m ≤ 64) (h : ∀ i : Int32, 0 ≤ i.toInt → i.toInt < m → lo ≤ (gI L i).toInt ∧ (gI L i).toInt ≤ hi) : ∀ n : Nat, n ≤ m → n * lo ≤ own_sm L n ∧ own_sm L n ≤ n * hi := by
  intro n
  induction n with
  | zero => intro _; rw [own_sm]; omega
  | succ n ih =>
    intro hn
    have i := ih (by omega)
    have en : (Int32.ofNat n).toInt = n := Int32.toInt_ofNat_of_lt (by omega)
    have r := h (Int32.ofNat n) (by omega) (by omega)
    rw [own_sm, Int.natCast_succ, Int.add_mul, Int.add_mul, Int.one_mul, Int.one_mul]
    omega
theorem own_sm_mono {A B : List Int32} {m : Nat} (hm : m ≤ 64) (h : ∀ i : Int32, 0 ≤ i.toInt → i.toInt < m → (gI A i).toInt ≤ (gI B i).toInt) : ∀ n : Nat, n ≤ m → own_sm A n ≤ own_sm B n := by
  intro n
  induction n with
  | zero => intro _; exact Int.le_refl _
  | succ n ih =>
    intro hn
    have i := ih (by omega)
    have en : (Int32.ofNat n).toInt = n := Int32.toInt_ofNat_of_lt (by omega)
    have r := h (Int32.ofNat n) (by omega) (by omega)
    rw [own_sm, own_sm]
    omega
theorem own_sm_rest {A B : List Int32} {m : Nat} (hm : m ≤ 64) (h : ∀ i : Int32, 0 ≤ i.toInt → i.toInt < m → (gI A i).toInt ≤ (gI B i).toInt) (n : Nat) : ∀ k : Nat, n + k ≤ m → own_sm A (n + k) - own_sm A n ≤ own_sm B (n + k) - own_sm B n := by
  intro k
  induction k with
  | zero => intro _; rw [Nat.add_zero]; omega
  | succ k ih =>
    intro hk
    have i := ih (by omega)
    have en : (Int32.ofNat (n + k)).toInt = (n + k : Nat) := Int32.toInt_ofNat_of_lt (by omega)
    have r := h (Int32.ofNat (n + k)) (by omega) (by omega)
    rw [← Nat.add_assoc, own_sm, own_sm]
    omega
theorem own_sm_1 (L : List Int32) {v : Int32} (v0 : 0 ≤ v.toInt) (v1 : v.toInt < 100000) : own_sm L ((v + 1).toInt.toNat) = own_sm L v.toInt.toNat + (gI L v).toInt := by
  have p := own_p1 (a := v) (by omega)
  have e : Int32.ofNat v.toInt.toNat = v := by
    rw [ieq, Int32.toInt_ofNat_of_lt (by omega)]
    omega
  rw [show (v + 1).toInt.toNat = v.toInt.toNat + 1 by omega, own_sm, e]
abbrev own_A (LR LA : List Int32) (LN : Int32) : Prop := (LR.length = 64) ∧ (LA.length = 64) ∧ (0 ≤ LN.toInt) ∧ (LN.toInt ≤ 64) ∧ (∀ i : Int32, 0 ≤ i.toInt → i.toInt < LN.toInt → 1 ≤ (gI LR i).toInt ∧ (gI LR i).toInt ≤ 10000) ∧ (∀ i : Int32, 0 ≤ i.toInt → i.toInt < LN.toInt → 0 ≤ (gI LA i).toInt ∧ (gI LA i).toInt ≤ (gI LR i).toInt)
theorem own_A.lR {LR LA : List Int32} {LN : Int32} (self : own_A LR LA LN) : LR.length = 64 := self.1
theorem own_A.lA {LR LA : List Int32} {LN : Int32} (self : own_A LR LA LN) : LA.length = 64 := self.2.1
theorem own_A.n0 {LR LA : List Int32} {LN : Int32} (self : own_A LR LA LN) : 0 ≤ LN.toInt := self.2.2.1
theorem own_A.n1 {LR LA : List Int32} {LN : Int32} (self : own_A LR LA LN) : LN.toInt ≤ 64 := self.2.2.2.1
theorem own_A.r {LR LA : List Int32} {LN : Int32} (self : own_A LR LA LN) : ∀ i : Int32, 0 ≤ i.toInt → i.toInt < LN.toInt → 1 ≤ (gI LR i).toInt ∧ (gI LR i).toInt ≤ 10000 := self.2.2.2.2.1
theorem own_A.a {LR LA : List Int32} {LN : Int32} (self : own_A LR LA LN) : ∀ i : Int32, 0 ≤ i.toInt → i.toInt < LN.toInt → 0 ≤ (gI LA i).toInt ∧ (gI LA i).toInt ≤ (gI LR i).toInt := self.2.2.2.2.2
theorem own_A.put {LR LA : List Int32} {LN k x : Int32} (h : own_A LR LA LN) (k0 : 0 ≤ k.toInt) (k1 : k.toInt < LN.toInt) (x0 : 0 ≤ x.toInt) (x1 : x.toInt ≤ (gI LR k).toInt) : own_A LR (LA.set k.toInt.toNat x) LN ∧ own_sm (LA.set k.toInt.toNat x) LN.toInt.toNat = own_sm LA LN.toInt.toNat + x.toInt - (gI LA k).toInt := by
  have lA := h.lA
  have n1 := h.n1
  refine ⟨⟨h.lR, by rw [List.length_set]; exact lA, h.n0, n1, h.r, ?_⟩, ?_⟩
  · intro i i0 i1
    rw [gset k0 (by omega) i0]
    by_cases e : k = i
    · rw [if_pos e, ← e]; exact ⟨x0, x1⟩
    · rw [if_neg e]; exact h.a i i0 i1
  · rw [own_sm_s k0 (by omega) _ (by omega) (by omega), if_pos (by omega)]
    omega
theorem own_topX {TP LI LR LA : List Int32} {tc LN v1 : Int32} (lT : TP.length = 256) (g : own_G LI LN) (h : own_A LR LA LN) (hz : ∀ i : Int32, 0 ≤ i.toInt → i.toInt < LN.toInt → gI LA i = 0) (s0 : own_sm LA LN.toInt.toNat = 0) (v0 : 0 ≤ v1.toInt) :
    Tot (f_topStep TP LI LR tc LN LA v1) (fun p => own_A LR p.2 LN ∧ 0 ≤ p.1.toInt ∧ p.1.toInt ≤ v1.toInt ∧ own_sm p.2 LN.toInt.toNat = p.1.toInt) := by
  have e0 : (0 : Int32).toInt = 0 := rfl
  have gl := g.l
  have lR := h.lR
  have lA := h.lA
  have n1 := h.n1
  unfold f_topStep
  refine own_iL (fun ct => ?_) (fun _ => Tot.mk ⟨h, Int.le_refl 0, by dsimp only; omega, by dsimp only; omega⟩)
  have key : ∀ (n : Nat) (v2 : Int32), 0 ≤ v2.toInt → v2.toInt ≤ 64 → 65 - v2.toInt ≤ n → Tot (f_topStep_11 (f_topStep_35 TP LI LR tc LN) TP LI LR tc LN n LA v1 v2) (fun p => own_A LR p.2 LN ∧ 0 ≤ p.1.toInt ∧ p.1.toInt ≤ v1.toInt ∧ own_sm p.2 LN.toInt.toNat = p.1.toInt) := by
    intro n
    induction n with
    | zero => intro v2 a b c; omega
    | succ n ih =>
      intro v2 a b c
      unfold f_topStep_11
      refine own_iL (fun c1 => ?_) (fun _ => Tot.mk ⟨h, Int.le_refl 0, by dsimp only; omega, by dsimp only; omega⟩)
      have p := own_p1 (a := v2) (by omega)
      have rg := own_Rg g.r a (by omega)
      rw [rdg a (by omega), Option.bind_some]
      refine Tot.rd rg.1 (by omega) fun tp _ => ?_
      refine own_iE (fun _ => ih _ (by omega) (by omega) (by omega)) (fun _ => ?_)
      have rr := h.r v2 a c1
      have az := hz v2 a c1
      have fin1 : ∀ t : Int32, t.toInt ≤ v1.toInt → t.toInt ≤ (gI LR v2).toInt → Tot (f_topStep_57 TP LI LR tc LN LA v2 t) (fun p => own_A LR p.2 LN ∧ 0 ≤ p.1.toInt ∧ p.1.toInt ≤ v1.toInt ∧ own_sm p.2 LN.toInt.toNat = p.1.toInt) := by
        intro t t1 t2
        unfold f_topStep_57 f_topStep_72 f_topStep_80
        have hs : ∃ s : Int32, (if (if tc < t then tc else t) < (0 : Int32) then (0 : Int32) else (if tc < t then tc else t)) = s ∧ 0 ≤ s.toInt ∧ s.toInt ≤ v1.toInt ∧ s.toInt ≤ (gI LR v2).toInt := by
          refine ⟨_, rfl, ?_⟩
          by_cases q : tc < t
          · rw [if_pos q, if_neg (fun z => by rw [ilt] at z; omega)]
            rw [ilt] at q
            omega
          · rw [if_neg q]
            by_cases q2 : t < 0
            · rw [if_pos q2]; omega
            · rw [if_neg q2]; rw [ilt] at q2; omega
        obtain ⟨s, es, s1, s2, s3⟩ := hs
        rw [es, rdg a (by omega), Option.bind_some, az, wrA_in a (by omega), Option.bind_some, Int32.zero_add]
        obtain ⟨q1, q2⟩ := h.put a c1 s1 s3
        refine Tot.mk ⟨q1, s1, s2, ?_⟩
        show own_sm (LA.set v2.toInt.toNat s) LN.toInt.toNat = s.toInt
        rw [q2, az, s0]
        omega
      unfold f_topStep_35
      rw [rdg a (by omega), Option.bind_some]
      refine own_iL (fun c2 => ?_) (fun c2 => ?_)
      · rw [Option.bind_some]; exact fin1 _ (by omega) (by omega)
      · exact fin1 _ (by omega) (by omega)
  exact key 100000 0 (by omega) (by omega) (by omega)
theorem own_div1 {e b S : Int} (he : 0 ≤ e) (heS : e ≤ S) (hb : 0 ≤ b) (hS : 0 < S) : 0 ≤ e * b / S ∧ e * b / S ≤ b ∧ (e * b / S) * S ≤ e * b := by
  have m : 0 ≤ e * b := Int.mul_nonneg he hb
  refine ⟨Int.ediv_nonneg m (by omega), ?_, Int.ediv_mul_le _ (by omega)⟩
  apply Int.ediv_le_of_le_mul hS
  rw [Int.mul_comm b S]
  exact Int.mul_le_mul_of_nonneg_right heS hb
theorem own_ldiv {a b : Int64} (h0 : 0 ≤ a.toInt) (h1 : a.toInt < 9000000000000000000) (hb : 0 < b.toInt) : (a / b).toInt = a.toInt / b.toInt := by
  have d0 := Int.ediv_nonneg h0 (show 0 ≤ b.toInt by omega)
  have d1 : a.toInt / b.toInt ≤ a.toInt := Int.ediv_le_self _ h0
  rw [Int64.toInt_div, Int.tdiv_eq_ediv_of_nonneg h0]
  exact Int.bmod_eq_of_le (by omega) (by omega)
theorem own_l32 {a : Int64} (h0 : -2147483648 ≤ a.toInt) (h1 : a.toInt < 2147483648) : a.toInt32.toInt = a.toInt := by
  rw [Int64.toInt_toInt32]
  exact Int.bmod_eq_of_le (by omega) (by omega)
theorem own_prX {LR LA : List Int32} {ma LN e2 : Int32} (h : own_A LR LA LN) (e0' : 0 < e2.toInt) (e1' : e2.toInt ≤ own_sm LR LN.toInt.toNat - own_sm LA LN.toInt.toNat) (e2' : e2.toInt ≤ 1000000) :
    Tot (f_proRataStep LR ma LN LA e2) (fun p => own_A LR p.2 LN ∧ 0 ≤ p.1.toInt ∧ p.1.toInt ≤ e2.toInt ∧ own_sm p.2 LN.toInt.toNat = own_sm LA LN.toInt.toNat + p.1.toInt) := by
  have e0 : (0 : Int32).toInt = 0 := rfl
  have l0 : (0 : Int64).toInt = 0 := rfl
  have lR := h.lR
  have lA := h.lA
  have n0 := h.n0
  have n1 := h.n1
  have key53 : ∀ (S : Int64), S.toInt = own_sm LR LN.toInt.toNat - own_sm LA LN.toInt.toNat → ∀ (n : Nat) (B : List Int32) (v4 v5 : Int32), 0 ≤ v5.toInt → v5.toInt ≤ LN.toInt → LN.toInt - v5.toInt < n → own_A LR B LN → (∀ i : Int32, v5.toInt ≤ i.toInt → i.toInt < LN.toInt → gI B i = gI LA i) → own_sm B LN.toInt.toNat = own_sm LA LN.toInt.toNat + v4.toInt → 0 ≤ v4.toInt → v4.toInt ≤ 10000 * v5.toInt → v4.toInt * S.toInt ≤ e2.toInt * (own_sm LR v5.toInt.toNat - own_sm LA v5.toInt.toNat) →
      Tot (f_proRataStep_53 LR ma LN n B e2 S v4 v5) (fun p => own_A LR p.2 LN ∧ 0 ≤ p.1.toInt ∧ p.1.toInt ≤ e2.toInt ∧ own_sm p.2 LN.toInt.toNat = own_sm LA LN.toInt.toNat + p.1.toInt) := by
    intro S hS n
    induction n with
    | zero => intro B v4 v5 a b c; omega
    | succ n ih =>
      intro B v4 v5 a b c hB hu hs h40 h41 hm
      have lB := hB.lA
      have nz : ¬ S = 0 := fun z => by rw [z, l0] at hS; omega
      unfold f_proRataStep_53
      refine own_iL (fun c1 => ?_) (fun c1 => ?_)
      · have p := own_p1 (a := v5) (by omega)
        have rr := hB.r v5 a c1
        have ra := hB.a v5 a c1
        have sub : (gI LR v5 - gI B v5).toInt = (gI LR v5).toInt - (gI B v5).toInt := isub_i (by omega) (by omega)
        rw [rdg a (by omega), Option.bind_some, rdg a (by omega), Option.bind_some, if_neg nz]
        have ml : (e2.toInt64 * (gI LR v5 - gI B v5).toInt64).toInt = e2.toInt * ((gI LR v5).toInt - (gI B v5).toInt) := by
          have m0 : 0 ≤ e2.toInt * ((gI LR v5).toInt - (gI B v5).toInt) := Int.mul_nonneg (by omega) (by omega)
          have m1 : e2.toInt * ((gI LR v5).toInt - (gI B v5).toInt) ≤ 1000000 * 10000 := Int.mul_le_mul e2' (by omega) (by omega) (by omega)
          rw [lmul_i (by rw [Int32.toInt_toInt64, Int32.toInt_toInt64, sub]; omega) (by rw [Int32.toInt_toInt64, Int32.toInt_toInt64, sub]; omega), Int32.toInt_toInt64, Int32.toInt_toInt64, sub]
        have dv := own_div1 (e := e2.toInt) (b := (gI LR v5).toInt - (gI B v5).toInt) (S := S.toInt) (by omega) (by omega) (by omega) (by omega)
        have m0 : 0 ≤ e2.toInt * ((gI LR v5).toInt - (gI B v5).toInt) := Int.mul_nonneg (by omega) (by omega)
        have m1 : e2.toInt * ((gI LR v5).toInt - (gI B v5).toInt) ≤ 1000000 * 10000 := Int.mul_le_mul e2' (by omega) (by omega) (by omega)
        have dq : ((e2.toInt64 * (gI LR v5 - gI B v5).toInt64) / S).toInt32.toInt = e2.toInt * ((gI LR v5).toInt - (gI B v5).toInt) / S.toInt := by
          have q := own_ldiv (a := e2.toInt64 * (gI LR v5 - gI B v5).toInt64) (b := S) (by rw [ml]; omega) (by rw [ml]; omega) (by omega)
          rw [own_l32 (by rw [q, ml]; omega) (by rw [q, ml]; omega), q, ml]
        have hsh : ∃ sh : Int32, (if ((e2.toInt64 * (gI LR v5 - gI B v5).toInt64) / S).toInt32 < ma then (0 : Int32) else ((e2.toInt64 * (gI LR v5 - gI B v5).toInt64) / S).toInt32) = sh ∧ 0 ≤ sh.toInt ∧ sh.toInt ≤ (gI LR v5).toInt - (gI B v5).toInt ∧ sh.toInt * S.toInt ≤ e2.toInt * ((gI LR v5).toInt - (gI B v5).toInt) := by
          refine ⟨_, rfl, ?_⟩
          by_cases q : ((e2.toInt64 * (gI LR v5 - gI B v5).toInt64) / S).toInt32 < ma
          · rw [if_pos q, e0, Int.zero_mul]
            exact ⟨by omega, by omega, m0⟩
          · rw [if_neg q, dq]
            exact dv
        obtain ⟨sh, es, s1, s2, s3⟩ := hsh
        rw [es]
        unfold f_proRataStep_102
        have ad : (gI B v5 + sh).toInt = (gI B v5).toInt + sh.toInt := iadd_i (by omega) (by omega)
        have a4 : (v4 + sh).toInt = v4.toInt + sh.toInt := iadd_i (by omega) (by omega)
        rw [rdg a (by omega), Option.bind_some, wrA_in a (by omega), Option.bind_some]
        obtain ⟨q1, q2⟩ := hB.put (x := gI B v5 + sh) a c1 (by omega) (by omega)
        refine ih _ _ _ (by omega) (by omega) (by omega) q1 ?_ ?_ (by omega) (by omega) ?_
        · intro i i0 i1
          rw [gset a (by omega) (by omega), if_neg (fun z => by rw [ieq] at z; omega)]
          exact hu i (by omega) i1
        · rw [q2, hs, a4, ad]; omega
        · rw [a4, own_sm_1 LR a (by omega), own_sm_1 LA a (by omega), Int.add_mul]
          have eb := hu v5 (by omega) c1
          rw [eb] at s3
          have : e2.toInt * (own_sm LR v5.toInt.toNat + (gI LR v5).toInt - (own_sm LA v5.toInt.toNat + (gI LA v5).toInt)) = e2.toInt * (own_sm LR v5.toInt.toNat - own_sm LA v5.toInt.toNat) + e2.toInt * ((gI LR v5).toInt - (gI LA v5).toInt) := by
            rw [← Int.mul_add]
            congr 1
            omega
          omega
      · have ev : v5.toInt = LN.toInt := by omega
        rw [ev, ← hS] at hm
        refine Tot.mk ⟨hB, h40, ?_, hs⟩
        exact Int.le_of_mul_le_mul_right hm (by omega)
  have key5 : ∀ (n : Nat) (S : Int64) (v4 : Int32), 0 ≤ v4.toInt → v4.toInt ≤ LN.toInt → LN.toInt - v4.toInt < n → S.toInt = own_sm LR v4.toInt.toNat - own_sm LA v4.toInt.toNat → 0 ≤ S.toInt → S.toInt ≤ 10000 * v4.toInt →
      Tot (f_proRataStep_5 (f_proRataStep_39 LR ma LN) LR ma LN n LA e2 S v4) (fun p => own_A LR p.2 LN ∧ 0 ≤ p.1.toInt ∧ p.1.toInt ≤ e2.toInt ∧ own_sm p.2 LN.toInt.toNat = own_sm LA LN.toInt.toNat + p.1.toInt) := by
    intro n
    induction n with
    | zero => intro S v4 a b c; omega
    | succ n ih =>
      intro S v4 a b c hS h0 h1
      unfold f_proRataStep_5
      refine own_iL (fun c1 => ?_) (fun c1 => ?_)
      · have p := own_p1 (a := v4) (by omega)
        have rr := h.r v4 a c1
        have ra := h.a v4 a c1
        have sub : (gI LR v4 - gI LA v4).toInt = (gI LR v4).toInt - (gI LA v4).toInt := isub_i (by omega) (by omega)
        have ad : (S + (gI LR v4 - gI LA v4).toInt64).toInt = S.toInt + ((gI LR v4).toInt - (gI LA v4).toInt) := by
          rw [ladd_i (by rw [Int32.toInt_toInt64, sub]; omega) (by rw [Int32.toInt_toInt64, sub]; omega), Int32.toInt_toInt64, sub]
        rw [rdg a (by omega), Option.bind_some, rdg a (by omega), Option.bind_some]
        refine ih _ _ (by omega) (by omega) (by omega) ?_ (by omega) (by omega)
        rw [ad, own_sm_1 LR a (by omega), own_sm_1 LA a (by omega)]
        omega
      · have ev : v4.toInt = LN.toInt := by omega
        rw [ev] at hS
        unfold f_proRataStep_39
        rw [if_pos (by rw [lltI]; omega)]
        exact key53 S hS 100000 LA 0 0 (by omega) (by omega) (by omega) h (fun i _ _ => rfl) (by omega) (by omega) (by omega) (by rw [e0]; simp [own_sm])
  unfold f_proRataStep
  exact key5 100000 0 0 (by omega) (by omega) (by omega) rfl (by decide) (by decide)
theorem own_tsX {LR : List Int32} {LN : Int32} : ∀ (n : Nat) (LA : List Int32) (v2 v3 : Int32), own_A LR LA LN → 0 ≤ v2.toInt → v2.toInt ≤ 1000000 → 0 ≤ v3.toInt → v3.toInt ≤ LN.toInt → LN.toInt - v3.toInt < n → v2.toInt ≤ (own_sm LR LN.toInt.toNat - own_sm LR v3.toInt.toNat) - (own_sm LA LN.toInt.toNat - own_sm LA v3.toInt.toNat) →
    Tot (f_timeStep_4 LR LN n LA v2 v3) (fun p => own_A LR p LN ∧ own_sm p LN.toInt.toNat = own_sm LA LN.toInt.toNat + v2.toInt) := by
  intro n
  have e0 : (0 : Int32).toInt = 0 := rfl
  induction n with
  | zero => intro LA v2 v3 h a a' b c d; omega
  | succ n ih =>
    intro LA v2 v3 h a a' b c d hr
    have lR := h.lR
    have lA := h.lA
    have n1 := h.n1
    unfold f_timeStep_4
    refine own_iL (fun c1 => ?_) (fun c1 => ?_)
    · refine own_iL (fun c2 => ?_) (fun c2 => Tot.mk ⟨h, by omega⟩)
      have p := own_p1 (a := v3) (by omega)
      have rr := h.r v3 b c1
      have ra := h.a v3 b c1
      have sub : (gI LR v3 - gI LA v3).toInt = (gI LR v3).toInt - (gI LA v3).toInt := isub_i (by omega) (by omega)
      rw [rdg b (by omega), Option.bind_some, rdg b (by omega), Option.bind_some]
      have hg : ∃ t : Int32, (if v2 < (gI LR v3 - gI LA v3) then v2 else (gI LR v3 - gI LA v3)) = t ∧ 0 ≤ t.toInt ∧ t.toInt ≤ v2.toInt ∧ t.toInt ≤ (gI LR v3).toInt - (gI LA v3).toInt ∧ (t.toInt = v2.toInt ∨ t.toInt = (gI LR v3).toInt - (gI LA v3).toInt) := by
        refine ⟨_, rfl, ?_⟩
        by_cases q : v2 < gI LR v3 - gI LA v3
        · rw [if_pos q]; rw [ilt] at q; omega
        · rw [if_neg q]; rw [ilt] at q; omega
      obtain ⟨t, et, t0, t1, t2, t3⟩ := hg
      rw [et]
      have s1 := own_sm_1 LR b (by omega)
      have s2 := own_sm_1 LA b (by omega)
      have s3 := own_sm_rest (A := LA) (B := LR) (m := LN.toInt.toNat) (by omega) (fun i i0 i1 => (h.a i i0 (by omega)).2) (v3 + 1).toInt.toNat (LN.toInt.toNat - (v3 + 1).toInt.toNat) (by omega)
      rw [show (v3 + 1).toInt.toNat + (LN.toInt.toNat - (v3 + 1).toInt.toNat) = LN.toInt.toNat by omega] at s3
      unfold f_timeStep_43
      refine own_iL (fun c3 => ?_) (fun c3 => ?_)
      · have ad : (gI LA v3 + t).toInt = (gI LA v3).toInt + t.toInt := iadd_i (by omega) (by omega)
        have sv : (v2 - t).toInt = v2.toInt - t.toInt := isub_i (by omega) (by omega)
        rw [rdg b (by omega), Option.bind_some, wrA_in b (by omega), Option.bind_some]
        obtain ⟨q1, q2⟩ := h.put (x := gI LA v3 + t) b c1 (by omega) (by omega)
        have q3 := own_sm_s (L := LA) (k := v3) (x := gI LA v3 + t) b (by omega) (v3 + 1).toInt.toNat (by omega) (by omega)
        rw [if_pos (by omega)] at q3
        refine Tot.mono (ih _ _ _ q1 (by omega) (by omega) (by omega) (by omega) (by omega) ?_) ?_
        · rw [q2, q3, s1, s2, sv, ad]; omega
        · rintro L ⟨g1, g2⟩
          exact ⟨g1, by rw [g2, q2, sv, ad]; omega⟩
      · refine ih _ _ _ h a a' (by omega) (by omega) (by omega) ?_
        rw [s1, s2]; omega
    · have ev : v3.toInt = LN.toInt := by omega
      rw [ev] at hr
      exact Tot.mk ⟨h, by omega⟩
theorem own_alX {TP LI LR LA : List Int32} {ma tc LN q : Int32} (lT : TP.length = 256) (g : own_G LI LN) (h : own_A LR LA LN) (hz : ∀ i : Int32, 0 ≤ i.toInt → i.toInt < LN.toInt → gI LA i = 0) (q0 : 1 ≤ q.toInt) (q1 : q.toInt ≤ 10000) :
    Tot (f_allocate TP LI LR ma tc LN LA q) (fun p => own_A LR p.2 LN ∧ own_sm p.2 LN.toInt.toNat = p.1.toInt ∧ p.1.toInt = (if q.toInt < own_sm LR LN.toInt.toNat then q.toInt else own_sm LR LN.toInt.toNat)) := by
  have e0 : (0 : Int32).toInt = 0 := rfl
  have lR := h.lR
  have n0 := h.n0
  have n1 := h.n1
  have sz : own_sm LA LN.toInt.toNat = 0 := by
    have := own_sm_le (L := LA) (m := LN.toInt.toNat) (lo := 0) (hi := 0) (by omega) (fun i i0 i1 => by rw [hz i i0 (by omega), e0]; omega) LN.toInt.toNat (by omega)
    omega
  have sR := own_sm_le (L := LR) (m := LN.toInt.toNat) (lo := 1) (hi := 10000) (by omega) (fun i i0 i1 => h.r i i0 (by omega)) LN.toInt.toNat (by omega)
  have key : ∀ (n : Nat) (v2 v3 : Int32), 0 ≤ v3.toInt → v3.toInt ≤ LN.toInt → LN.toInt - v3.toInt < n → v2.toInt = own_sm LR v3.toInt.toNat → 0 ≤ v2.toInt → v2.toInt ≤ 10000 * v3.toInt → Tot (f_allocate_4 (f_allocate_27 TP LI LR ma tc LN) TP LI LR ma tc LN n LA q v2 v3) (fun p => own_A LR p.2 LN ∧ own_sm p.2 LN.toInt.toNat = p.1.toInt ∧ p.1.toInt = (if q.toInt < own_sm LR LN.toInt.toNat then q.toInt else own_sm LR LN.toInt.toNat)) := by
    intro n
    induction n with
    | zero => intro v2 v3 a b c; omega
    | succ n ih =>
      intro v2 v3 a b c hv v0 v1
      unfold f_allocate_4
      refine own_iL (fun c1 => ?_) (fun c1 => ?_)
      · have p := own_p1 (a := v3) (by omega)
        have rr := h.r v3 a c1
        have ad : (v2 + gI LR v3).toInt = v2.toInt + (gI LR v3).toInt := iadd_i (by omega) (by omega)
        rw [rdg a (by omega), Option.bind_some]
        refine ih _ _ (by omega) (by omega) (by omega) ?_ (by omega) (by omega)
        rw [ad, own_sm_1 LR a (by omega), hv]
      · have ev : v3.toInt = LN.toInt := by omega
        rw [ev] at hv
        unfold f_allocate_27
        have he : ∃ e : Int32, (if q < v2 then q else v2) = e ∧ e.toInt = (if q.toInt < own_sm LR LN.toInt.toNat then q.toInt else own_sm LR LN.toInt.toNat) := by
          refine ⟨_, rfl, ?_⟩
          by_cases z : q < v2
          · rw [if_pos z]; rw [ilt] at z; rw [if_pos (by omega)]
          · rw [if_neg z]; rw [ilt] at z; rw [if_neg (by omega)]; exact hv
        obtain ⟨e, ee, he⟩ := he
        have e1 : 0 ≤ e.toInt := by rw [he]; split <;> omega
        have e2 : e.toInt ≤ own_sm LR LN.toInt.toNat := by rw [he]; split <;> omega
        rw [ee]
        unfold f_allocate_37
        refine Tot.bind (own_topX lT g h hz sz e1) ?_
        rintro ⟨t, B⟩ ⟨hB, t0, t1, t2⟩
        have t0' : 0 ≤ t.toInt := t0
        have t1' : t.toInt ≤ e.toInt := t1
        have t2' : own_sm B LN.toInt.toNat = t.toInt := t2
        have hB' : own_A LR B LN := hB
        have sv : (e - t).toInt = e.toInt - t.toInt := isub_i (by omega) (by omega)
        have fin1 : ∀ (C : List Int32) (u : Int32), own_A LR C LN → 0 ≤ u.toInt → u.toInt ≤ (e - t).toInt → own_sm C LN.toInt.toNat = t.toInt + u.toInt → Tot (f_allocate_67 TP LI LR ma tc LN C e (e - t) u) (fun p => own_A LR p.2 LN ∧ own_sm p.2 LN.toInt.toNat = p.1.toInt ∧ p.1.toInt = (if q.toInt < own_sm LR LN.toInt.toNat then q.toInt else own_sm LR LN.toInt.toNat)) := by
          intro C u hC u0 u1 hs
          have su : (e - t - u).toInt = e.toInt - t.toInt - u.toInt := by rw [isub_i (by omega) (by omega), sv]
          unfold f_allocate_67 f_timeStep
          refine Tot.bind (own_tsX 100000 C (e - t - u) 0 hC (by omega) (by omega) (by omega) (by omega) (by omega) ?_) ?_
          · rw [hs, su, e0]
            simp only [Int.toNat_zero, own_sm]
            omega
          · rintro L ⟨g1, g2⟩
            refine Tot.mk ⟨g1, ?_, he⟩
            show own_sm L LN.toInt.toNat = e.toInt
            rw [g2, hs, su]; omega
        show Tot (if (0 : Int32) < e - t then _ else _) _
        refine own_iL (fun c2 => ?_) (fun c2 => fin1 B 0 hB' (by omega) (by omega) (by omega))
        refine Tot.bind (own_prX (ma := ma) hB' (by omega) (by omega) (by omega)) ?_
        rintro ⟨u, C⟩ ⟨hC, u0, u1, u2⟩
        have u2' : own_sm C LN.toInt.toNat = own_sm B LN.toInt.toNat + u.toInt := u2
        exact fin1 C u hC u0 u1 (by omega)
  unfold f_allocate
  exact key 100000 0 0 (by omega) (by omega) (by omega) rfl (by omega) (by omega)
abbrev own_X (SD RM ST TP RI : List Int32) (RN acc : Int32) : Prop := (own_W RI RN acc) ∧ (acc.toInt ≤ 255) ∧ (RM.length = 256) ∧ (ST.length = 256) ∧ (TP.length = 256) ∧ (∀ x : Int32, 1 ≤ x.toInt → x.toInt ≤ acc.toInt → (gI ST x = 1 ↔ own_mem RI RN x)) ∧ (∀ x : Int32, own_mem RI RN x → 1 ≤ (gI RM x).toInt ∧ (gI RM x).toInt ≤ 10000) ∧ (∀ x y : Int32, own_mem RI RN x → own_mem RI RN y → gI SD x = gI SD y → ¬ gI TP x = 0 → ¬ gI TP y = 0 → x = y)
theorem own_X.w {SD RM ST TP RI : List Int32} {RN acc : Int32} (self : own_X SD RM ST TP RI RN acc) : own_W RI RN acc := self.1
theorem own_X.a1 {SD RM ST TP RI : List Int32} {RN acc : Int32} (self : own_X SD RM ST TP RI RN acc) : acc.toInt ≤ 255 := self.2.1
theorem own_X.lM {SD RM ST TP RI : List Int32} {RN acc : Int32} (self : own_X SD RM ST TP RI RN acc) : RM.length = 256 := self.2.2.1
theorem own_X.lS {SD RM ST TP RI : List Int32} {RN acc : Int32} (self : own_X SD RM ST TP RI RN acc) : ST.length = 256 := self.2.2.2.1
theorem own_X.lT {SD RM ST TP RI : List Int32} {RN acc : Int32} (self : own_X SD RM ST TP RI RN acc) : TP.length = 256 := self.2.2.2.2.1
theorem own_X.s {SD RM ST TP RI : List Int32} {RN acc : Int32} (self : own_X SD RM ST TP RI RN acc) : ∀ x : Int32, 1 ≤ x.toInt → x.toInt ≤ acc.toInt → (gI ST x = 1 ↔ own_mem RI RN x) := self.2.2.2.2.2.1
theorem own_X.r {SD RM ST TP RI : List Int32} {RN acc : Int32} (self : own_X SD RM ST TP RI RN acc) : ∀ x : Int32, own_mem RI RN x → 1 ≤ (gI RM x).toInt ∧ (gI RM x).toInt ≤ 10000 := self.2.2.2.2.2.2.1
theorem own_X.t {SD RM ST TP RI : List Int32} {RN acc : Int32} (self : own_X SD RM ST TP RI RN acc) : ∀ x y : Int32, own_mem RI RN x → own_mem RI RN y → gI SD x = gI SD y → ¬ gI TP x = 0 → ¬ gI TP y = 0 → x = y := self.2.2.2.2.2.2.2
theorem own_X.rg {SD RM ST TP RI : List Int32} {RN acc : Int32} (h : own_X SD RM ST TP RI RN acc) {x : Int32} (m : own_mem RI RN x) : 1 ≤ x.toInt ∧ x.toInt ≤ acc.toInt := by
  obtain ⟨j, j0, j1, ej⟩ := m
  rw [← ej]
  exact h.w.e j j0 j1
abbrev own_Y (FL FI FQ FP : List Int32) (FN : Int32) : Prop := (FL.length = 256) ∧ (FI.length = 64) ∧ (FQ.length = 64) ∧ (FP.length = 64) ∧ (0 ≤ FN.toInt) ∧ (FN.toInt ≤ 64)
theorem own_Y.lF {FL FI FQ FP : List Int32} {FN : Int32} (self : own_Y FL FI FQ FP FN) : FL.length = 256 := self.1
theorem own_Y.lI {FL FI FQ FP : List Int32} {FN : Int32} (self : own_Y FL FI FQ FP FN) : FI.length = 64 := self.2.1
theorem own_Y.lQ {FL FI FQ FP : List Int32} {FN : Int32} (self : own_Y FL FI FQ FP FN) : FQ.length = 64 := self.2.2.1
theorem own_Y.lP {FL FI FQ FP : List Int32} {FN : Int32} (self : own_Y FL FI FQ FP FN) : FP.length = 64 := self.2.2.2.1
theorem own_Y.f0 {FL FI FQ FP : List Int32} {FN : Int32} (self : own_Y FL FI FQ FP FN) : 0 ≤ FN.toInt := self.2.2.2.2.1
theorem own_Y.f1 {FL FI FQ FP : List Int32} {FN : Int32} (self : own_Y FL FI FQ FP FN) : FN.toInt ≤ 64 := self.2.2.2.2.2
theorem own_par {L : List Int32} {k x : Int32} (l : L.length = 256) (k0 : 0 ≤ k.toInt) (k1 : k.toInt < 256) : (own_sm (L.set k.toInt.toNat (gI L k + x)) 256 - own_sm L 256 - x.toInt) % 2 = 0 := by
  rw [own_sm_s k0 (by omega) 256 (by omega) (by omega), if_pos (by omega), iadd_e]
  omega
theorem own_apX {SD LI LR LA : List Int32} {LN acc : Int32} (g : own_G LI LN) (hA : own_A LR LA LN) (v1 : Int32) {RI0 FL0 : List Int32} {RN0 : Int32} : ∀ (n : Nat) (RM FL ST TP RI FI FQ FP : List Int32) (RN FN v2 : Int32), 0 ≤ v2.toInt → v2.toInt ≤ LN.toInt → LN.toInt - v2.toInt < n → own_X SD RM ST TP RI RN acc → own_Y FL FI FQ FP FN →
    (∀ x, own_mem RI RN x → own_mem RI0 RN0 x) → (∀ j : Int32, v2.toInt ≤ j.toInt → j.toInt < LN.toInt → own_mem RI RN (gI LI j) ∧ gI RM (gI LI j) = gI LR j) → (own_sm FL 256 - own_sm FL0 256 - own_sm LA v2.toInt.toNat) % 2 = 0 → RN.toInt ≤ RN0.toInt → (∀ j : Int32, 0 ≤ j.toInt → j.toInt < v2.toInt → gI LA j = gI LR j → ¬ own_mem RI RN (gI LI j) ∧ RN.toInt ≤ RN0.toInt - 1) → (∀ x : Int32, 0 ≤ x.toInt → x.toInt < 256 → (x.toInt < 1 ∨ acc.toInt < x.toInt) → gI FL x = gI FL0 x) →
    Tot (f_applyLevel_2 LI LA LN n RM FL ST TP RI FI FQ FP RN FN v1 v2) (fun (RM, FL, ST, TP, RI, FI, FQ, FP, RN, FN) => own_X SD RM ST TP RI RN acc ∧ own_Y FL FI FQ FP FN ∧ (∀ x, own_mem RI RN x → own_mem RI0 RN0 x) ∧ (own_sm FL 256 - own_sm FL0 256 - own_sm LA LN.toInt.toNat) % 2 = 0 ∧ RN.toInt ≤ RN0.toInt ∧ (∀ j : Int32, 0 ≤ j.toInt → j.toInt < LN.toInt → gI LA j = gI LR j → ¬ own_mem RI RN (gI LI j) ∧ RN.toInt ≤ RN0.toInt - 1) ∧ (∀ x : Int32, 0 ≤ x.toInt → x.toInt < 256 → (x.toInt < 1 ∨ acc.toInt < x.toInt) → gI FL x = gI FL0 x)) := by
  intro n
  have e0 : (0 : Int32).toInt = 0 := rfl
  have e64 : (64 : Int32).toInt = 64 := rfl
  have gl := g.l
  have lA := hA.lA
  have n1 := hA.n1
  induction n with
  | zero => intro RM FL ST TP RI FI FQ FP RN FN v2 a b c; omega
  | succ n ih =>
    intro RM FL ST TP RI FI FQ FP RN FN v2 a b c X Y h1 h2 h3 h4 h5 h6
    unfold f_applyLevel_2
    by_cases cc : v2 < LN
    rotate_left
    · rw [if_neg cc]
      rw [ilt] at cc
      have ev : v2.toInt = LN.toInt := by omega
      rw [ev] at h3 h5
      exact Tot.mk ⟨X, Y, h1, h3, h4, h5, h6⟩
    rw [if_pos cc]
    rw [ilt] at cc
    have p := own_p1 (a := v2) (by omega)
    have ra := hA.a v2 a cc
    have rr := hA.r v2 a cc
    have s1 := own_sm_1 LA a (by omega)
    obtain ⟨hm, hr⟩ := h2 v2 (by omega) cc
    have rg := X.rg hm
    have xa1 := X.a1
    have lM := X.lM
    have lS := X.lS
    have lT := X.lT
    have lF := Y.lF
    rw [rdg a (by omega), Option.bind_some]
    refine own_iL (fun c1 => ?_) (fun c1 => ?_)
    rotate_left
    · refine ih _ _ _ _ _ _ _ _ _ _ _ (by omega) (by omega) (by omega) X Y h1 (fun j j0 j1 => h2 j (by omega) j1) (by rw [s1]; omega) h4 ?_ h6
      refine own_i0 h5 (fun q => ?_) a (by omega)
      rw [ieq] at q
      omega
    rw [rdg a (by omega), Option.bind_some]
    have key : ∀ (FI FQ FP : List Int32) (FN : Int32), own_Y FL FI FQ FP FN → Tot (f_applyLevel_82 (f_applyLevel_2 LI LA LN n) LI LA LN RM FL ST TP RI FI FQ FP RN FN v1 v2 (gI LA v2) (gI LI v2)) (fun (RM, FL, ST, TP, RI, FI, FQ, FP, RN, FN) => own_X SD RM ST TP RI RN acc ∧ own_Y FL FI FQ FP FN ∧ (∀ x, own_mem RI RN x → own_mem RI0 RN0 x) ∧ (own_sm FL 256 - own_sm FL0 256 - own_sm LA LN.toInt.toNat) % 2 = 0 ∧ RN.toInt ≤ RN0.toInt ∧ (∀ j : Int32, 0 ≤ j.toInt → j.toInt < LN.toInt → gI LA j = gI LR j → ¬ own_mem RI RN (gI LI j) ∧ RN.toInt ≤ RN0.toInt - 1) ∧ (∀ x : Int32, 0 ≤ x.toInt → x.toInt < 256 → (x.toInt < 1 ∨ acc.toInt < x.toInt) → gI FL x = gI FL0 x)) := by
      intro FI FQ FP FN Y
      have dist : ∀ j : Int32, (v2 + 1).toInt ≤ j.toInt → j.toInt < LN.toInt → ¬ gI LI v2 = gI LI j := by
        intro j j0 j1 q
        have := g.d v2 j a cc (by omega) j1 q
        rw [ieq] at this
        omega
      have dist2 : ∀ j : Int32, 0 ≤ j.toInt → j.toInt < v2.toInt → ¬ gI LI v2 = gI LI j := by
        intro j j0 j1 q
        have := g.d v2 j a cc (by omega) (by omega) q
        rw [ieq] at this
        omega
      have rgj : ∀ j : Int32, 0 ≤ j.toInt → j.toInt < 64 → 0 ≤ (gI LI j).toInt := fun j j0 j1 => (own_Rg g.r j0 (by omega)).1
      generalize hid : gI LI v2 = id at *
      unfold f_applyLevel_82
      have sub : (gI LR v2 - gI LA v2).toInt = (gI LR v2).toInt - (gI LA v2).toInt := isub_i (by omega) (by omega)
      rw [rdg (by omega) (by omega), Option.bind_some, hr, wrA_in (by omega) (by omega), Option.bind_some, rdg (by omega) (by omega), Option.bind_some, wrA_in (by omega) (by omega), Option.bind_some]
      have lM1 : (RM.set id.toInt.toNat (gI LR v2 - gI LA v2)).length = 256 := by rw [List.length_set]; exact lM
      have gM : ∀ x : Int32, 0 ≤ x.toInt → gI (RM.set id.toInt.toNat (gI LR v2 - gI LA v2)) x = if id = x then gI LR v2 - gI LA v2 else gI RM x := fun x hx => gset (by omega) (by omega) hx
      have gF : ∀ x : Int32, 0 ≤ x.toInt → gI (FL.set id.toInt.toNat (gI FL id + gI LA v2)) x = if id = x then gI FL id + gI LA v2 else gI FL x := fun x hx => gset (by omega) (by omega) hx
      have Y' : own_Y (FL.set id.toInt.toNat (gI FL id + gI LA v2)) FI FQ FP FN := ⟨by rw [List.length_set]; exact lF, Y.lI, Y.lQ, Y.lP, Y.f0, Y.f1⟩
      have pa := own_par (L := FL) (k := id) (x := gI LA v2) lF (by omega) (by omega)
      have h3' : (own_sm (FL.set id.toInt.toNat (gI FL id + gI LA v2)) 256 - own_sm FL0 256 - own_sm LA (v2 + 1).toInt.toNat) % 2 = 0 := by rw [s1]; omega
      have h6' : ∀ x : Int32, 0 ≤ x.toInt → x.toInt < 256 → (x.toInt < 1 ∨ acc.toInt < x.toInt) → gI (FL.set id.toInt.toNat (gI FL id + gI LA v2)) x = gI FL0 x := by
        intro x x0 x1 hx
        rw [gF x x0, if_neg (fun z => by rw [ieq] at z; omega)]
        exact h6 x x0 x1 hx
      rw [rdg (by omega) (by omega), Option.bind_some, gM id (by omega), if_pos rfl]
      refine own_iL (fun c2 => ?_) (fun c2 => ?_)
      · refine ih _ _ _ _ _ _ _ _ _ _ _ (by omega) (by omega) (by omega) ⟨X.w, X.a1, lM1, lS, lT, X.s, ?_, X.t⟩ Y' h1 ?_ h3' h4 ?_ h6'
        · intro x hx
          have rx := X.rg hx
          rw [gM x (by omega)]
          by_cases e : id = x
          · rw [if_pos e]; omega
          · rw [if_neg e]; exact X.r x hx
        · intro j j0 j1
          obtain ⟨q1, q2⟩ := h2 j (by omega) j1
          refine ⟨q1, ?_⟩
          rw [gM _ (rgj j (by omega) (by omega)), if_neg (dist j j0 j1)]
          exact q2
        · refine own_i0 h5 (fun q => ?_) a (by omega)
          rw [ieq] at q
          omega
      · have eqA : gI LA v2 = gI LR v2 := by rw [ieq]; omega
        rw [wrA_in (by omega) (by omega), Option.bind_some, wrA_in (by omega) (by omega), Option.bind_some, wrA_in (by omega) (by omega), Option.bind_some]
        refine Tot.bind (own_rm X.w id) ?_
        rintro ⟨RI', RN'⟩ ⟨w', hn, hi, hd⟩
        have w'' : own_W RI' RN' acc := w'
        have hi' : ∀ x, own_mem RI' RN' x ↔ own_mem RI RN x ∧ x ≠ id := hi
        have hd' : RN'.toInt = RN.toInt - 1 := hd hm
        have gM2 : ∀ x : Int32, 0 ≤ x.toInt → ¬ id = x → gI ((RM.set id.toInt.toNat (gI LR v2 - gI LA v2)).set id.toInt.toNat 0) x = gI RM x := by
          intro x hx ne
          rw [gset (by omega) (by omega) hx, if_neg ne, gM x hx, if_neg ne]
        have gS : ∀ x : Int32, 0 ≤ x.toInt → gI (ST.set id.toInt.toNat 2) x = if id = x then 2 else gI ST x := fun x hx => gset (by omega) (by omega) hx
        have gT : ∀ x : Int32, 0 ≤ x.toInt → gI (TP.set id.toInt.toNat 0) x = if id = x then 0 else gI TP x := fun x hx => gset (by omega) (by omega) hx
        refine ih _ _ _ _ _ _ _ _ _ _ _ (by omega) (by omega) (by omega) ⟨w'', X.a1, by rw [List.length_set]; exact lM1, by rw [List.length_set]; exact lS, by rw [List.length_set]; exact lT, ?_, ?_, ?_⟩ Y' (fun x hx => h1 x ((hi' x).mp hx).1) ?_ h3' (by omega) ?_ h6'
        · intro x x0 x1
          rw [gS x (by omega), hi' x]
          by_cases e : id = x
          · rw [if_pos e]
            constructor
            · intro q; exact absurd q (by decide)
            · rintro ⟨_, q⟩; exact absurd e.symm q
          · rw [if_neg e, X.s x x0 x1]
            exact ⟨fun q => ⟨q, fun z => e z.symm⟩, fun q => q.1⟩
        · intro x hx
          obtain ⟨q1, q2⟩ := (hi' x).mp hx
          have rx := X.rg q1
          rw [gM2 x (by omega) (fun z => q2 z.symm)]
          exact X.r x q1
        · intro x y hx hy hs tx ty
          obtain ⟨q1, q2⟩ := (hi' x).mp hx
          obtain ⟨q3, q4⟩ := (hi' y).mp hy
          have rx := X.rg q1
          have ry := X.rg q3
          rw [gT x (by omega), if_neg (fun z => q2 z.symm)] at tx
          rw [gT y (by omega), if_neg (fun z => q4 z.symm)] at ty
          exact X.t x y q1 q3 hs tx ty
        · intro j j0 j1
          obtain ⟨q1, q2⟩ := h2 j (by omega) j1
          have dj := dist j j0 j1
          refine ⟨(hi' _).mpr ⟨q1, fun z => dj z.symm⟩, ?_⟩
          rw [gM2 _ (rgj j (by omega) (by omega)) dj]
          exact q2
        · refine own_i0 (fun j j0 j1 q => ?_) (fun _ => ?_) a (by omega)
          · obtain ⟨q1, q2⟩ := h5 j j0 j1 q
            exact ⟨fun z => q1 ((hi' _).mp z).1, by omega⟩
          · refine ⟨fun z => ?_, by omega⟩
            rw [hid] at z
            exact ((hi' _).mp z).2 rfl
    have lI := Y.lI
    have lQ := Y.lQ
    have lP := Y.lP
    have f0 := Y.f0
    have f1 := Y.f1
    refine own_iL (fun c3 => ?_) (fun _ => key _ _ _ _ Y)
    have pF := own_p1 (a := FN) (by omega)
    refine Tot.wr (by omega) (by omega) fun A1 _ l1 => ?_
    refine Tot.wr (by omega) (by omega) fun A2 _ l2 => ?_
    refine Tot.wr (by omega) (by omega) fun A3 _ l3 => ?_
    exact key _ _ _ _ ⟨lF, by omega, by omega, by omega, by omega, by omega⟩
theorem own_sm_eq {A B : List Int32} {m : Nat} (hm : m ≤ 64) (h : ∀ i : Int32, 0 ≤ i.toInt → i.toInt < m → (gI A i).toInt ≤ (gI B i).toInt) (e : own_sm A m = own_sm B m) : ∀ i : Int32, 0 ≤ i.toInt → i.toInt < m → gI A i = gI B i := by
  intro i i0 i1
  have p := own_p1 (a := i) (by omega)
  have s1 := own_sm_1 A i0 (by omega)
  have s2 := own_sm_1 B i0 (by omega)
  have q1 := own_sm_mono (A := A) (B := B) hm h i.toInt.toNat (by omega)
  have q2 := own_sm_rest (A := A) (B := B) hm h (i + 1).toInt.toNat (m - (i + 1).toInt.toNat) (by omega)
  rw [show (i + 1).toInt.toNat + (m - (i + 1).toInt.toNat) = m by omega] at q2
  have r := h i i0 i1
  rw [ieq]
  omega
theorem own_mlX {SD PR RM FL ST TP RI FI FQ FP LI LR LA : List Int32} {SP : List Int64} {RN FN acc q v1 v2 : Int32} (ma tc LN : Int32) (sd : SD.length = 256) (pr : PR.length = 256) (sp : SP.length = 256) (X : own_X SD RM ST TP RI RN acc) (Y : own_Y FL FI FQ FP FN) (V : own_V LI LR LA) (q0 : 1 ≤ q.toInt) (q1 : q.toInt ≤ 10000) (ne : ∃ x, own_mem RI RN x ∧ gI SD x = v1 ∧ gI PR x = v2) :
    Tot (f_matchLevel SD PR SP ma tc RM FL ST TP RI FI FQ FP LI LR LA RN FN LN v1 v2 q) (fun (e, RM', FL', ST', TP', RI', FI', FQ', FP', LI', LR', LA', RN', FN', LN') => own_X SD RM' ST' TP' RI' RN' acc ∧ own_Y FL' FI' FQ' FP' FN' ∧ own_V LI' LR' LA' ∧ (∀ x, own_mem RI' RN' x → own_mem RI RN x) ∧ RN'.toInt ≤ RN.toInt ∧ 1 ≤ e.toInt ∧ e.toInt ≤ q.toInt ∧ (own_sm FL' 256 - own_sm FL 256 - e.toInt) % 2 = 0 ∧ (∀ x : Int32, 0 ≤ x.toInt → x.toInt < 256 → (x.toInt < 1 ∨ acc.toInt < x.toInt) → gI FL' x = gI FL x) ∧ (e.toInt < q.toInt → RN'.toInt ≤ RN.toInt - 1)) := by
  have e0 : (0 : Int32).toInt = 0 := rfl
  have lM := X.lM
  unfold f_matchLevel
  refine Tot.bind (own_gatX LN X.w sd pr v1 v2 V.r V.lI) ?_
  rintro ⟨LI1, LN1⟩ ⟨g1, hg1⟩
  have hg1' : ∀ x, own_mem LI1 LN1 x ↔ own_mem RI RN x ∧ gI SD x = v1 ∧ gI PR x = v2 := hg1
  have g1' : own_G LI1 LN1 := g1
  refine Tot.bind (own_srtX (LN := LN1) sp g1') ?_
  rintro LI2 ⟨g2, hg2⟩
  have hmem : ∀ x, own_mem LI2 LN1 x ↔ own_mem RI RN x ∧ gI SD x = v1 ∧ gI PR x = v2 := fun x => (hg2 x).trans (hg1' x)
  have n1 := g2.n1
  have n0 := g2.n0
  have gl := g2.l
  have hid : ∀ j : Int32, 0 ≤ j.toInt → j.toInt < LN1.toInt → own_mem RI RN (gI LI2 j) := fun j j0 j1 => ((hmem _).mp ⟨j, j0, j1, rfl⟩).1
  have npos : 1 ≤ LN1.toInt := by
    obtain ⟨x, hx⟩ := ne
    obtain ⟨j, j0, j1, _⟩ := (hmem x).mpr hx
    omega
  have key : ∀ (n : Nat) (LR LA : List Int32) (v4 : Int32), 0 ≤ v4.toInt → v4.toInt ≤ LN1.toInt → LN1.toInt - v4.toInt < n → LR.length = 64 → LA.length = 64 → (∀ j : Int32, 0 ≤ j.toInt → j.toInt < v4.toInt → gI LR j = gI RM (gI LI2 j) ∧ gI LA j = 0) →
    Tot (f_matchLevel_13 (f_matchLevel_59 SD PR SP ma tc) SD PR SP ma tc n RM FL ST TP RI FI FQ FP LI2 LR LA RN FN LN1 v2 q v4) (fun (e, RM', FL', ST', TP', RI', FI', FQ', FP', LI', LR', LA', RN', FN', LN') => own_X SD RM' ST' TP' RI' RN' acc ∧ own_Y FL' FI' FQ' FP' FN' ∧ own_V LI' LR' LA' ∧ (∀ x, own_mem RI' RN' x → own_mem RI RN x) ∧ RN'.toInt ≤ RN.toInt ∧ 1 ≤ e.toInt ∧ e.toInt ≤ q.toInt ∧ (own_sm FL' 256 - own_sm FL 256 - e.toInt) % 2 = 0 ∧ (∀ x : Int32, 0 ≤ x.toInt → x.toInt < 256 → (x.toInt < 1 ∨ acc.toInt < x.toInt) → gI FL' x = gI FL x) ∧ (e.toInt < q.toInt → RN'.toInt ≤ RN.toInt - 1)) := by
    intro n
    induction n with
    | zero => intro LR LA v4 a b c; omega
    | succ n ih =>
      intro LR LA v4 a b c lR lA hv
      unfold f_matchLevel_13
      refine own_iL (fun c1 => ?_) (fun c1 => ?_)
      · have p := own_p1 (a := v4) (by omega)
        have rg := own_Rg g2.r a (by omega)
        rw [rdg a (by omega), Option.bind_some, rdg rg.1 (by omega), Option.bind_some, wrA_in a (by omega), Option.bind_some, wrA_in a (by omega), Option.bind_some]
        refine ih _ _ _ (by omega) (by omega) (by omega) (by rw [List.length_set]; exact lR) (by rw [List.length_set]; exact lA) ?_
        refine own_i0 (fun j j0 j1 => ?_) ?_ a (by omega)
        · rw [gset a (by omega) j0, gset a (by omega) j0, if_neg (fun z => by rw [ieq] at z; omega), if_neg (fun z => by rw [ieq] at z; omega)]
          exact hv j j0 j1
        · rw [gset a (by omega) a, gset a (by omega) a, if_pos rfl, if_pos rfl]
          exact ⟨rfl, rfl⟩
      · have ev : v4.toInt = LN1.toInt := by omega
        rw [ev] at hv
        have hA : own_A LR LA LN1 := by
          refine ⟨lR, lA, n0, n1, ?_, ?_⟩
          · intro i i0 i1
            rw [(hv i i0 i1).1]
            exact X.r _ (hid i i0 i1)
          · intro i i0 i1
            have r := X.r _ (hid i i0 i1)
            rw [(hv i i0 i1).2, (hv i i0 i1).1, e0]
            omega
        unfold f_matchLevel_59
        refine Tot.bind (own_alX (ma := ma) (tc := tc) X.lT g2 hA (fun i i0 i1 => (hv i i0 i1).2) q0 q1) ?_
        rintro ⟨e, LA1⟩ ⟨hA1, hs, he⟩
        have hA1' : own_A LR LA1 LN1 := hA1
        have hs' : own_sm LA1 LN1.toInt.toNat = e.toInt := hs
        have he' : e.toInt = (if q.toInt < own_sm LR LN1.toInt.toNat then q.toInt else own_sm LR LN1.toInt.toNat) := he
        have sR := own_sm_le (L := LR) (m := LN1.toInt.toNat) (lo := 1) (hi := 10000) (by omega) (fun i i0 i1 => hA.r i i0 (by omega)) LN1.toInt.toNat (by omega)
        have eb : 1 ≤ e.toInt ∧ e.toInt ≤ q.toInt := by rw [he']; split <;> omega
        unfold f_applyLevel
        refine Tot.bind (own_apX (SD := SD) (RI0 := RI) (FL0 := FL) (RN0 := RN) g2 hA1' v2 100000 RM FL ST TP RI FI FQ FP RN FN 0 (by omega) (by omega) (by omega) X Y (fun x hx => hx) (fun j j0 j1 => ⟨hid j (by omega) j1, ((hv j (by omega) j1).1).symm⟩) (by rw [e0]; simp [own_sm]) (by omega) (fun j j0 j1 => by omega) (fun x _ _ _ => rfl)) ?_
        rintro ⟨RM', FL', ST', TP', RI', FI', FQ', FP', RN', FN'⟩ ⟨X', Y', b1, b2, b3, b4, b5⟩
        have b2' : (own_sm FL' 256 - own_sm FL 256 - own_sm LA1 LN1.toInt.toNat) % 2 = 0 := b2
        rw [hs'] at b2'
        refine Tot.mk ⟨X', Y', ⟨g2.r, gl, lR, hA1'.lA⟩, b1, b3, eb.1, eb.2, b2', b5, ?_⟩
        intro lt
        have et : own_sm LA1 LN1.toInt.toNat = own_sm LR LN1.toInt.toNat := by
          rw [hs', he']
          rw [he'] at lt
          split at lt
          · omega
          · rw [if_neg (by omega)]
        have eq := own_sm_eq (A := LA1) (B := LR) (m := LN1.toInt.toNat) (by omega) (fun i i0 i1 => (hA1'.a i i0 (by omega)).2) et 0 (by omega) (by omega)
        exact (b4 0 (by omega) (by omega) eq).2
  exact key 100000 LR LA 0 (by omega) (by omega) (by omega) V.lR V.lA (fun j j0 j1 => by omega)
def own_nc (side price p : Int32) : Prop := if side = 0 then price.toInt < p.toInt else p.toInt < price.toInt
theorem own_miX {SD PR : List Int32} {SP : List Int64} {ma tc acc side price id : Int32} (sd : SD.length = 256) (pr : PR.length = 256) (sp : SP.length = 256) (hside : side = 0 ∨ side = 1) (hid : id.toInt = acc.toInt + 1) (hid1 : id.toInt ≤ 255) (ha : 0 ≤ acc.toInt) : ∀ (n : Nat) (RM FL ST TP RI FI FQ FP LI LR LA : List Int32) (RN FN LN q v7 : Int32), 0 ≤ v7.toInt → v7.toInt ≤ 65 → 66 - v7.toInt ≤ n → own_X SD RM ST TP RI RN acc → own_Y FL FI FQ FP FN → own_V LI LR LA → (∀ x, own_mem RI RN x → 1 ≤ (gI PR x).toInt) → 0 ≤ q.toInt → q.toInt ≤ 10000 → own_sm FL 256 % 2 = 0 → (0 < q.toInt → RN.toInt + v7.toInt ≤ 64) →
    Tot (f_matchIncoming_12 SD PR SP ma tc n RM FL ST TP RI FI FQ FP LI LR LA RN FN LN id side price q (1 - side) v7) (fun (q', RM', FL', ST', TP', RI', FI', FQ', FP', LI', LR', LA', RN', FN', LN') => own_X SD RM' ST' TP' RI' RN' acc ∧ own_Y FL' FI' FQ' FP' FN' ∧ own_V LI' LR' LA' ∧ (∀ x, own_mem RI' RN' x → own_mem RI RN x) ∧ 0 ≤ q'.toInt ∧ q'.toInt ≤ q.toInt ∧ own_sm FL' 256 % 2 = 0 ∧ (∀ x : Int32, 0 ≤ x.toInt → x.toInt < 256 → (x.toInt < 1 ∨ id.toInt < x.toInt) → gI FL' x = gI FL x) ∧ (0 < q'.toInt → ∀ x, own_mem RI' RN' x → gI SD x = 1 - side → own_nc side price (gI PR x))) := by
  intro n
  have e0 : (0 : Int32).toInt = 0 := rfl
  have e64 : (64 : Int32).toInt = 64 := rfl
  induction n with
  | zero => intro RM FL ST TP RI FI FQ FP LI LR LA RN FN LN q v7 a b c; omega
  | succ n ih =>
    intro RM FL ST TP RI FI FQ FP LI LR LA RN FN LN q v7 a b c X Y V hp q0 q1 hpar hrn
    have p7 := own_p1 (a := v7) (by omega)
    have n0 := X.w.n0
    unfold f_matchIncoming_12 f_crosses
    refine own_iL (fun c1 => ?_) (fun c1 => ?_)
    · refine Tot.mk ⟨X, Y, V, fun x hx => hx, q0, Int.le_refl _, hpar, fun x _ _ _ => rfl, fun hq => ?_⟩
      have hq' : 0 < q.toInt := hq
      have := hrn hq'
      omega
    refine own_iL (fun c5 => ?_) (fun c5 => ?_)
    rotate_left
    · refine Tot.mk ⟨X, Y, V, fun x hx => hx, q0, Int.le_refl _, hpar, fun x _ _ _ => rfl, fun hq => ?_⟩
      have hq' : 0 < q.toInt := hq
      omega
    refine Tot.bind (own_bestX X.w sd pr hp (1 - side)) ?_
    intro r hb
    refine own_iE (fun z => ?_) (fun z => ?_)
    · rcases hb with ⟨_, hb⟩ | ⟨x, _, _, _, hr, _⟩
      · refine Tot.mk ⟨X, Y, V, fun x hx => hx, q0, Int.le_refl _, hpar, fun x _ _ _ => rfl, fun _ x hx hs => ?_⟩
        exact absurd hs (hb x hx)
      · rw [z] at hr; exact absurd hr (by decide)
    rcases hb with ⟨hz, _⟩ | ⟨x, hx1, hx2, hx3, hx4, hx5⟩
    · exact absurd hz z
    refine own_bs ?_
    refine own_iE (fun cz => ?_) (fun cz => ?_)
    · refine Tot.mk ⟨X, Y, V, fun x hx => hx, q0, Int.le_refl _, hpar, fun x _ _ _ => rfl, fun _ y hy hs => ?_⟩
      have nb := hx5 y hy hs
      unfold own_bt at nb
      unfold own_nc
      rcases hside with h | h
      · subst h
        rw [if_pos rfl] at cz ⊢
        rw [if_neg (by decide)] at nb
        by_cases g : price < r
        · rw [ilt] at g; omega
        · rw [if_neg g] at cz; exact absurd cz (by decide)
      · subst h
        rw [if_neg (by decide)] at cz ⊢
        rw [if_pos (by decide)] at nb
        by_cases g : r < price
        · rw [ilt] at g; omega
        · rw [if_neg g] at cz; exact absurd cz (by decide)
    refine Tot.bind (own_mlX ma tc LN sd pr sp X Y V (by omega) q1 ⟨x, hx1, hx2, hx3⟩) ?_
    rintro ⟨e, RM', FL', ST', TP', RI', FI', FQ', FP', LI', LR', LA', RN', FN', LN'⟩ ⟨X', Y', V', b1, b2, b3, b4, b5, b6, b7⟩
    have b2' : RN'.toInt ≤ RN.toInt := b2
    have b3' : 1 ≤ e.toInt := b3
    have b4' : e.toInt ≤ q.toInt := b4
    have b5' : (own_sm FL' 256 - own_sm FL 256 - e.toInt) % 2 = 0 := b5
    have b6' : ∀ x : Int32, 0 ≤ x.toInt → x.toInt < 256 → (x.toInt < 1 ∨ acc.toInt < x.toInt) → gI FL' x = gI FL x := b6
    have b7' : e.toInt < q.toInt → RN'.toInt ≤ RN.toInt - 1 := b7
    have lF' : FL'.length = 256 := Y'.lF
    refine own_iL (fun _ => ?_) (fun z => absurd z (by omega))
    have sv : (q - e).toInt = q.toInt - e.toInt := isub_i (by omega) (by omega)
    have pa := own_par (L := FL') (k := id) (x := e) lF' (by omega) (by omega)
    have gF : ∀ x : Int32, 0 ≤ x.toInt → gI (FL'.set id.toInt.toNat (gI FL' id + e)) x = if id = x then gI FL' id + e else gI FL' x := fun x hx => gset (by omega) (by omega) hx
    rw [rdg (by omega) (by omega), Option.bind_some, wrA_in (by omega) (by omega), Option.bind_some]
    have hrq := hrn (by omega)
    refine Tot.mono (ih RM' _ ST' TP' RI' FI' FQ' FP' LI' LR' LA' RN' FN' LN' (q - e) (v7 + 1) (by omega) (by omega) (by omega) X' ⟨by rw [List.length_set]; exact lF', Y'.lI, Y'.lQ, Y'.lP, Y'.f0, Y'.f1⟩ V' (fun x hx => hp x (b1 x hx)) (by omega) (by omega) (by omega) (fun hq => by have := b7' (by omega); omega)) ?_
    rintro ⟨q', RM2, FL2, ST2, TP2, RI2, FI2, FQ2, FP2, LI2, LR2, LA2, RN2, FN2, LN2⟩ ⟨X2, Y2, V2, d1, d2, d3, d4, d5, d6⟩
    have d3' : q'.toInt ≤ (q - e).toInt := d3
    have d5' : ∀ x : Int32, 0 ≤ x.toInt → x.toInt < 256 → (x.toInt < 1 ∨ id.toInt < x.toInt) → gI FL2 x = gI (FL'.set id.toInt.toNat (gI FL' id + e)) x := d5
    refine ⟨X2, Y2, V2, fun x hx => b1 x (d1 x hx), d2, ?_, d4, ?_, d6⟩
    · show q'.toInt ≤ q.toInt
      omega
    · intro x x0 x1 hx
      show gI FL2 x = gI FL x
      rw [d5' x x0 x1 hx, gF x x0, if_neg (fun z => by rw [ieq] at z; omega)]
      exact b6' x x0 x1 (by omega)
abbrev own_Z (SD PR RM FL ST : List Int32) (SP : List Int64) (TP RI FI FQ FP LI LR LA : List Int32) (acc RN FN : Int32) : Prop := (SD.length = 256) ∧ (PR.length = 256) ∧ (SP.length = 256) ∧ (0 ≤ acc.toInt) ∧ (own_X SD RM ST TP RI RN acc) ∧ (own_Y FL FI FQ FP FN) ∧ (own_V LI LR LA) ∧ (∀ x : Int32, 1 ≤ x.toInt → x.toInt ≤ acc.toInt → 1 ≤ (gI PR x).toInt ∧ (gI PR x).toInt ≤ 1000 ∧ (gI SD x = 0 ∨ gI SD x = 1)) ∧ (∀ x y : Int32, own_mem RI RN x → own_mem RI RN y → gI SD x = 0 → gI SD y = 1 → (gI PR x).toInt < (gI PR y).toInt) ∧ (own_sm FL 256 % 2 = 0) ∧ (∀ x : Int32, 0 ≤ x.toInt → x.toInt < 256 → (x.toInt < 1 ∨ acc.toInt < x.toInt) → gI FL x = 0)
theorem own_Z.sd {SD PR RM FL ST : List Int32} {SP : List Int64} {TP RI FI FQ FP LI LR LA : List Int32} {acc RN FN : Int32} (self : own_Z SD PR RM FL ST SP TP RI FI FQ FP LI LR LA acc RN FN) : SD.length = 256 := self.1
theorem own_Z.pr {SD PR RM FL ST : List Int32} {SP : List Int64} {TP RI FI FQ FP LI LR LA : List Int32} {acc RN FN : Int32} (self : own_Z SD PR RM FL ST SP TP RI FI FQ FP LI LR LA acc RN FN) : PR.length = 256 := self.2.1
theorem own_Z.sp {SD PR RM FL ST : List Int32} {SP : List Int64} {TP RI FI FQ FP LI LR LA : List Int32} {acc RN FN : Int32} (self : own_Z SD PR RM FL ST SP TP RI FI FQ FP LI LR LA acc RN FN) : SP.length = 256 := self.2.2.1
theorem own_Z.a0 {SD PR RM FL ST : List Int32} {SP : List Int64} {TP RI FI FQ FP LI LR LA : List Int32} {acc RN FN : Int32} (self : own_Z SD PR RM FL ST SP TP RI FI FQ FP LI LR LA acc RN FN) : 0 ≤ acc.toInt := self.2.2.2.1
theorem own_Z.X {SD PR RM FL ST : List Int32} {SP : List Int64} {TP RI FI FQ FP LI LR LA : List Int32} {acc RN FN : Int32} (self : own_Z SD PR RM FL ST SP TP RI FI FQ FP LI LR LA acc RN FN) : own_X SD RM ST TP RI RN acc := self.2.2.2.2.1
theorem own_Z.Y {SD PR RM FL ST : List Int32} {SP : List Int64} {TP RI FI FQ FP LI LR LA : List Int32} {acc RN FN : Int32} (self : own_Z SD PR RM FL ST SP TP RI FI FQ FP LI LR LA acc RN FN) : own_Y FL FI FQ FP FN := self.2.2.2.2.2.1
theorem own_Z.V {SD PR RM FL ST : List Int32} {SP : List Int64} {TP RI FI FQ FP LI LR LA : List Int32} {acc RN FN : Int32} (self : own_Z SD PR RM FL ST SP TP RI FI FQ FP LI LR LA acc RN FN) : own_V LI LR LA := self.2.2.2.2.2.2.1
theorem own_Z.p1 {SD PR RM FL ST : List Int32} {SP : List Int64} {TP RI FI FQ FP LI LR LA : List Int32} {acc RN FN : Int32} (self : own_Z SD PR RM FL ST SP TP RI FI FQ FP LI LR LA acc RN FN) : ∀ x : Int32, 1 ≤ x.toInt → x.toInt ≤ acc.toInt → 1 ≤ (gI PR x).toInt ∧ (gI PR x).toInt ≤ 1000 ∧ (gI SD x = 0 ∨ gI SD x = 1) := self.2.2.2.2.2.2.2.1
theorem own_Z.nc {SD PR RM FL ST : List Int32} {SP : List Int64} {TP RI FI FQ FP LI LR LA : List Int32} {acc RN FN : Int32} (self : own_Z SD PR RM FL ST SP TP RI FI FQ FP LI LR LA acc RN FN) : ∀ x y : Int32, own_mem RI RN x → own_mem RI RN y → gI SD x = 0 → gI SD y = 1 → (gI PR x).toInt < (gI PR y).toInt := self.2.2.2.2.2.2.2.2.1
theorem own_Z.par {SD PR RM FL ST : List Int32} {SP : List Int64} {TP RI FI FQ FP LI LR LA : List Int32} {acc RN FN : Int32} (self : own_Z SD PR RM FL ST SP TP RI FI FQ FP LI LR LA acc RN FN) : own_sm FL 256 % 2 = 0 := self.2.2.2.2.2.2.2.2.2.1
theorem own_Z.fz {SD PR RM FL ST : List Int32} {SP : List Int64} {TP RI FI FQ FP LI LR LA : List Int32} {acc RN FN : Int32} (self : own_Z SD PR RM FL ST SP TP RI FI FQ FP LI LR LA acc RN FN) : ∀ x : Int32, 0 ≤ x.toInt → x.toInt < 256 → (x.toInt < 1 ∨ acc.toInt < x.toInt) → gI FL x = 0 := self.2.2.2.2.2.2.2.2.2.2
theorem own_cfX {SD RI TP0 : List Int32} {RN acc : Int32} (w : own_W RI RN acc) (lS : SD.length = 256) (lT : TP0.length = 256) (v1 : Int32) : Tot (f_clearFlags SD RI RN TP0 v1) (fun T => T.length = 256 ∧ (∀ x, own_mem RI RN x → gI SD x = v1 → gI T x = 0) ∧ (∀ x : Int32, 0 ≤ x.toInt → gI T x = 0 ∨ gI T x = gI TP0 x)) := by
  have e0 : (0 : Int32).toInt = 0 := rfl
  have l := w.l
  have n0 := w.n0
  have n1 := w.n1
  have key : ∀ (n : Nat) (T : List Int32) (v2 : Int32), 0 ≤ v2.toInt → v2.toInt ≤ RN.toInt → RN.toInt - v2.toInt < n → T.length = 256 → (∀ j : Int32, 0 ≤ j.toInt → j.toInt < v2.toInt → gI SD (gI RI j) = v1 → gI T (gI RI j) = 0) → (∀ x : Int32, 0 ≤ x.toInt → gI T x = 0 ∨ gI T x = gI TP0 x) →
      Tot (f_clearFlags_2 SD RI RN n T v1 v2) (fun T => T.length = 256 ∧ (∀ x, own_mem RI RN x → gI SD x = v1 → gI T x = 0) ∧ (∀ x : Int32, 0 ≤ x.toInt → gI T x = 0 ∨ gI T x = gI TP0 x)) := by
    intro n
    induction n with
    | zero => intro T v2 a b c; omega
    | succ n ih =>
      intro T v2 a b c lT h1 h2
      unfold f_clearFlags_2
      refine own_iL (fun c1 => ?_) (fun c1 => ?_)
      · have p := own_p1 (a := v2) (by omega)
        have rg := own_Rg w.r a (by omega)
        rw [rdg a (by omega), Option.bind_some, rdg rg.1 (by omega), Option.bind_some]
        refine own_iE (fun g => ?_) (fun g => ?_)
        · rw [wrA_in rg.1 (by omega), Option.bind_some]
          have gT : ∀ x : Int32, 0 ≤ x.toInt → gI (T.set (gI RI v2).toInt.toNat 0) x = if gI RI v2 = x then 0 else gI T x := fun x hx => gset rg.1 (by omega) hx
          refine ih _ _ (by omega) (by omega) (by omega) (by rw [List.length_set]; exact lT) ?_ ?_
          · refine own_i0 (fun j j0 j1 hs => ?_) (fun _ => ?_) a (by omega)
            · have rj := own_Rg w.r j0 (by omega)
              rw [gT _ rj.1]
              by_cases e : gI RI v2 = gI RI j
              · rw [if_pos e]
              · rw [if_neg e]; exact h1 j j0 j1 hs
            · rw [gT _ rg.1, if_pos rfl]
          · intro x hx
            rw [gT x hx]
            by_cases e : gI RI v2 = x
            · rw [if_pos e]; exact Or.inl rfl
            · rw [if_neg e]; exact h2 x hx
        · exact ih _ _ (by omega) (by omega) (by omega) lT (own_i0 h1 (fun q => absurd q g) a (by omega)) h2
      · have e : v2.toInt = RN.toInt := by omega
        rw [e] at h1
        refine Tot.mk ⟨lT, ?_, h2⟩
        rintro x ⟨j, j0, j1, ej⟩ hs
        rw [← ej] at hs ⊢
        exact h1 j j0 j1 hs
  unfold f_clearFlags
  exact key 100000 TP0 0 (by omega) (by omega) (by omega) lT (fun j j0 j1 => by omega) (fun x _ => Or.inr rfl)
theorem own_fiX {SD PR RM ST TP RI : List Int32} {SP : List Int64} {acc RN : Int32} (stamp : Int64) {id side price q kind : Int32} (sd : SD.length = 256) (pr : PR.length = 256) (sp : SP.length = 256) (X : own_X SD RM ST TP RI RN acc) (hp : ∀ x, own_mem RI RN x → 1 ≤ (gI PR x).toInt) (hid : id.toInt = acc.toInt + 1) (hid1 : id.toInt ≤ 255) (ha : 0 ≤ acc.toInt) (hs : gI SD id = side) (hpr : gI PR id = price) (hside : side = 0 ∨ side = 1) (q0 : 0 ≤ q.toInt) (q1 : q.toInt ≤ 10000)
    (nc : ∀ x y : Int32, own_mem RI RN x → own_mem RI RN y → gI SD x = 0 → gI SD y = 1 → (gI PR x).toInt < (gI PR y).toInt) (hnc : 0 < q.toInt → ∀ x, own_mem RI RN x → gI SD x = 1 - side → own_nc side price (gI PR x)) :
    Tot (f_finishIncoming SD PR RM ST SP TP RI stamp RN id side price q kind) (fun (RM, ST, SP, TP, RI, stamp, RN) => own_X SD RM ST TP RI RN id ∧ SP.length = 256 ∧ (∀ x y : Int32, own_mem RI RN x → own_mem RI RN y → gI SD x = 0 → gI SD y = 1 → (gI PR x).toInt < (gI PR y).toInt)) := by
  have e0 : (0 : Int32).toInt = 0 := rfl
  have e64 : (64 : Int32).toInt = 64 := rfl
  have lM := X.lM
  have lS := X.lS
  have lT := X.lT
  have nid : ¬ own_mem RI RN id := fun h => by have := X.rg h; omega
  have out : ∀ (sv : Int32), ¬ sv = 1 → own_X SD (RM.set id.toInt.toNat 0) (ST.set id.toInt.toNat sv) TP RI RN id := by
    intro sv hsv
    refine ⟨X.w.up (by omega), hid1, by rw [List.length_set]; exact lM, by rw [List.length_set]; exact lS, lT, ?_, ?_, X.t⟩
    · intro x x0 x1
      rw [gset (by omega) (by omega) (by omega)]
      by_cases e : id = x
      · rw [if_pos e]
        exact ⟨fun z => absurd z hsv, fun z => absurd (e ▸ z) nid⟩
      · rw [if_neg e]
        exact X.s x x0 (by rw [ieq] at e; omega)
    · intro x hx
      have rx := X.rg hx
      rw [gset (by omega) (by omega) (by omega), if_neg (fun z => by rw [ieq] at z; omega)]
      exact X.r x hx
  have k35 : Tot (f_finishIncoming_35 SD PR RM ST SP TP RI stamp RN id) (fun (RM, ST, SP, TP, RI, stamp, RN) => own_X SD RM ST TP RI RN id ∧ SP.length = 256 ∧ (∀ x y : Int32, own_mem RI RN x → own_mem RI RN y → gI SD x = 0 → gI SD y = 1 → (gI PR x).toInt < (gI PR y).toInt)) := by
    unfold f_finishIncoming_35
    rw [wrA_in (by omega) (by omega), Option.bind_some, wrA_in (by omega) (by omega), Option.bind_some]
    exact Tot.mk ⟨out 4 (by decide), sp, nc⟩
  unfold f_finishIncoming f_better
  refine own_iE (fun _ => ?_) (fun cq => ?_)
  · rw [wrA_in (by omega) (by omega), Option.bind_some, wrA_in (by omega) (by omega), Option.bind_some]
    exact Tot.mk ⟨out 2 (by decide), sp, nc⟩
  have qp : 0 < q.toInt := by rw [ieq] at cq; omega
  refine own_iE (fun _ => k35) (fun _ => ?_)
  refine own_iL (fun cr => ?_) (fun _ => k35)
  have n0 := X.w.n0
  have lR := X.w.l
  -- the order rests
  have k90 : ∀ (T : List Int32) (t0 : Int32), T.length = 256 → (t0 = 0 ∨ t0 = 1) → (∀ x, own_mem RI RN x → gI T x = 0 ∨ gI T x = gI TP x) → (t0 = 1 → ∀ x, own_mem RI RN x → gI SD x = side → gI T x = 0) →
      Tot (f_finishIncoming_90 SD PR RM ST SP T RI stamp RN id q t0) (fun (RM, ST, SP, TP, RI, stamp, RN) => own_X SD RM ST TP RI RN id ∧ SP.length = 256 ∧ (∀ x y : Int32, own_mem RI RN x → own_mem RI RN y → gI SD x = 0 → gI SD y = 1 → (gI PR x).toInt < (gI PR y).toInt)) := by
    intro T t0 lT' ht hT1 hT2
    unfold f_finishIncoming_90
    rw [wrA_in (by omega) (by omega), Option.bind_some, wrA_in (by omega) (by omega), Option.bind_some, wrA_in (by omega) (by omega), Option.bind_some, wrA_in (by omega) (by omega), Option.bind_some, wrA_in (by omega) (by omega), Option.bind_some]
    have w' := X.w.add ha hid hid1 (by omega)
    have pR := own_p1 (a := RN) (by omega)
    have gR : ∀ j : Int32, 0 ≤ j.toInt → gI (RI.set RN.toInt.toNat id) j = if RN = j then id else gI RI j := fun j hj => gset n0 (by omega) hj
    have mm : ∀ x, own_mem (RI.set RN.toInt.toNat id) (RN + 1) x ↔ own_mem RI RN x ∨ x = id := by
      intro x
      constructor
      · rintro ⟨j, j0, j1, ej⟩
        rw [gR j j0] at ej
        by_cases e : RN = j
        · rw [if_pos e] at ej; exact Or.inr ej.symm
        · rw [if_neg e] at ej
          rw [ieq] at e
          exact Or.inl ⟨j, j0, by omega, ej⟩
      · rintro (⟨j, j0, j1, ej⟩ | h)
        · refine ⟨j, j0, by omega, ?_⟩
          rw [gR j j0, if_neg (fun z => by rw [ieq] at z; omega)]; exact ej
        · refine ⟨RN, n0, by omega, ?_⟩
          rw [gR RN n0, if_pos rfl, h]
    have t1 : t0 &&& 1 = t0 := by rcases ht with h | h <;> rw [h] <;> decide
    have gT : ∀ x : Int32, 0 ≤ x.toInt → gI (T.set id.toInt.toNat (t0 &&& 1)) x = if id = x then t0 else gI T x := fun x hx => by rw [t1]; exact gset (by omega) (by omega) hx
    have gS : ∀ x : Int32, 0 ≤ x.toInt → gI (ST.set id.toInt.toNat 1) x = if id = x then 1 else gI ST x := fun x hx => gset (by omega) (by omega) hx
    have gM : ∀ x : Int32, 0 ≤ x.toInt → gI (RM.set id.toInt.toNat q) x = if id = x then q else gI RM x := fun x hx => gset (by omega) (by omega) hx
    have old : ∀ x, own_mem RI RN x → ¬ id = x ∧ 1 ≤ x.toInt := fun x hx => ⟨fun z => nid (z ▸ hx), (X.rg hx).1⟩
    have told : ∀ x, own_mem RI RN x → ¬ gI T x = 0 → gI TP x = gI T x := fun x hx hz => ((hT1 x hx).resolve_left hz).symm
    refine Tot.mk ⟨⟨w', hid1, by rw [List.length_set]; exact lM, by rw [List.length_set]; exact lS, by rw [List.length_set]; exact lT', ?_, ?_, ?_⟩, by rw [List.length_set]; exact sp, ?_⟩
    · intro x x0 x1
      rw [gS x (by omega), mm x]
      by_cases e : id = x
      · rw [if_pos e]; exact ⟨fun _ => Or.inr e.symm, fun _ => rfl⟩
      · rw [if_neg e, X.s x x0 (by rw [ieq] at e; omega)]
        exact ⟨Or.inl, fun z => z.resolve_right (fun z => e z.symm)⟩
    · intro x hx
      rcases (mm x).mp hx with h | h
      · obtain ⟨o1, o2⟩ := old x h
        rw [gM x (by omega), if_neg o1]; exact X.r x h
      · rw [h, gM id (by omega), if_pos rfl]; omega
    · intro x y hx hy hsd tx ty
      rcases (mm x).mp hx with h | h <;> rcases (mm y).mp hy with h' | h'
      · obtain ⟨o1, o2⟩ := old x h
        obtain ⟨o3, o4⟩ := old y h'
        rw [gT x (by omega), if_neg o1] at tx
        rw [gT y (by omega), if_neg o3] at ty
        exact X.t x y h h' hsd (by rw [told x h tx]; exact tx) (by rw [told y h' ty]; exact ty)
      · exfalso
        obtain ⟨o1, o2⟩ := old x h
        rw [h', gT id (by omega), if_pos rfl] at ty
        rw [gT x (by omega), if_neg o1] at tx
        rw [h', hs] at hsd
        exact tx (hT2 (ht.resolve_left ty) x h hsd)
      · exfalso
        obtain ⟨o1, o2⟩ := old y h'
        rw [h, gT id (by omega), if_pos rfl] at tx
        rw [gT y (by omega), if_neg o1] at ty
        rw [h, hs] at hsd
        exact ty (hT2 (ht.resolve_left tx) y h' hsd.symm)
      · rw [h, h']
    · intro x y hx hy sx sy
      rcases (mm x).mp hx with h | h <;> rcases (mm y).mp hy with h' | h'
      · exact nc x y h h' sx sy
      · rw [h', hs] at sy
        have := hnc qp x h (by rw [sx, sy]; decide)
        unfold own_nc at this
        rw [if_neg (by rw [sy]; decide)] at this
        rw [h', hpr]; exact this
      · rw [h, hs] at sx
        have := hnc qp y h' (by rw [sx, sy]; decide)
        unfold own_nc at this
        rw [if_pos sx] at this
        rw [h, hpr]; exact this
      · rw [h, hs] at sx
        rw [h', hs, sx] at sy
        exact absurd sy (by decide)
  have k78 : ∀ t0 : Int32, (t0 = 0 ∨ t0 = 1) → Tot (f_finishIncoming_78 SD PR RM ST SP TP RI stamp RN id side q t0) (fun (RM, ST, SP, TP, RI, stamp, RN) => own_X SD RM ST TP RI RN id ∧ SP.length = 256 ∧ (∀ x y : Int32, own_mem RI RN x → own_mem RI RN y → gI SD x = 0 → gI SD y = 1 → (gI PR x).toInt < (gI PR y).toInt)) := by
    intro t0 ht
    unfold f_finishIncoming_78
    refine own_iE (fun z => ?_) (fun z => ?_)
    · exact k90 TP t0 lT ht (fun _ _ => Or.inr rfl) (fun h => by rw [h] at z; exact absurd z (by decide))
    · refine Tot.bind (own_cfX X.w sd lT side) ?_
      rintro T ⟨h1, h2, h3⟩
      exact k90 T t0 h1 ht (fun x hx => h3 x (by have := X.rg hx; omega)) (fun _ => h2)
  refine Tot.bind (own_bestX X.w sd pr hp side) ?_
  intro r _
  refine own_iE (fun _ => k78 1 (Or.inr rfl)) (fun _ => ?_)
  refine own_bs ?_
  have two : ∀ c : Int32, (if c = (0 : Int32) then (0 : Int32) else (1 : Int32)) = 0 ∨ (if c = (0 : Int32) then (0 : Int32) else (1 : Int32)) = 1 := by
    intro c
    split
    · exact Or.inl rfl
    · exact Or.inr rfl
  exact k78 _ (two _)
theorem own_subX {SD PR RM FL ST : List Int32} {SP : List Int64} {TP RI FI FQ FP LI LR LA : List Int32} {acc RN FN : Int32} (b : own_Z SD PR RM FL ST SP TP RI FI FQ FP LI LR LA acc RN FN) (ma tc LN : Int32) (stamp : Int64) (v1 v2 v3 v4 : Int32) (h1 : v1 = 0 ∨ v1 = 1) (h2 : 1 ≤ v2.toInt) (h2' : v2.toInt ≤ 1000) (h3 : 1 ≤ v3.toInt) (h3' : v3.toInt ≤ 10000) (h4 : v4 = 0 ∨ v4 = 1) (ha : acc.toInt < 255) :
    Tot (f_submit ma tc SD PR RM FL ST SP TP RI FI FQ FP LI LR LA acc stamp RN FN LN v1 v2 v3 v4) (fun (r, SD, PR, RM, FL, ST, SP, TP, RI, FI, FQ, FP, LI, LR, LA, acc', stamp, RN, FN, LN) => own_Z SD PR RM FL ST SP TP RI FI FQ FP LI LR LA acc' RN FN) := by
  obtain ⟨sd, pr, sp, a0, X, Y, V, p1, nc, par, fz⟩ := b
  have p := own_p1 (a := acc) (by omega)
  have e0 : (0 : Int32).toInt = 0 := rfl
  have e1 : (1 : Int32).toInt = 1 := rfl
  have e255 : (255 : Int32).toInt = 255 := rfl
  have e1000 : (1000 : Int32).toInt = 1000 := rfl
  have e10000 : (10000 : Int32).toInt = 10000 := rfl
  have lM := X.lM
  have lS := X.lS
  have lT := X.lT
  have lF := Y.lF
  have key : Tot (f_submit_55 ma tc SD PR RM FL ST SP TP RI FI FQ FP LI LR LA acc stamp RN FN LN v1 v2 v3 v4) (fun (r, SD, PR, RM, FL, ST, SP, TP, RI, FI, FQ, FP, LI, LR, LA, acc', stamp, RN, FN, LN) => own_Z SD PR RM FL ST SP TP RI FI FQ FP LI LR LA acc' RN FN) := by
    generalize hid : acc + 1 = id at p
    unfold f_submit_55
    rw [hid]
    refine own_iL (fun c => ?_) (fun c => absurd c (by omega))
    rw [wrA_in (by omega) (by omega), Option.bind_some, wrA_in (by omega) (by omega), Option.bind_some, wrA_in (by omega) (by omega), Option.bind_some, wrA_in (by omega) (by omega), Option.bind_some, wrA_in (by omega) (by omega), Option.bind_some, wrA_in (by omega) (by omega), Option.bind_some]
    have gD : ∀ x : Int32, 0 ≤ x.toInt → gI (SD.set id.toInt.toNat v1) x = if id = x then v1 else gI SD x := fun x hx => gset (by omega) (by omega) hx
    have gP : ∀ x : Int32, 0 ≤ x.toInt → gI (PR.set id.toInt.toNat v2) x = if id = x then v2 else gI PR x := fun x hx => gset (by omega) (by omega) hx
    have gM : ∀ x : Int32, 0 ≤ x.toInt → gI (RM.set id.toInt.toNat 0) x = if id = x then 0 else gI RM x := fun x hx => gset (by omega) (by omega) hx
    have gT : ∀ x : Int32, 0 ≤ x.toInt → gI (TP.set id.toInt.toNat 0) x = if id = x then 0 else gI TP x := fun x hx => gset (by omega) (by omega) hx
    have gF : ∀ x : Int32, 0 ≤ x.toInt → gI (FL.set id.toInt.toNat 0) x = if id = x then 0 else gI FL x := fun x hx => gset (by omega) (by omega) hx
    have ne : ∀ x : Int32, x.toInt ≤ acc.toInt → ¬ id = x := fun x hx z => by rw [ieq] at z; omega
    have oD : ∀ x, own_mem RI RN x → gI (SD.set id.toInt.toNat v1) x = gI SD x := fun x hx => by have := X.rg hx; rw [gD x (by omega), if_neg (ne x this.2)]
    have oP : ∀ x, own_mem RI RN x → gI (PR.set id.toInt.toNat v2) x = gI PR x := fun x hx => by have := X.rg hx; rw [gP x (by omega), if_neg (ne x this.2)]
    have X1 : own_X (SD.set id.toInt.toNat v1) (RM.set id.toInt.toNat 0) ST (TP.set id.toInt.toNat 0) RI RN acc := by
      refine ⟨X.w, X.a1, by rw [List.length_set]; exact lM, lS, by rw [List.length_set]; exact lT, X.s, ?_, ?_⟩
      · intro x hx
        have := X.rg hx
        rw [gM x (by omega), if_neg (ne x this.2)]
        exact X.r x hx
      · intro x y hx hy hs tx ty
        have rx := X.rg hx
        have ry := X.rg hy
        rw [oD x hx, oD y hy] at hs
        rw [gT x (by omega), if_neg (ne x rx.2)] at tx
        rw [gT y (by omega), if_neg (ne y ry.2)] at ty
        exact X.t x y hx hy hs tx ty
    have par1 : own_sm (FL.set id.toInt.toNat 0) 256 % 2 = 0 := by
      rw [own_sm_s (by omega) (by omega) 256 (by omega) (by omega), if_pos (by omega), fz id (by omega) (by omega) (Or.inr (by omega))]
      omega
    have hp1 : ∀ x, own_mem RI RN x → 1 ≤ (gI (PR.set id.toInt.toNat v2) x).toInt := fun x hx => by rw [oP x hx]; have r := X.rg hx; exact (p1 x r.1 r.2).1
    have n1 := X.w.n1
    unfold f_matchIncoming
    refine Tot.bind (own_miX (ma := ma) (tc := tc) (price := v2) (id := id) (by rw [List.length_set]; exact sd) (by rw [List.length_set]; exact pr) (by rw [List.length_set]; exact sp) h1 p (by omega) a0 100000 _ _ _ _ _ _ _ _ _ _ _ RN 0 LN v3 0 (by omega) (by omega) (by omega) X1 ⟨by rw [List.length_set]; exact lF, Y.lI, Y.lQ, Y.lP, by omega, by omega⟩ V hp1 (by omega) h3' par1 (fun _ => by omega)) ?_
    rintro ⟨q, RM2, FL2, ST2, TP2, RI2, FI2, FQ2, FP2, LI2, LR2, LA2, RN2, FN2, LN2⟩ ⟨X2, Y2, V2, d1, d2, d3, d4, d5, d6⟩
    have d1' : ∀ x, own_mem RI2 RN2 x → own_mem RI RN x := d1
    have d3' : q.toInt ≤ v3.toInt := d3
    have d5' : ∀ x : Int32, 0 ≤ x.toInt → x.toInt < 256 → (x.toInt < 1 ∨ id.toInt < x.toInt) → gI FL2 x = gI (FL.set id.toInt.toNat 0) x := d5
    refine Tot.bind (own_fiX (kind := v4) stamp (by rw [List.length_set]; exact sd) (by rw [List.length_set]; exact pr) (by rw [List.length_set]; exact sp) X2 (fun x hx => hp1 x (d1' x hx)) p (by omega) a0 (by rw [gD id (by omega), if_pos rfl]) (by rw [gP id (by omega), if_pos rfl]) h1 d2 (by omega) ?_ d6) ?_
    · intro x y hx hy sx sy
      rw [oD x (d1' x hx)] at sx
      rw [oD y (d1' y hy)] at sy
      rw [oP x (d1' x hx), oP y (d1' y hy)]
      exact nc x y (d1' x hx) (d1' y hy) sx sy
    rintro ⟨RM3, ST3, SP3, TP3, RI3, stamp3, RN3⟩ ⟨X3, l3, nc3⟩
    refine Tot.mk ⟨by rw [List.length_set]; exact sd, by rw [List.length_set]; exact pr, l3, by omega, X3, Y2, V2, ?_, nc3, d4, ?_⟩
    · intro x x0 x1
      rw [gD x (by omega), gP x (by omega)]
      by_cases e : id = x
      · rw [if_pos e, if_pos e]; exact ⟨h2, h2', h1⟩
      · rw [if_neg e, if_neg e]
        exact p1 x x0 (by rw [ieq] at e; omega)
    · intro x x0 x1 hx
      show gI FL2 x = 0
      rw [d5' x x0 x1 hx, gF x x0]
      by_cases e : id = x
      · rw [if_pos e]
      · rw [if_neg e]; exact fz x x0 x1 (by omega)
  have key2 : Tot (f_submit_11 ma tc SD PR RM FL ST SP TP RI FI FQ FP LI LR LA acc stamp RN FN LN v1 v2 v3 v4) (fun (r, SD, PR, RM, FL, ST, SP, TP, RI, FI, FQ, FP, LI, LR, LA, acc', stamp, RN, FN, LN) => own_Z SD PR RM FL ST SP TP RI FI FQ FP LI LR LA acc' RN FN) := by
    unfold f_submit_11
    refine own_iL (fun c => absurd c (by omega)) (fun _ => ?_)
    refine own_iL (fun c => absurd c (by omega)) (fun _ => ?_)
    refine own_iL (fun c => absurd c (by omega)) (fun _ => ?_)
    refine own_iL (fun c => absurd c (by omega)) (fun _ => ?_)
    refine own_iE (fun _ => key) (fun c => ?_)
    exact own_iE (fun _ => key) (fun c' => absurd h4 (by rintro (h | h) <;> contradiction))
  unfold f_submit
  refine own_iE (fun _ => key2) (fun c => ?_)
  exact own_iE (fun _ => key2) (fun c' => absurd h1 (by rintro (h | h) <;> contradiction))
theorem own_rst {SD RM ST TP RI : List Int32} {RN acc : Int32} (X : own_X SD RM ST TP RI RN acc) (v : Int32) : (f_isResting ST acc v = some 0 ∧ ¬ own_mem RI RN v) ∨ (f_isResting ST acc v = some 1 ∧ own_mem RI RN v ∧ 1 ≤ v.toInt ∧ v.toInt ≤ acc.toInt ∧ gI ST v = 1) := by
  have e1 : (1 : Int32).toInt = 1 := rfl
  have lS := X.lS
  have a1 := X.a1
  unfold f_isResting
  by_cases c1 : v < 1
  · rw [if_pos c1]
    rw [ilt] at c1
    exact Or.inl ⟨rfl, fun h => by have := X.rg h; omega⟩
  rw [if_neg c1]
  by_cases c2 : acc < v
  · rw [if_pos c2]
    rw [ilt] at c2
    exact Or.inl ⟨rfl, fun h => by have := X.rg h; omega⟩
  rw [if_neg c2]
  rw [ilt] at c1 c2
  rw [rdg (by omega) (by omega), Option.bind_some]
  have s := X.s v (by omega) (by omega)
  by_cases g : gI ST v = 1
  · rw [if_pos g]; exact Or.inr ⟨rfl, s.mp g, by omega, by omega, g⟩
  · rw [if_neg g]; exact Or.inl ⟨rfl, fun h => g (s.mpr h)⟩
theorem own_canZ {SD PR RM FL ST : List Int32} {SP : List Int64} {TP RI FI FQ FP LI LR LA : List Int32} {acc RN FN : Int32} (b : own_Z SD PR RM FL ST SP TP RI FI FQ FP LI LR LA acc RN FN) (v : Int32) :
    Tot (f_cancel acc RM ST TP RI RN v) (fun (r, RM, ST, TP, RI, RN) => own_Z SD PR RM FL ST SP TP RI FI FQ FP LI LR LA acc RN FN) := by
  have b' := b
  obtain ⟨sd, pr, sp, a0, X, Y, V, p1, nc, par, fz⟩ := b
  have a1 := X.a1
  have lM := X.lM
  have lS := X.lS
  have lT := X.lT
  unfold f_cancel
  rcases own_rst X v with ⟨e, _⟩ | ⟨e, hm, v0, v1, _⟩
  · rw [e, Option.bind_some, if_pos rfl]; exact Tot.mk b'
  · rw [e, Option.bind_some, if_neg (by decide), wrA_in (by omega) (by omega), Option.bind_some, wrA_in (by omega) (by omega), Option.bind_some, wrA_in (by omega) (by omega), Option.bind_some]
    refine Tot.bind (own_rm X.w v) ?_
    rintro ⟨RI', RN'⟩ ⟨w', _, hi, _⟩
    have hi' : ∀ x, own_mem RI' RN' x ↔ own_mem RI RN x ∧ x ≠ v := hi
    have gS : ∀ x : Int32, 0 ≤ x.toInt → gI (ST.set v.toInt.toNat 3) x = if v = x then 3 else gI ST x := fun x hx => gset (by omega) (by omega) hx
    have gM : ∀ x : Int32, 0 ≤ x.toInt → gI (RM.set v.toInt.toNat 0) x = if v = x then 0 else gI RM x := fun x hx => gset (by omega) (by omega) hx
    have gT : ∀ x : Int32, 0 ≤ x.toInt → gI (TP.set v.toInt.toNat 0) x = if v = x then 0 else gI TP x := fun x hx => gset (by omega) (by omega) hx
    refine Tot.mk ⟨sd, pr, sp, a0, ⟨w', a1, by rw [List.length_set]; exact lM, by rw [List.length_set]; exact lS, by rw [List.length_set]; exact lT, ?_, ?_, ?_⟩, Y, V, p1, fun x y hx hy => nc x y ((hi' x).mp hx).1 ((hi' y).mp hy).1, par, fz⟩
    · intro x x0 x1
      rw [gS x (by omega), hi' x]
      by_cases e : v = x
      · rw [if_pos e]
        exact ⟨fun q => absurd q (by decide), fun q => absurd e.symm q.2⟩
      · rw [if_neg e, X.s x x0 x1]
        exact ⟨fun q => ⟨q, fun z => e z.symm⟩, fun q => q.1⟩
    · intro x hx
      obtain ⟨q1, q2⟩ := (hi' x).mp hx
      have rx := X.rg q1
      rw [gM x (by omega), if_neg (fun z => q2 z.symm)]
      exact X.r x q1
    · intro x y hx hy hs tx ty
      obtain ⟨q1, q2⟩ := (hi' x).mp hx
      obtain ⟨q3, q4⟩ := (hi' y).mp hy
      have rx := X.rg q1
      have ry := X.rg q3
      rw [gT x (by omega), if_neg (fun z => q2 z.symm)] at tx
      rw [gT y (by omega), if_neg (fun z => q4 z.symm)] at ty
      exact X.t x y q1 q3 hs tx ty
theorem own_ameZ {SD PR RM FL ST : List Int32} {SP : List Int64} {TP RI FI FQ FP LI LR LA : List Int32} {acc RN FN : Int32} (b : own_Z SD PR RM FL ST SP TP RI FI FQ FP LI LR LA acc RN FN) (stamp : Int64) (v q : Int32) :
    Tot (f_amend ST acc RM SP TP stamp v q) (fun (r, RM, SP, TP, stamp) => own_Z SD PR RM FL ST SP TP RI FI FQ FP LI LR LA acc RN FN) := by
  have b' := b
  obtain ⟨sd, pr, sp, a0, X, Y, V, p1, nc, par, fz⟩ := b
  have a1 := X.a1
  have lM := X.lM
  have lS := X.lS
  have lT := X.lT
  have e1 : (1 : Int32).toInt = 1 := rfl
  have e10000 : (10000 : Int32).toInt = 10000 := rfl
  unfold f_amend
  rcases own_rst X v with ⟨e, _⟩ | ⟨e, hm, v0, v1, _⟩
  · rw [e, Option.bind_some, if_pos rfl]; exact Tot.mk b'
  · rw [e, Option.bind_some, if_neg (by decide)]
    refine own_iL (fun _ => Tot.mk b') (fun c1 => own_iL (fun _ => Tot.mk b') (fun c2 => ?_))
    have gM : ∀ x : Int32, 0 ≤ x.toInt → gI (RM.set v.toInt.toNat q) x = if v = x then q else gI RM x := fun x hx => gset (by omega) (by omega) hx
    have gT : ∀ x : Int32, 0 ≤ x.toInt → gI (TP.set v.toInt.toNat 0) x = if v = x then 0 else gI TP x := fun x hx => gset (by omega) (by omega) hx
    have hr : ∀ x, own_mem RI RN x → 1 ≤ (gI (RM.set v.toInt.toNat q) x).toInt ∧ (gI (RM.set v.toInt.toNat q) x).toInt ≤ 10000 := by
      intro x hx
      have rx := X.rg hx
      rw [gM x (by omega)]
      by_cases e : v = x
      · rw [if_pos e]; omega
      · rw [if_neg e]; exact X.r x hx
    rw [rdg (by omega) (by omega), Option.bind_some, Option.bind_some, wrA_in (by omega) (by omega), Option.bind_some, Option.bind_some, wrA_in (by omega) (by omega), Option.bind_some, wrA_in (by omega) (by omega), Option.bind_some]
    refine own_iL (fun _ => ?_) (fun _ => own_iL (fun _ => ?_) (fun _ => Tot.mk b'))
    · exact Tot.mk ⟨sd, pr, sp, a0, ⟨X.w, a1, by rw [List.length_set]; exact lM, lS, lT, X.s, hr, X.t⟩, Y, V, p1, nc, par, fz⟩
    · refine Tot.mk ⟨sd, pr, by rw [List.length_set]; exact sp, a0, ⟨X.w, a1, by rw [List.length_set]; exact lM, lS, by rw [List.length_set]; exact lT, X.s, hr, ?_⟩, Y, V, p1, nc, par, fz⟩
      intro x y hx hy hs tx ty
      have rx := X.rg hx
      have ry := X.rg hy
      rw [gT x (by omega)] at tx
      rw [gT y (by omega)] at ty
      by_cases ex : v = x
      · rw [if_pos ex] at tx; exact absurd rfl tx
      · by_cases ey : v = y
        · rw [if_pos ey] at ty; exact absurd rfl ty
        · rw [if_neg ex] at tx
          rw [if_neg ey] at ty
          exact X.t x y hx hy hs tx ty
theorem own_newZ (mi ti : Int32) : Tot (f_init mi ti) (fun (SD, PR, RM, FL, ST, SP, TP, RI, FI, FQ, FP, LI, LR, LA, ma, tc, acc, stamp, RN, FN, LN) => own_Z SD PR RM FL ST SP TP RI FI FQ FP LI LR LA acc RN FN) := by
  unfold f_init f_init_132 f_init_141 f_init_152 f_init_165
  have e0 : (0 : Int32).toInt = 0 := rfl
  have l1 : (List.replicate 256 (0 : Int32)).length = 256 := List.length_replicate
  have l2 : (List.replicate 256 (0 : Int64)).length = 256 := List.length_replicate
  have l3 : (List.replicate 64 (0 : Int32)).length = 64 := List.length_replicate
  have w : own_W (List.replicate 64 0) 0 0 := ⟨l3, by decide, by decide, own_Rrep 64, fun i i0 i1 => by omega, fun i j i0 i1 => by omega⟩
  have nm : ∀ x, ¬ own_mem (List.replicate 64 0) 0 x := by
    rintro x ⟨j, j0, j1, _⟩
    omega
  have sz : ∀ n : Nat, n ≤ 256 → own_sm (List.replicate 256 0) n = 0 := by
    intro n
    induction n with
    | zero => intro _; rfl
    | succ n ih =>
      intro hn
      have en : (Int32.ofNat n).toInt = n := Int32.toInt_ofNat_of_lt (by omega)
      rw [own_sm, ih (by omega), gI_rep (by omega) (by omega)]
      rfl
  refine Tot.mk ⟨l1, l1, l2, by decide, ⟨w, by decide, l1, l1, l1, ?_, fun x hx => absurd hx (nm x), fun x y hx => absurd hx (nm x)⟩, ⟨l1, l3, l3, l3, by decide, by decide⟩, ⟨own_Rrep 64, l3, l3, l3⟩, ?_, fun x y hx => absurd hx (nm x), by rw [sz 256 (by omega)]; decide, ?_⟩
  · intro x x0 x1
    omega
  · intro x x0 x1
    omega
  · intro x x0 x1 _
    exact gI_rep x0 (by omega)
def own_cnt (p : Nat → Bool) : Nat → Nat
  | 0 => 0
  | n + 1 => own_cnt p n + (if p n then 1 else 0)
theorem own_cnt_same {p q : Nat → Bool} : ∀ n, (∀ j, j < n → p j = q j) → own_cnt p n = own_cnt q n := by
  intro n
  induction n with
  | zero => intro _; rw [own_cnt, own_cnt]
  | succ n ih => intro h; rw [own_cnt, own_cnt, ih (fun j hj => h j (by omega)), h n (by omega)]
theorem own_cnt_upd {p q : Nat → Bool} {i : Nat} : ∀ n, i < n → (∀ j, j < n → j ≠ i → p j = q j) → own_cnt q n + (if p i then 1 else 0) = own_cnt p n + (if q i then 1 else 0) := by
  intro n
  induction n with
  | zero => intro h _; omega
  | succ n ih =>
    intro h hj
    rw [own_cnt, own_cnt]
    by_cases e : i = n
    · subst e
      have s := own_cnt_same i (fun j k => hj j (by omega) (by omega))
      omega
    · have s := ih (by omega) (fun j a b => hj j (by omega) b)
      have t := hj n (by omega) (fun z => e z.symm)
      rw [t]
      omega
theorem own_cnt_0 {p : Nat → Bool} : ∀ n, (∀ j, j < n → p j = false) → own_cnt p n = 0 := by
  intro n
  induction n with
  | zero => intro _; rfl
  | succ n ih => intro h; rw [own_cnt, ih (fun j hj => h j (by omega)), h n (by omega)]; rfl
theorem own_on {x : Int32} (h : 0 ≤ x.toInt) : Int32.ofNat x.toInt.toNat = x := by
  have := Int32.toInt_lt x
  rw [ieq, Int32.toInt_ofNat_of_lt (by omega)]
  omega
def own_pk (RI : List Int32) (k x : Nat) : Bool := (List.range k).any (fun j => decide (gI RI (Int32.ofNat j) = Int32.ofNat x))
theorem own_pk_iff (RI : List Int32) (k x : Nat) : own_pk RI k x = true ↔ ∃ j, j < k ∧ gI RI (Int32.ofNat j) = Int32.ofNat x := by
  unfold own_pk
  rw [List.any_eq_true]
  constructor
  · rintro ⟨j, hj, h⟩
    exact ⟨j, List.mem_range.mp hj, of_decide_eq_true h⟩
  · rintro ⟨j, hj, h⟩
    exact ⟨j, List.mem_range.mpr hj, decide_eq_true h⟩
theorem own_cnt_rest {RI : List Int32} {RN acc : Int32} (w : own_W RI RN acc) (a1 : acc.toInt ≤ 255) : ∀ k : Nat, (k : Int) ≤ RN.toInt → own_cnt (own_pk RI k) 256 = k := by
  intro k
  have n1 := w.n1
  induction k with
  | zero =>
    intro _
    apply own_cnt_0
    intro j _
    rfl
  | succ k ih =>
    intro hk
    have i := ih (by omega)
    have ek : (Int32.ofNat k).toInt = k := Int32.toInt_ofNat_of_lt (by omega)
    have rg := w.e (Int32.ofNat k) (by omega) (by omega)
    have u := own_cnt_upd (p := own_pk RI k) (q := own_pk RI (k + 1)) (i := (gI RI (Int32.ofNat k)).toInt.toNat) 256 (by omega) (by
      intro j hj ne
      rw [Bool.eq_iff_iff, own_pk_iff, own_pk_iff]
      constructor
      · rintro ⟨a, ha, h⟩; exact ⟨a, by omega, h⟩
      · rintro ⟨a, ha, h⟩
        by_cases e : a = k
        · subst e
          exfalso
          rw [h] at ne
          rw [Int32.toInt_ofNat_of_lt (by omega)] at ne
          omega
        · exact ⟨a, by omega, h⟩)
    have f1 : own_pk RI k (gI RI (Int32.ofNat k)).toInt.toNat = false := by
      rw [Bool.eq_false_iff]
      intro h
      obtain ⟨a, ha, h⟩ := (own_pk_iff _ _ _).mp h
      rw [own_on (by omega)] at h
      have ea : (Int32.ofNat a).toInt = a := Int32.toInt_ofNat_of_lt (by omega)
      have := w.d (Int32.ofNat a) (Int32.ofNat k) (by omega) (by omega) (by omega) (by omega) h
      rw [ieq] at this
      omega
    have f2 : own_pk RI (k + 1) (gI RI (Int32.ofNat k)).toInt.toNat = true := (own_pk_iff _ _ _).mpr ⟨k, by omega, by rw [own_on (by omega)]⟩
    rw [f1, f2, i] at u
    simpa using u
def own_pq (ST : List Int32) (acc : Int32) (x : Nat) : Bool := decide (gI ST (Int32.ofNat x) = 1 ∧ 1 ≤ x ∧ (x : Int) ≤ acc.toInt)
theorem own_pq_iff {SD RM ST TP RI : List Int32} {RN acc : Int32} (X : own_X SD RM ST TP RI RN acc) {x : Nat} (hx : x < 256) : own_pq ST acc x = true ↔ own_mem RI RN (Int32.ofNat x) := by
  have ex : (Int32.ofNat x).toInt = x := Int32.toInt_ofNat_of_lt (by omega)
  unfold own_pq
  rw [decide_eq_true_iff]
  constructor
  · rintro ⟨a, b, c⟩
    exact (X.s _ (by omega) (by omega)).mp a
  · intro h
    have rg := X.rg h
    exact ⟨(X.s _ rg.1 rg.2).mpr h, by omega, by omega⟩
theorem own_pq_cnt {SD RM ST TP RI : List Int32} {RN acc : Int32} (X : own_X SD RM ST TP RI RN acc) : (own_cnt (own_pq ST acc) 256 : Int) = RN.toInt := by
  have n0 := X.w.n0
  have n1 := X.w.n1
  have c := own_cnt_rest X.w X.a1 RN.toInt.toNat (by omega)
  have s : own_cnt (own_pq ST acc) 256 = own_cnt (own_pk RI RN.toInt.toNat) 256 := by
    apply own_cnt_same
    intro x hx
    rw [Bool.eq_iff_iff, own_pq_iff X hx, own_pk_iff]
    constructor
    · rintro ⟨j, j0, j1, ej⟩
      exact ⟨j.toInt.toNat, by omega, by rw [own_on j0]; exact ej⟩
    · rintro ⟨j, hj, h⟩
      have ej : (Int32.ofNat j).toInt = j := Int32.toInt_ofNat_of_lt (by omega)
      exact ⟨Int32.ofNat j, by omega, by omega, h⟩
  rw [s, c]
  omega
def own_ws (w : Int32 → Int) : Nat → Int
  | 0 => 0
  | n + 1 => own_ws w n + w (Int32.ofNat n)
theorem own_ws_sm (L : List Int32) : ∀ n, own_sm L n = own_ws (fun x => (gI L x).toInt) n := by
  intro n
  induction n with
  | zero => rfl
  | succ n ih => rw [own_sm, own_ws, ih]
theorem own_ws_same {w u : Int32 → Int} : ∀ n : Nat, n ≤ 100000 → (∀ x : Int32, 0 ≤ x.toInt → x.toInt < n → w x = u x) → own_ws w n = own_ws u n := by
  intro n
  induction n with
  | zero => intro _ _; rfl
  | succ n ih =>
    intro hn h
    have e : (Int32.ofNat n).toInt = n := Int32.toInt_ofNat_of_lt (by omega)
    rw [own_ws, own_ws, ih (by omega) (fun x a b => h x a (by omega)), h _ (by omega) (by omega)]
theorem own_ws_add (w u : Int32 → Int) : ∀ n, own_ws (fun x => w x + u x) n = own_ws w n + own_ws u n := by
  intro n
  induction n with
  | zero => rfl
  | succ n ih => rw [own_ws, own_ws, own_ws, ih]; omega
theorem own_ws_sub (w u : Int32 → Int) : ∀ n, own_ws (fun x => w x - u x) n = own_ws w n - own_ws u n := by
  intro n
  induction n with
  | zero => rfl
  | succ n ih => rw [own_ws, own_ws, own_ws, ih]; omega
theorem own_ws_0 {w : Int32 → Int} : ∀ n : Nat, n ≤ 100000 → (∀ x : Int32, 0 ≤ x.toInt → x.toInt < n → w x = 0) → own_ws w n = 0 := by
  intro n
  induction n with
  | zero => intro _ _; rfl
  | succ n ih =>
    intro hn h
    have e : (Int32.ofNat n).toInt = n := Int32.toInt_ofNat_of_lt (by omega)
    rw [own_ws, ih (by omega) (fun x a b => h x a (by omega)), h _ (by omega) (by omega)]
    rfl
theorem own_ws_one {w : Int32 → Int} {y : Int32} (y0 : 0 ≤ y.toInt) : ∀ n : Nat, n ≤ 100000 → own_ws w n = own_ws (fun x => if x = y then 0 else w x) n + (if y.toInt < n then w y else 0) := by
  intro n
  induction n with
  | zero => intro _; rw [own_ws, own_ws, if_neg (by omega)]; rfl
  | succ n ih =>
    intro hn
    have e : (Int32.ofNat n).toInt = n := Int32.toInt_ofNat_of_lt (by omega)
    rw [own_ws, own_ws, ih (by omega)]
    by_cases q : Int32.ofNat n = y
    · rw [if_pos q, q]
      rw [q] at e
      rw [if_neg (by omega), if_pos (by omega)]
      first | done | omega
    · rw [if_neg q]
      rw [ieq] at q
      by_cases l : y.toInt < n
      · rw [if_pos l, if_pos (by omega)]; omega
      · rw [if_neg l, if_neg (by omega)]; omega
theorem own_ws_log {L : List Int32} : ∀ (n : Nat), n ≤ 100000 → ∀ w : Int32 → Int, (∀ k : Int32, 0 ≤ k.toInt → k.toInt < n → 0 ≤ (gI L k).toInt ∧ (gI L k).toInt < 256) → (∀ i j : Int32, 0 ≤ i.toInt → i.toInt < n → 0 ≤ j.toInt → j.toInt < n → gI L i = gI L j → i = j) → (∀ x : Int32, 0 ≤ x.toInt → x.toInt < 256 → (∀ k : Int32, 0 ≤ k.toInt → k.toInt < n → ¬ gI L k = x) → w x = 0) → own_ws w 256 = own_ws (fun k => w (gI L k)) n := by
  intro n
  induction n with
  | zero =>
    intro _ w h1 h2 h3
    rw [own_ws_0 256 (by omega) (fun x a b => h3 x a b (fun k p q => by omega))]
    rfl
  | succ n ih =>
    intro hn w h1 h2 h3
    have e : (Int32.ofNat n).toInt = n := Int32.toInt_ofNat_of_lt (by omega)
    have r := h1 (Int32.ofNat n) (by omega) (by omega)
    rw [own_ws_one (w := w) r.1 256 (by omega), if_pos (by omega)]
    have st : own_ws (fun k => w (gI L k)) (n + 1) = own_ws (fun k => w (gI L k)) n + w (gI L (Int32.ofNat n)) := rfl
    rw [st, ih (by omega) _ (fun k a b => h1 k a (by omega)) (fun i j a b c d => h2 i j a (by omega) c (by omega)) ?_]
    · rw [own_ws_same n (by omega) (u := fun k => w (gI L k))]
      intro k a b
      have ne : ¬ gI L k = gI L (Int32.ofNat n) := by
        intro q
        have := h2 k (Int32.ofNat n) a (by omega) (by omega) (by omega) q
        rw [ieq] at this
        omega
      show (if gI L k = gI L (Int32.ofNat n) then 0 else w (gI L k)) = _
      rw [if_neg ne]
    · intro x a b c
      show (if x = gI L (Int32.ofNat n) then 0 else w x) = 0
      by_cases q : x = gI L (Int32.ofNat n)
      · rw [if_pos q]
      · rw [if_neg q]
        refine h3 x a b (fun k p1 p2 => ?_)
        by_cases g : k.toInt < n
        · exact c k p1 g
        · have : k = Int32.ofNat n := by rw [ieq]; omega
          rw [this]
          exact fun z => q z.symm
theorem own_cnt_mono {p q : Nat → Bool} : ∀ n, (∀ j, j < n → p j = true → q j = true) → own_cnt p n ≤ own_cnt q n := by
  intro n
  induction n with
  | zero => intro _; exact Nat.le_refl _
  | succ n ih =>
    intro h
    have i := ih (fun j hj => h j (by omega))
    rw [own_cnt, own_cnt]
    have := h n (by omega)
    by_cases c : p n = true
    · rw [if_pos c, if_pos (this c)]; omega
    · rw [if_neg c]; omega
theorem own_GW {RI LI : List Int32} {RN acc LN : Int32} (w : own_W RI RN acc) (a1 : acc.toInt ≤ 255) (g : own_G LI LN) (h : ∀ x, own_mem LI LN x → own_mem RI RN x) : LN.toInt ≤ RN.toInt := by
  have n0 := w.n0
  have n1 := w.n1
  have g0 := g.n0
  have g1 := g.n1
  have wL : own_W LI LN acc := by
    refine ⟨g.l, g0, g1, g.r, fun i i0 i1 => ?_, g.d⟩
    obtain ⟨j, j0, j1, ej⟩ := h _ ⟨i, i0, i1, rfl⟩
    rw [← ej]
    exact w.e j j0 j1
  have c1 := own_cnt_rest w a1 RN.toInt.toNat (by omega)
  have c2 := own_cnt_rest wL a1 LN.toInt.toNat (by omega)
  have m := own_cnt_mono (p := own_pk LI LN.toInt.toNat) (q := own_pk RI RN.toInt.toNat) 256 (by
    intro x hx c
    rw [own_pk_iff] at c ⊢
    obtain ⟨j, hj, e⟩ := c
    have ej : (Int32.ofNat j).toInt = j := Int32.toInt_ofNat_of_lt (by omega)
    obtain ⟨i, i0, i1, ei⟩ := h _ ⟨Int32.ofNat j, by omega, by omega, e⟩
    exact ⟨i.toInt.toNat, by omega, by rw [own_on i0]; exact ei⟩)
  omega
abbrev own_L (SD PR RM0 FL0 ST0 RI0 RM FL ST RI FI FQ FP : List Int32) (RN0 RN FN acc opp : Int32) : Prop := (∀ x, own_mem RI RN x → own_mem RI0 RN0 x) ∧ (∀ k : Int32, 0 ≤ k.toInt → k.toInt < FN.toInt → own_mem RI0 RN0 (gI FI k) ∧ gI SD (gI FI k) = opp ∧ gI FP k = gI PR (gI FI k) ∧ 1 ≤ (gI FQ k).toInt ∧ (gI RM (gI FI k)).toInt = (gI RM0 (gI FI k)).toInt - (gI FQ k).toInt ∧ (gI FL (gI FI k)).toInt = (gI FL0 (gI FI k)).toInt + (gI FQ k).toInt ∧ ((gI ST (gI FI k) = 1 ∧ 1 ≤ (gI RM (gI FI k)).toInt) ∨ (gI ST (gI FI k) = 2 ∧ gI RM (gI FI k) = 0))) ∧ (∀ i j : Int32, 0 ≤ i.toInt → i.toInt < FN.toInt → 0 ≤ j.toInt → j.toInt < FN.toInt → gI FI i = gI FI j → i = j) ∧ (∀ x : Int32, 1 ≤ x.toInt → x.toInt ≤ acc.toInt → (∀ k : Int32, 0 ≤ k.toInt → k.toInt < FN.toInt → ¬ gI FI k = x) → gI RM x = gI RM0 x ∧ gI FL x = gI FL0 x ∧ gI ST x = gI ST0 x) ∧ (∀ x : Int32, 0 ≤ x.toInt → x.toInt < 256 → (x.toInt < 1 ∨ acc.toInt < x.toInt) → gI RM x = gI RM0 x ∧ gI ST x = gI ST0 x)
theorem own_L.m {SD PR RM0 FL0 ST0 RI0 RM FL ST RI FI FQ FP : List Int32} {RN0 RN FN acc opp : Int32} (self : own_L SD PR RM0 FL0 ST0 RI0 RM FL ST RI FI FQ FP RN0 RN FN acc opp) : ∀ x, own_mem RI RN x → own_mem RI0 RN0 x := self.1
theorem own_L.k {SD PR RM0 FL0 ST0 RI0 RM FL ST RI FI FQ FP : List Int32} {RN0 RN FN acc opp : Int32} (self : own_L SD PR RM0 FL0 ST0 RI0 RM FL ST RI FI FQ FP RN0 RN FN acc opp) : ∀ k : Int32, 0 ≤ k.toInt → k.toInt < FN.toInt → own_mem RI0 RN0 (gI FI k) ∧ gI SD (gI FI k) = opp ∧ gI FP k = gI PR (gI FI k) ∧ 1 ≤ (gI FQ k).toInt ∧ (gI RM (gI FI k)).toInt = (gI RM0 (gI FI k)).toInt - (gI FQ k).toInt ∧ (gI FL (gI FI k)).toInt = (gI FL0 (gI FI k)).toInt + (gI FQ k).toInt ∧ ((gI ST (gI FI k) = 1 ∧ 1 ≤ (gI RM (gI FI k)).toInt) ∨ (gI ST (gI FI k) = 2 ∧ gI RM (gI FI k) = 0)) := self.2.1
theorem own_L.d {SD PR RM0 FL0 ST0 RI0 RM FL ST RI FI FQ FP : List Int32} {RN0 RN FN acc opp : Int32} (self : own_L SD PR RM0 FL0 ST0 RI0 RM FL ST RI FI FQ FP RN0 RN FN acc opp) : ∀ i j : Int32, 0 ≤ i.toInt → i.toInt < FN.toInt → 0 ≤ j.toInt → j.toInt < FN.toInt → gI FI i = gI FI j → i = j := self.2.2.1
theorem own_L.u {SD PR RM0 FL0 ST0 RI0 RM FL ST RI FI FQ FP : List Int32} {RN0 RN FN acc opp : Int32} (self : own_L SD PR RM0 FL0 ST0 RI0 RM FL ST RI FI FQ FP RN0 RN FN acc opp) : ∀ x : Int32, 1 ≤ x.toInt → x.toInt ≤ acc.toInt → (∀ k : Int32, 0 ≤ k.toInt → k.toInt < FN.toInt → ¬ gI FI k = x) → gI RM x = gI RM0 x ∧ gI FL x = gI FL0 x ∧ gI ST x = gI ST0 x := self.2.2.2.1
theorem own_L.o {SD PR RM0 FL0 ST0 RI0 RM FL ST RI FI FQ FP : List Int32} {RN0 RN FN acc opp : Int32} (self : own_L SD PR RM0 FL0 ST0 RI0 RM FL ST RI FI FQ FP RN0 RN FN acc opp) : ∀ x : Int32, 0 ≤ x.toInt → x.toInt < 256 → (x.toInt < 1 ∨ acc.toInt < x.toInt) → gI RM x = gI RM0 x ∧ gI ST x = gI ST0 x := self.2.2.2.2
theorem own_L.push {SD PR RM0 FL0 ST0 RI0 RM FL ST RI FI FQ FP RM' FL' ST' RI' : List Int32} {RN0 RN FN RN' acc opp id a v1 : Int32} (L : own_L SD PR RM0 FL0 ST0 RI0 RM FL ST RI FI FQ FP RN0 RN FN acc opp) (lI : FI.length = 64) (lQ : FQ.length = 64) (lP : FP.length = 64) (f0 : 0 ≤ FN.toInt) (f1 : FN.toInt < 64) (i0 : 1 ≤ id.toInt) (i1 : id.toInt ≤ acc.toInt) (hm : own_mem RI0 RN0 id) (hs : gI SD id = opp) (hp : v1 = gI PR id) (a1 : 1 ≤ a.toInt) (nl : ∀ k : Int32, 0 ≤ k.toInt → k.toInt < FN.toInt → ¬ gI FI k = id)
    (hM : (gI RM' id).toInt = (gI RM id).toInt - a.toInt) (hM' : ∀ x : Int32, 0 ≤ x.toInt → ¬ id = x → gI RM' x = gI RM x) (hF : (gI FL' id).toInt = (gI FL id).toInt + a.toInt) (hF' : ∀ x : Int32, 0 ≤ x.toInt → ¬ id = x → gI FL' x = gI FL x) (hS : (gI ST' id = 1 ∧ 1 ≤ (gI RM' id).toInt) ∨ (gI ST' id = 2 ∧ gI RM' id = 0)) (hS' : ∀ x : Int32, 0 ≤ x.toInt → ¬ id = x → gI ST' x = gI ST x) (hR : ∀ x, own_mem RI' RN' x → own_mem RI RN x) (hid0 : ∀ x, own_mem RI0 RN0 x → 1 ≤ x.toInt) :
    own_L SD PR RM0 FL0 ST0 RI0 RM' FL' ST' RI' (FI.set FN.toInt.toNat id) (FQ.set FN.toInt.toNat a) (FP.set FN.toInt.toNat v1) RN0 RN' (FN + 1) acc opp := by
  have p := own_p1 (a := FN) (by omega)
  have gI1 : ∀ k : Int32, 0 ≤ k.toInt → gI (FI.set FN.toInt.toNat id) k = if FN = k then id else gI FI k := fun k h => gset f0 (by omega) h
  have gQ1 : ∀ k : Int32, 0 ≤ k.toInt → gI (FQ.set FN.toInt.toNat a) k = if FN = k then a else gI FQ k := fun k h => gset f0 (by omega) h
  have gP1 : ∀ k : Int32, 0 ≤ k.toInt → gI (FP.set FN.toInt.toNat v1) k = if FN = k then v1 else gI FP k := fun k h => gset f0 (by omega) h
  have un := L.u id i0 i1 nl
  refine ⟨fun x hx => L.m x (hR x hx), ?_, ?_, ?_, ?_⟩
  · intro k k0 k1
    rw [gI1 k k0, gQ1 k k0, gP1 k k0]
    by_cases e : FN = k
    · rw [if_pos e, if_pos e, if_pos e]
      rw [un.1] at hM
      rw [un.2.1] at hF
      exact ⟨hm, hs, hp, a1, hM, hF, hS⟩
    · rw [if_neg e, if_neg e, if_neg e]
      have ne := e
      rw [ieq] at ne
      obtain ⟨q1, q2, q3, q4, q5, q6, q7⟩ := L.k k k0 (by omega)
      have nk := nl k k0 (by omega)
      have nk' : ¬ id = gI FI k := fun z => nk z.symm
      have g0 := hid0 _ q1
      rw [hM' _ (by omega) nk', hF' _ (by omega) nk', hS' _ (by omega) nk']
      exact ⟨q1, q2, q3, q4, q5, q6, q7⟩
  · intro i j x0 x1 y0 y1 e
    rw [gI1 i x0, gI1 j y0] at e
    by_cases ei : FN = i
    · by_cases ej : FN = j
      · rw [← ei, ← ej]
      · rw [if_pos ei, if_neg ej] at e
        rw [ieq] at ej
        exact absurd e.symm (nl j y0 (by omega))
    · by_cases ej : FN = j
      · rw [if_neg ei, if_pos ej] at e
        rw [ieq] at ei
        exact absurd e (nl i x0 (by omega))
      · rw [if_neg ei, if_neg ej] at e
        rw [ieq] at ei ej
        exact L.d i j x0 (by omega) y0 (by omega) e
  · intro x x0 x1 hx
    have ne : ¬ id = x := by
      have := hx FN f0 (by omega)
      rw [gI1 FN f0, if_pos rfl] at this
      exact this
    rw [hM' x (by omega) ne, hF' x (by omega) ne, hS' x (by omega) ne]
    refine L.u x x0 x1 (fun k k0 k1 => ?_)
    have := hx k k0 (by omega)
    rw [gI1 k k0, if_neg (fun z => by rw [ieq] at z; omega)] at this
    exact this
  · intro x x0 x1 hx
    have ne : ¬ id = x := by rw [ieq]; omega
    rw [hM' x x0 ne, hS' x x0 ne]
    exact L.o x x0 x1 hx
abbrev own_H (SD PR RM0 FL0 ST0 RI0 LI LR LA RM FL ST TP RI FI FQ FP FIs FQs FPs RIs FLs : List Int32) (RN0 RN FN acc opp LN v1 v2 RNs FNs : Int32) : Prop := (own_X SD RM ST TP RI RN acc) ∧ (own_Y FL FI FQ FP FN) ∧ (own_L SD PR RM0 FL0 ST0 RI0 RM FL ST RI FI FQ FP RN0 RN FN acc opp) ∧ (∀ j : Int32, v2.toInt ≤ j.toInt → j.toInt < LN.toInt → own_mem RI RN (gI LI j) ∧ gI RM (gI LI j) = gI LR j ∧ (∀ k : Int32, 0 ≤ k.toInt → k.toInt < FN.toInt → ¬ gI FI k = gI LI j)) ∧ (∀ x, own_mem RI RN x → own_mem RIs RNs x) ∧ (∀ k : Int32, 0 ≤ k.toInt → k.toInt < FNs.toInt → gI FI k = gI FIs k ∧ gI FQ k = gI FQs k ∧ gI FP k = gI FPs k) ∧ (∀ k : Int32, FNs.toInt ≤ k.toInt → k.toInt < FN.toInt → gI FP k = v1) ∧ (FNs.toInt ≤ FN.toInt) ∧ (FN.toInt ≤ FNs.toInt + v2.toInt) ∧ (own_sm FQ FN.toInt.toNat = own_sm FQs FNs.toInt.toNat + own_sm LA v2.toInt.toNat) ∧ (∀ j : Int32, 0 ≤ j.toInt → j.toInt < v2.toInt → gI LA j = gI LR j → ¬ own_mem RI RN (gI LI j)) ∧ ((∀ j : Int32, 0 ≤ j.toInt → j.toInt < v2.toInt → gI LA j = gI LR j) → FN.toInt + RN.toInt = FNs.toInt + RNs.toInt) ∧ (∀ x : Int32, 0 ≤ x.toInt → x.toInt < 256 → (x.toInt < 1 ∨ acc.toInt < x.toInt) → gI FL x = gI FLs x)
theorem own_H.X {SD PR RM0 FL0 ST0 RI0 LI LR LA RM FL ST TP RI FI FQ FP FIs FQs FPs RIs FLs : List Int32} {RN0 RN FN acc opp LN v1 v2 RNs FNs : Int32} (self : own_H SD PR RM0 FL0 ST0 RI0 LI LR LA RM FL ST TP RI FI FQ FP FIs FQs FPs RIs FLs RN0 RN FN acc opp LN v1 v2 RNs FNs) : own_X SD RM ST TP RI RN acc := self.1
theorem own_H.Y {SD PR RM0 FL0 ST0 RI0 LI LR LA RM FL ST TP RI FI FQ FP FIs FQs FPs RIs FLs : List Int32} {RN0 RN FN acc opp LN v1 v2 RNs FNs : Int32} (self : own_H SD PR RM0 FL0 ST0 RI0 LI LR LA RM FL ST TP RI FI FQ FP FIs FQs FPs RIs FLs RN0 RN FN acc opp LN v1 v2 RNs FNs) : own_Y FL FI FQ FP FN := self.2.1
theorem own_H.L {SD PR RM0 FL0 ST0 RI0 LI LR LA RM FL ST TP RI FI FQ FP FIs FQs FPs RIs FLs : List Int32} {RN0 RN FN acc opp LN v1 v2 RNs FNs : Int32} (self : own_H SD PR RM0 FL0 ST0 RI0 LI LR LA RM FL ST TP RI FI FQ FP FIs FQs FPs RIs FLs RN0 RN FN acc opp LN v1 v2 RNs FNs) : own_L SD PR RM0 FL0 ST0 RI0 RM FL ST RI FI FQ FP RN0 RN FN acc opp := self.2.2.1
theorem own_H.p {SD PR RM0 FL0 ST0 RI0 LI LR LA RM FL ST TP RI FI FQ FP FIs FQs FPs RIs FLs : List Int32} {RN0 RN FN acc opp LN v1 v2 RNs FNs : Int32} (self : own_H SD PR RM0 FL0 ST0 RI0 LI LR LA RM FL ST TP RI FI FQ FP FIs FQs FPs RIs FLs RN0 RN FN acc opp LN v1 v2 RNs FNs) : ∀ j : Int32, v2.toInt ≤ j.toInt → j.toInt < LN.toInt → own_mem RI RN (gI LI j) ∧ gI RM (gI LI j) = gI LR j ∧ (∀ k : Int32, 0 ≤ k.toInt → k.toInt < FN.toInt → ¬ gI FI k = gI LI j) := self.2.2.2.1
theorem own_H.m {SD PR RM0 FL0 ST0 RI0 LI LR LA RM FL ST TP RI FI FQ FP FIs FQs FPs RIs FLs : List Int32} {RN0 RN FN acc opp LN v1 v2 RNs FNs : Int32} (self : own_H SD PR RM0 FL0 ST0 RI0 LI LR LA RM FL ST TP RI FI FQ FP FIs FQs FPs RIs FLs RN0 RN FN acc opp LN v1 v2 RNs FNs) : ∀ x, own_mem RI RN x → own_mem RIs RNs x := self.2.2.2.2.1
theorem own_H.a {SD PR RM0 FL0 ST0 RI0 LI LR LA RM FL ST TP RI FI FQ FP FIs FQs FPs RIs FLs : List Int32} {RN0 RN FN acc opp LN v1 v2 RNs FNs : Int32} (self : own_H SD PR RM0 FL0 ST0 RI0 LI LR LA RM FL ST TP RI FI FQ FP FIs FQs FPs RIs FLs RN0 RN FN acc opp LN v1 v2 RNs FNs) : ∀ k : Int32, 0 ≤ k.toInt → k.toInt < FNs.toInt → gI FI k = gI FIs k ∧ gI FQ k = gI FQs k ∧ gI FP k = gI FPs k := self.2.2.2.2.2.1
theorem own_H.b {SD PR RM0 FL0 ST0 RI0 LI LR LA RM FL ST TP RI FI FQ FP FIs FQs FPs RIs FLs : List Int32} {RN0 RN FN acc opp LN v1 v2 RNs FNs : Int32} (self : own_H SD PR RM0 FL0 ST0 RI0 LI LR LA RM FL ST TP RI FI FQ FP FIs FQs FPs RIs FLs RN0 RN FN acc opp LN v1 v2 RNs FNs) : ∀ k : Int32, FNs.toInt ≤ k.toInt → k.toInt < FN.toInt → gI FP k = v1 := self.2.2.2.2.2.2.1
theorem own_H.n0 {SD PR RM0 FL0 ST0 RI0 LI LR LA RM FL ST TP RI FI FQ FP FIs FQs FPs RIs FLs : List Int32} {RN0 RN FN acc opp LN v1 v2 RNs FNs : Int32} (self : own_H SD PR RM0 FL0 ST0 RI0 LI LR LA RM FL ST TP RI FI FQ FP FIs FQs FPs RIs FLs RN0 RN FN acc opp LN v1 v2 RNs FNs) : FNs.toInt ≤ FN.toInt := self.2.2.2.2.2.2.2.1
theorem own_H.n1 {SD PR RM0 FL0 ST0 RI0 LI LR LA RM FL ST TP RI FI FQ FP FIs FQs FPs RIs FLs : List Int32} {RN0 RN FN acc opp LN v1 v2 RNs FNs : Int32} (self : own_H SD PR RM0 FL0 ST0 RI0 LI LR LA RM FL ST TP RI FI FQ FP FIs FQs FPs RIs FLs RN0 RN FN acc opp LN v1 v2 RNs FNs) : FN.toInt ≤ FNs.toInt + v2.toInt := self.2.2.2.2.2.2.2.2.1
theorem own_H.s {SD PR RM0 FL0 ST0 RI0 LI LR LA RM FL ST TP RI FI FQ FP FIs FQs FPs RIs FLs : List Int32} {RN0 RN FN acc opp LN v1 v2 RNs FNs : Int32} (self : own_H SD PR RM0 FL0 ST0 RI0 LI LR LA RM FL ST TP RI FI FQ FP FIs FQs FPs RIs FLs RN0 RN FN acc opp LN v1 v2 RNs FNs) : own_sm FQ FN.toInt.toNat = own_sm FQs FNs.toInt.toNat + own_sm LA v2.toInt.toNat := self.2.2.2.2.2.2.2.2.2.1
theorem own_H.q {SD PR RM0 FL0 ST0 RI0 LI LR LA RM FL ST TP RI FI FQ FP FIs FQs FPs RIs FLs : List Int32} {RN0 RN FN acc opp LN v1 v2 RNs FNs : Int32} (self : own_H SD PR RM0 FL0 ST0 RI0 LI LR LA RM FL ST TP RI FI FQ FP FIs FQs FPs RIs FLs RN0 RN FN acc opp LN v1 v2 RNs FNs) : ∀ j : Int32, 0 ≤ j.toInt → j.toInt < v2.toInt → gI LA j = gI LR j → ¬ own_mem RI RN (gI LI j) := self.2.2.2.2.2.2.2.2.2.2.1
theorem own_H.r {SD PR RM0 FL0 ST0 RI0 LI LR LA RM FL ST TP RI FI FQ FP FIs FQs FPs RIs FLs : List Int32} {RN0 RN FN acc opp LN v1 v2 RNs FNs : Int32} (self : own_H SD PR RM0 FL0 ST0 RI0 LI LR LA RM FL ST TP RI FI FQ FP FIs FQs FPs RIs FLs RN0 RN FN acc opp LN v1 v2 RNs FNs) : (∀ j : Int32, 0 ≤ j.toInt → j.toInt < v2.toInt → gI LA j = gI LR j) → FN.toInt + RN.toInt = FNs.toInt + RNs.toInt := self.2.2.2.2.2.2.2.2.2.2.2.1
theorem own_H.o {SD PR RM0 FL0 ST0 RI0 LI LR LA RM FL ST TP RI FI FQ FP FIs FQs FPs RIs FLs : List Int32} {RN0 RN FN acc opp LN v1 v2 RNs FNs : Int32} (self : own_H SD PR RM0 FL0 ST0 RI0 LI LR LA RM FL ST TP RI FI FQ FP FIs FQs FPs RIs FLs RN0 RN FN acc opp LN v1 v2 RNs FNs) : ∀ x : Int32, 0 ≤ x.toInt → x.toInt < 256 → (x.toInt < 1 ∨ acc.toInt < x.toInt) → gI FL x = gI FLs x := self.2.2.2.2.2.2.2.2.2.2.2.2
theorem own_apL {SD PR RM0 FL0 ST0 RI0 LI LR LA FIs FQs FPs RIs FLs : List Int32} {RN0 acc opp LN v1 RNs FNs : Int32} (g : own_G LI LN) (hA : own_A LR LA LN) (cap : FNs.toInt + LN.toInt ≤ 64) (s0 : 0 ≤ FNs.toInt) (hst : ∀ j : Int32, 0 ≤ j.toInt → j.toInt < LN.toInt → gI SD (gI LI j) = opp ∧ gI PR (gI LI j) = v1) (fl : ∀ x : Int32, 1 ≤ x.toInt → x.toInt ≤ acc.toInt → 0 ≤ (gI FL0 x).toInt ∧ (gI FL0 x).toInt ≤ 1000000) (hid0 : ∀ x, own_mem RI0 RN0 x → 1 ≤ x.toInt) :
    ∀ (n : Nat) (RM FL ST TP RI FI FQ FP : List Int32) (RN FN v2 : Int32), 0 ≤ v2.toInt → v2.toInt ≤ LN.toInt → LN.toInt - v2.toInt < n → own_H SD PR RM0 FL0 ST0 RI0 LI LR LA RM FL ST TP RI FI FQ FP FIs FQs FPs RIs FLs RN0 RN FN acc opp LN v1 v2 RNs FNs →
    Tot (f_applyLevel_2 LI LA LN n RM FL ST TP RI FI FQ FP RN FN v1 v2) (fun (RM, FL, ST, TP, RI, FI, FQ, FP, RN, FN) => own_H SD PR RM0 FL0 ST0 RI0 LI LR LA RM FL ST TP RI FI FQ FP FIs FQs FPs RIs FLs RN0 RN FN acc opp LN v1 LN RNs FNs) := by
  intro n
  have e0 : (0 : Int32).toInt = 0 := rfl
  have e64 : (64 : Int32).toInt = 64 := rfl
  have gl := g.l
  have lA := hA.lA
  have n1' := hA.n1
  induction n with
  | zero => intro RM FL ST TP RI FI FQ FP RN FN v2 a b c; omega
  | succ n ih =>
    intro RM FL ST TP RI FI FQ FP RN FN v2 a b c H
    unfold f_applyLevel_2
    by_cases cc : v2 < LN
    rotate_left
    · rw [if_neg cc]
      rw [ilt] at cc
      have ev : v2 = LN := by rw [ieq]; omega
      rw [ev] at H
      exact Tot.mk H
    rw [if_pos cc]
    rw [ilt] at cc
    have X := H.X
    have Y := H.Y
    have p := own_p1 (a := v2) (by omega)
    have ra := hA.a v2 a cc
    have rr := hA.r v2 a cc
    have s1 := own_sm_1 LA a (by omega)
    obtain ⟨hm, hr, hnl⟩ := H.p v2 (by omega) cc
    have rg := X.rg hm
    have xa1 := X.a1
    have lM := X.lM
    have lS := X.lS
    have lT := X.lT
    have lF := Y.lF
    have lI := Y.lI
    have lQ := Y.lQ
    have lP := Y.lP
    have hn0 := H.n0
    have hn1 := H.n1
    rw [rdg a (by omega), Option.bind_some]
    refine own_iL (fun c1 => ?_) (fun c1 => ?_)
    rotate_left
    · refine ih _ _ _ _ _ _ _ _ _ _ _ (by omega) (by omega) (by omega) ⟨X, Y, H.L, fun j j0 j1 => H.p j (by omega) j1, H.m, H.a, H.b, hn0, by omega, by rw [s1, H.s]; omega, ?_, ?_, H.o⟩
      · refine own_i0 H.q (fun q => ?_) a (by omega)
        rw [ieq] at q
        omega
      · intro h
        have := h v2 a (by omega)
        rw [ieq] at this
        omega
    rw [rdg a (by omega), Option.bind_some]
    refine own_iL (fun c3 => ?_) (fun c3 => by omega)
    have pF := own_p1 (a := FN) (by omega)
    rw [wrA_in (by omega) (by omega), Option.bind_some, wrA_in (by omega) (by omega), Option.bind_some, wrA_in (by omega) (by omega), Option.bind_some]
    obtain ⟨hsd, hpr⟩ := hst v2 a cc
    have dist : ∀ j : Int32, 0 ≤ j.toInt → j.toInt < LN.toInt → ¬ j.toInt = v2.toInt → ¬ gI LI v2 = gI LI j := by
      intro j j0 j1 ne q
      have := g.d v2 j a cc j0 j1 q
      rw [ieq] at this
      omega
    have rgj : ∀ j : Int32, 0 ≤ j.toInt → j.toInt < 64 → 0 ≤ (gI LI j).toInt := fun j j0 j1 => (own_Rg g.r j0 (by omega)).1
    have un := H.L.u _ rg.1 rg.2 hnl
    have fb := fl _ rg.1 rg.2
    have hm0 := H.L.m _ hm
    generalize hid : gI LI v2 = id at *
    have sub : (gI LR v2 - gI LA v2).toInt = (gI LR v2).toInt - (gI LA v2).toInt := isub_i (by omega) (by omega)
    have add : (gI FL id + gI LA v2).toInt = (gI FL id).toInt + (gI LA v2).toInt := by rw [un.2.1]; exact iadd_i (by omega) (by omega)
    -- the new log
    have gI1 : ∀ k : Int32, 0 ≤ k.toInt → gI (FI.set FN.toInt.toNat id) k = if FN = k then id else gI FI k := fun k h => gset (by omega) (by omega) h
    have gQ1 : ∀ k : Int32, 0 ≤ k.toInt → gI (FQ.set FN.toInt.toNat (gI LA v2)) k = if FN = k then gI LA v2 else gI FQ k := fun k h => gset (by omega) (by omega) h
    have gP1 : ∀ k : Int32, 0 ≤ k.toInt → gI (FP.set FN.toInt.toNat v1) k = if FN = k then v1 else gI FP k := fun k h => gset (by omega) (by omega) h
    have ha' : ∀ k : Int32, 0 ≤ k.toInt → k.toInt < FNs.toInt → gI (FI.set FN.toInt.toNat id) k = gI FIs k ∧ gI (FQ.set FN.toInt.toNat (gI LA v2)) k = gI FQs k ∧ gI (FP.set FN.toInt.toNat v1) k = gI FPs k := by
      intro k k0 k1
      have ne : ¬ FN = k := by rw [ieq]; omega
      rw [gI1 k k0, gQ1 k k0, gP1 k k0, if_neg ne, if_neg ne, if_neg ne]
      exact H.a k k0 k1
    have hb' : ∀ k : Int32, FNs.toInt ≤ k.toInt → k.toInt < (FN + 1).toInt → gI (FP.set FN.toInt.toNat v1) k = v1 := by
      intro k k0 k1
      rw [gP1 k (by omega)]
      by_cases e : FN = k
      · rw [if_pos e]
      · rw [if_neg e]
        rw [ieq] at e
        exact H.b k k0 (by omega)
    have hs' : own_sm (FQ.set FN.toInt.toNat (gI LA v2)) (FN + 1).toInt.toNat = own_sm FQs FNs.toInt.toNat + own_sm LA (v2 + 1).toInt.toNat := by
      rw [own_sm_1 _ (by omega) (by omega), own_sm_s (by omega) (by omega) _ (by omega) (by omega), if_neg (by omega), gQ1 FN (by omega), if_pos rfl, s1, H.s]
      omega
    have hp' : ∀ (RM' RI' : List Int32) (RN' : Int32), (∀ x : Int32, 0 ≤ x.toInt → ¬ id = x → gI RM' x = gI RM x) → (∀ x, own_mem RI RN x → ¬ x = id → own_mem RI' RN' x) → ∀ j : Int32, (v2 + 1).toInt ≤ j.toInt → j.toInt < LN.toInt → own_mem RI' RN' (gI LI j) ∧ gI RM' (gI LI j) = gI LR j ∧ (∀ k : Int32, 0 ≤ k.toInt → k.toInt < (FN + 1).toInt → ¬ gI (FI.set FN.toInt.toNat id) k = gI LI j) := by
      intro RM' RI' RN' h1 h2 j j0 j1
      obtain ⟨q1, q2, q3⟩ := H.p j (by omega) j1
      have dj := dist j (by omega) j1 (by omega)
      refine ⟨h2 _ q1 (fun z => dj z.symm), ?_, ?_⟩
      · rw [h1 _ (rgj j (by omega) (by omega)) dj]; exact q2
      · intro k k0 k1
        rw [gI1 k k0]
        by_cases e : FN = k
        · rw [if_pos e]; exact dj
        · rw [if_neg e]
          rw [ieq] at e
          exact q3 k k0 (by omega)
    unfold f_applyLevel_82
    rw [rdg (by omega) (by omega), Option.bind_some, hr, wrA_in (by omega) (by omega), Option.bind_some, rdg (by omega) (by omega), Option.bind_some, wrA_in (by omega) (by omega), Option.bind_some]
    have lM1 : (RM.set id.toInt.toNat (gI LR v2 - gI LA v2)).length = 256 := by rw [List.length_set]; exact lM
    have gM : ∀ x : Int32, 0 ≤ x.toInt → gI (RM.set id.toInt.toNat (gI LR v2 - gI LA v2)) x = if id = x then gI LR v2 - gI LA v2 else gI RM x := fun x hx => gset (by omega) (by omega) hx
    have gF : ∀ x : Int32, 0 ≤ x.toInt → gI (FL.set id.toInt.toNat (gI FL id + gI LA v2)) x = if id = x then gI FL id + gI LA v2 else gI FL x := fun x hx => gset (by omega) (by omega) hx
    have Y' : own_Y (FL.set id.toInt.toNat (gI FL id + gI LA v2)) (FI.set FN.toInt.toNat id) (FQ.set FN.toInt.toNat (gI LA v2)) (FP.set FN.toInt.toNat v1) (FN + 1) := ⟨by rw [List.length_set]; exact lF, by rw [List.length_set]; exact lI, by rw [List.length_set]; exact lQ, by rw [List.length_set]; exact lP, by omega, by omega⟩
    have ho' : ∀ x : Int32, 0 ≤ x.toInt → x.toInt < 256 → (x.toInt < 1 ∨ acc.toInt < x.toInt) → gI (FL.set id.toInt.toNat (gI FL id + gI LA v2)) x = gI FLs x := by
      intro x x0 x1 hx
      rw [gF x x0, if_neg (fun z => by rw [ieq] at z; omega)]
      exact H.o x x0 x1 hx
    have hF1 : (gI (FL.set id.toInt.toNat (gI FL id + gI LA v2)) id).toInt = (gI FL id).toInt + (gI LA v2).toInt := by rw [gF id (by omega), if_pos rfl]; exact add
    have hF2 : ∀ x : Int32, 0 ≤ x.toInt → ¬ id = x → gI (FL.set id.toInt.toNat (gI FL id + gI LA v2)) x = gI FL x := fun x x0 ne => by rw [gF x x0, if_neg ne]
    rw [rdg (by omega) (by omega), Option.bind_some, gM id (by omega), if_pos rfl]
    refine own_iL (fun c2 => ?_) (fun c2 => ?_)
    · have gM1 : (gI (RM.set id.toInt.toNat (gI LR v2 - gI LA v2)) id).toInt = (gI RM id).toInt - (gI LA v2).toInt := by rw [gM id (by omega), if_pos rfl, hr]; exact sub
      have gM2 : ∀ x : Int32, 0 ≤ x.toInt → ¬ id = x → gI (RM.set id.toInt.toNat (gI LR v2 - gI LA v2)) x = gI RM x := fun x x0 ne => by rw [gM x x0, if_neg ne]
      have st1 := (X.s id rg.1 rg.2).mpr hm
      have pos : 1 ≤ (gI (RM.set id.toInt.toNat (gI LR v2 - gI LA v2)) id).toInt := by rw [gM id (by omega), if_pos rfl]; omega
      refine ih _ _ _ _ _ _ _ _ _ _ _ (by omega) (by omega) (by omega) ⟨⟨X.w, X.a1, lM1, lS, lT, X.s, ?_, X.t⟩, Y', H.L.push lI lQ lP (by omega) (by omega) rg.1 rg.2 hm0 hsd hpr.symm (by omega) hnl gM1 gM2 hF1 hF2 (Or.inl ⟨st1, pos⟩) (fun _ _ _ => rfl) (fun _ h => h) hid0, hp' _ _ _ gM2 (fun x hx _ => hx), H.m, ha', hb', by omega, by omega, hs', ?_, ?_, ho'⟩
      · intro x hx
        have rx := X.rg hx
        rw [gM x (by omega)]
        by_cases e : id = x
        · rw [if_pos e]; omega
        · rw [if_neg e]; exact X.r x hx
      · refine own_i0 H.q (fun q => ?_) a (by omega)
        rw [ieq] at q
        omega
      · intro h
        have := h v2 a (by omega)
        rw [ieq] at this
        omega
    · have eqA : gI LA v2 = gI LR v2 := by rw [ieq]; omega
      rw [wrA_in (by omega) (by omega), Option.bind_some, wrA_in (by omega) (by omega), Option.bind_some, wrA_in (by omega) (by omega), Option.bind_some]
      refine Tot.bind (own_rm X.w id) ?_
      rintro ⟨RI', RN'⟩ ⟨w', hn, hi, hd⟩
      have w'' : own_W RI' RN' acc := w'
      have hi' : ∀ x, own_mem RI' RN' x ↔ own_mem RI RN x ∧ x ≠ id := hi
      have hd' : RN'.toInt = RN.toInt - 1 := hd hm
      have gM0 : ∀ x : Int32, 0 ≤ x.toInt → gI ((RM.set id.toInt.toNat (gI LR v2 - gI LA v2)).set id.toInt.toNat 0) x = if id = x then 0 else gI RM x := by
        intro x hx
        rw [gset (by omega) (by omega) hx]
        by_cases e : id = x
        · rw [if_pos e, if_pos e]
        · rw [if_neg e, if_neg e, gM x hx, if_neg e]
      have gM2 : ∀ x : Int32, 0 ≤ x.toInt → ¬ id = x → gI ((RM.set id.toInt.toNat (gI LR v2 - gI LA v2)).set id.toInt.toNat 0) x = gI RM x := fun x x0 ne => by rw [gM0 x x0, if_neg ne]
      have gS : ∀ x : Int32, 0 ≤ x.toInt → gI (ST.set id.toInt.toNat 2) x = if id = x then 2 else gI ST x := fun x hx => gset (by omega) (by omega) hx
      have gT : ∀ x : Int32, 0 ≤ x.toInt → gI (TP.set id.toInt.toNat 0) x = if id = x then 0 else gI TP x := fun x hx => gset (by omega) (by omega) hx
      have z0 : gI ((RM.set id.toInt.toNat (gI LR v2 - gI LA v2)).set id.toInt.toNat 0) id = 0 := by rw [gM0 id (by omega), if_pos rfl]
      refine ih _ _ _ _ _ _ _ _ _ _ _ (by omega) (by omega) (by omega) ⟨⟨w'', X.a1, by rw [List.length_set]; exact lM1, by rw [List.length_set]; exact lS, by rw [List.length_set]; exact lT, ?_, ?_, ?_⟩, Y', H.L.push lI lQ lP (by omega) (by omega) rg.1 rg.2 hm0 hsd hpr.symm (by omega) hnl (by rw [z0, hr, eqA, e0]; omega) gM2 hF1 hF2 (Or.inr ⟨by rw [gS id (by omega), if_pos rfl], z0⟩) (fun x x0 ne => by rw [gS x x0, if_neg ne]) (fun x hx => ((hi' x).mp hx).1) hid0, hp' _ _ _ gM2 (fun x hx ne => (hi' x).mpr ⟨hx, ne⟩), fun x hx => H.m x ((hi' x).mp hx).1, ha', hb', by omega, by omega, hs', ?_, ?_, ho'⟩
      · intro x x0 x1
        rw [gS x (by omega), hi' x]
        by_cases e : id = x
        · rw [if_pos e]
          constructor
          · intro q; exact absurd q (by decide)
          · rintro ⟨_, q⟩; exact absurd e.symm q
        · rw [if_neg e, X.s x x0 x1]
          exact ⟨fun q => ⟨q, fun z => e z.symm⟩, fun q => q.1⟩
      · intro x hx
        obtain ⟨q1, q2⟩ := (hi' x).mp hx
        have rx := X.rg q1
        rw [gM2 x (by omega) (fun z => q2 z.symm)]
        exact X.r x q1
      · intro x y hx hy hs tx ty
        obtain ⟨q1, q2⟩ := (hi' x).mp hx
        obtain ⟨q3, q4⟩ := (hi' y).mp hy
        have rx := X.rg q1
        have ry := X.rg q3
        rw [gT x (by omega), if_neg (fun z => q2 z.symm)] at tx
        rw [gT y (by omega), if_neg (fun z => q4 z.symm)] at ty
        exact X.t x y q1 q3 hs tx ty
      · refine own_i0 (fun j j0 j1 q => ?_) (fun _ => ?_) a (by omega)
        · exact fun z => H.q j j0 j1 q ((hi' _).mp z).1
        · intro z
          rw [hid] at z
          exact ((hi' _).mp z).2 rfl
      · intro h
        have := H.r (fun j j0 j1 => h j j0 (by omega))
        omega
theorem own_sm_cong {A B : List Int32} {n : Nat} (hn : n ≤ 100000) (h : ∀ k : Int32, 0 ≤ k.toInt → k.toInt < n → gI A k = gI B k) : own_sm A n = own_sm B n := by
  rw [own_ws_sm, own_ws_sm]
  exact own_ws_same n hn (fun x a b => by rw [h x a b])
theorem own_mlL {SD PR RM0 FL0 ST0 RI0 RM FL ST TP RI FI FQ FP LI LR LA : List Int32} {SP : List Int64} {RN0 RN FN acc q v1 v2 : Int32} (ma tc LN : Int32) (sd : SD.length = 256) (pr : PR.length = 256) (sp : SP.length = 256) (X : own_X SD RM ST TP RI RN acc) (Y : own_Y FL FI FQ FP FN) (V : own_V LI LR LA) (L : own_L SD PR RM0 FL0 ST0 RI0 RM FL ST RI FI FQ FP RN0 RN FN acc v1) (q0 : 1 ≤ q.toInt) (q1 : q.toInt ≤ 10000) (ne : ∃ x, own_mem RI RN x ∧ gI SD x = v1 ∧ gI PR x = v2) (cap : FN.toInt + RN.toInt ≤ 64) (gone : ∀ k : Int32, 0 ≤ k.toInt → k.toInt < FN.toInt → ¬ own_mem RI RN (gI FI k)) (fl : ∀ x : Int32, 1 ≤ x.toInt → x.toInt ≤ acc.toInt → 0 ≤ (gI FL0 x).toInt ∧ (gI FL0 x).toInt ≤ 1000000) (hid0 : ∀ x, own_mem RI0 RN0 x → 1 ≤ x.toInt) :
    Tot (f_matchLevel SD PR SP ma tc RM FL ST TP RI FI FQ FP LI LR LA RN FN LN v1 v2 q) (fun (e, RM', FL', ST', TP', RI', FI', FQ', FP', LI', LR', LA', RN', FN', LN') => own_X SD RM' ST' TP' RI' RN' acc ∧ own_Y FL' FI' FQ' FP' FN' ∧ own_V LI' LR' LA' ∧ own_L SD PR RM0 FL0 ST0 RI0 RM' FL' ST' RI' FI' FQ' FP' RN0 RN' FN' acc v1 ∧ (∀ x, own_mem RI' RN' x → own_mem RI RN x) ∧ (∀ k : Int32, 0 ≤ k.toInt → k.toInt < FN.toInt → gI FI' k = gI FI k ∧ gI FQ' k = gI FQ k ∧ gI FP' k = gI FP k) ∧ (∀ k : Int32, FN.toInt ≤ k.toInt → k.toInt < FN'.toInt → gI FP' k = v2) ∧ FN.toInt ≤ FN'.toInt ∧ own_sm FQ' FN'.toInt.toNat = own_sm FQ FN.toInt.toNat + e.toInt ∧ 1 ≤ e.toInt ∧ e.toInt ≤ q.toInt ∧ (∀ x : Int32, 0 ≤ x.toInt → x.toInt < 256 → (x.toInt < 1 ∨ acc.toInt < x.toInt) → gI FL' x = gI FL x) ∧ (e.toInt < q.toInt → FN'.toInt + RN'.toInt = FN.toInt + RN.toInt ∧ RN'.toInt ≤ RN.toInt - 1 ∧ ∀ x, own_mem RI' RN' x → gI SD x = v1 → ¬ gI PR x = v2)) := by
  have e0 : (0 : Int32).toInt = 0 := rfl
  have lM := X.lM
  unfold f_matchLevel
  refine Tot.bind (own_gatX LN X.w sd pr v1 v2 V.r V.lI) ?_
  rintro ⟨LI1, LN1⟩ ⟨g1, hg1⟩
  have hg1' : ∀ x, own_mem LI1 LN1 x ↔ own_mem RI RN x ∧ gI SD x = v1 ∧ gI PR x = v2 := hg1
  have g1' : own_G LI1 LN1 := g1
  refine Tot.bind (own_srtX (LN := LN1) sp g1') ?_
  rintro LI2 ⟨g2, hg2⟩
  have hmem : ∀ x, own_mem LI2 LN1 x ↔ own_mem RI RN x ∧ gI SD x = v1 ∧ gI PR x = v2 := fun x => (hg2 x).trans (hg1' x)
  have n1 := g2.n1
  have n0 := g2.n0
  have gl := g2.l
  have hid : ∀ j : Int32, 0 ≤ j.toInt → j.toInt < LN1.toInt → own_mem RI RN (gI LI2 j) := fun j j0 j1 => ((hmem _).mp ⟨j, j0, j1, rfl⟩).1
  have hst : ∀ j : Int32, 0 ≤ j.toInt → j.toInt < LN1.toInt → gI SD (gI LI2 j) = v1 ∧ gI PR (gI LI2 j) = v2 := fun j j0 j1 => ((hmem _).mp ⟨j, j0, j1, rfl⟩).2
  have lnr := own_GW X.w X.a1 g2 (fun x hx => ((hmem x).mp hx).1)
  have npos : 1 ≤ LN1.toInt := by
    obtain ⟨x, hx⟩ := ne
    obtain ⟨j, j0, j1, _⟩ := (hmem x).mpr hx
    omega
  have key : ∀ (n : Nat) (LR LA : List Int32) (v4 : Int32), 0 ≤ v4.toInt → v4.toInt ≤ LN1.toInt → LN1.toInt - v4.toInt < n → LR.length = 64 → LA.length = 64 → (∀ j : Int32, 0 ≤ j.toInt → j.toInt < v4.toInt → gI LR j = gI RM (gI LI2 j) ∧ gI LA j = 0) →
    Tot (f_matchLevel_13 (f_matchLevel_59 SD PR SP ma tc) SD PR SP ma tc n RM FL ST TP RI FI FQ FP LI2 LR LA RN FN LN1 v2 q v4) (fun (e, RM', FL', ST', TP', RI', FI', FQ', FP', LI', LR', LA', RN', FN', LN') => own_X SD RM' ST' TP' RI' RN' acc ∧ own_Y FL' FI' FQ' FP' FN' ∧ own_V LI' LR' LA' ∧ own_L SD PR RM0 FL0 ST0 RI0 RM' FL' ST' RI' FI' FQ' FP' RN0 RN' FN' acc v1 ∧ (∀ x, own_mem RI' RN' x → own_mem RI RN x) ∧ (∀ k : Int32, 0 ≤ k.toInt → k.toInt < FN.toInt → gI FI' k = gI FI k ∧ gI FQ' k = gI FQ k ∧ gI FP' k = gI FP k) ∧ (∀ k : Int32, FN.toInt ≤ k.toInt → k.toInt < FN'.toInt → gI FP' k = v2) ∧ FN.toInt ≤ FN'.toInt ∧ own_sm FQ' FN'.toInt.toNat = own_sm FQ FN.toInt.toNat + e.toInt ∧ 1 ≤ e.toInt ∧ e.toInt ≤ q.toInt ∧ (∀ x : Int32, 0 ≤ x.toInt → x.toInt < 256 → (x.toInt < 1 ∨ acc.toInt < x.toInt) → gI FL' x = gI FL x) ∧ (e.toInt < q.toInt → FN'.toInt + RN'.toInt = FN.toInt + RN.toInt ∧ RN'.toInt ≤ RN.toInt - 1 ∧ ∀ x, own_mem RI' RN' x → gI SD x = v1 → ¬ gI PR x = v2)) := by
    intro n
    induction n with
    | zero => intro LR LA v4 a b c; omega
    | succ n ih =>
      intro LR LA v4 a b c lR lA hv
      unfold f_matchLevel_13
      refine own_iL (fun c1 => ?_) (fun c1 => ?_)
      · have p := own_p1 (a := v4) (by omega)
        have rg := own_Rg g2.r a (by omega)
        rw [rdg a (by omega), Option.bind_some, rdg rg.1 (by omega), Option.bind_some, wrA_in a (by omega), Option.bind_some, wrA_in a (by omega), Option.bind_some]
        refine ih _ _ _ (by omega) (by omega) (by omega) (by rw [List.length_set]; exact lR) (by rw [List.length_set]; exact lA) ?_
        refine own_i0 (fun j j0 j1 => ?_) ?_ a (by omega)
        · rw [gset a (by omega) j0, gset a (by omega) j0, if_neg (fun z => by rw [ieq] at z; omega), if_neg (fun z => by rw [ieq] at z; omega)]
          exact hv j j0 j1
        · rw [gset a (by omega) a, gset a (by omega) a, if_pos rfl, if_pos rfl]
          exact ⟨rfl, rfl⟩
      · have ev : v4.toInt = LN1.toInt := by omega
        rw [ev] at hv
        have hA : own_A LR LA LN1 := by
          refine ⟨lR, lA, n0, n1, ?_, ?_⟩
          · intro i i0 i1
            rw [(hv i i0 i1).1]
            exact X.r _ (hid i i0 i1)
          · intro i i0 i1
            have r := X.r _ (hid i i0 i1)
            rw [(hv i i0 i1).2, (hv i i0 i1).1, e0]
            omega
        unfold f_matchLevel_59
        refine Tot.bind (own_alX (ma := ma) (tc := tc) X.lT g2 hA (fun i i0 i1 => (hv i i0 i1).2) q0 q1) ?_
        rintro ⟨e, LA1⟩ ⟨hA1, hs, he⟩
        have hA1' : own_A LR LA1 LN1 := hA1
        have hs' : own_sm LA1 LN1.toInt.toNat = e.toInt := hs
        have he' : e.toInt = (if q.toInt < own_sm LR LN1.toInt.toNat then q.toInt else own_sm LR LN1.toInt.toNat) := he
        have sR := own_sm_le (L := LR) (m := LN1.toInt.toNat) (lo := 1) (hi := 10000) (by omega) (fun i i0 i1 => hA.r i i0 (by omega)) LN1.toInt.toNat (by omega)
        have eb : 1 ≤ e.toInt ∧ e.toInt ≤ q.toInt := by rw [he']; split <;> omega
        have f0 := Y.f0
        unfold f_applyLevel
        refine Tot.bind (own_apL (PR := PR) (SD := SD) (RM0 := RM0) (FL0 := FL0) (ST0 := ST0) (RI0 := RI0) (RN0 := RN0) (FIs := FI) (FQs := FQ) (FPs := FP) (RIs := RI) (FLs := FL) (RNs := RN) (FNs := FN) (acc := acc) (opp := v1) g2 hA1' (by omega) f0 hst fl hid0 100000 RM FL ST TP RI FI FQ FP RN FN 0 (by omega) (by omega) (by omega) ⟨X, Y, L, fun j j0 j1 => ⟨hid j (by omega) j1, ((hv j (by omega) j1).1).symm, fun k k0 k1 z => gone k k0 k1 (by rw [z]; exact hid j (by omega) j1)⟩, fun x hx => hx, fun k _ _ => ⟨rfl, rfl, rfl⟩, fun k k0 k1 => by omega, by omega, by omega, by rw [e0]; simp [own_sm], fun j j0 j1 => by omega, fun _ => by omega, fun x _ _ _ => rfl⟩) ?_
        rintro ⟨RM', FL', ST', TP', RI', FI', FQ', FP', RN', FN'⟩ H
        have H' : own_H SD PR RM0 FL0 ST0 RI0 LI2 LR LA1 RM' FL' ST' TP' RI' FI' FQ' FP' FI FQ FP RI FL RN0 RN' FN' acc v1 LN1 v2 LN1 RN FN := H
        have hss := H'.s
        rw [hs'] at hss
        have hn0 := H'.n0
        have hf1 := H'.Y.f1
        refine Tot.mk ⟨H'.X, H'.Y, ⟨g2.r, gl, lR, hA1'.lA⟩, H'.L, H'.m, H'.a, H'.b, hn0, hss, eb.1, eb.2, H'.o, ?_⟩
        intro lt
        have et : own_sm LA1 LN1.toInt.toNat = own_sm LR LN1.toInt.toNat := by
          rw [hs', he']
          rw [he'] at lt
          split at lt
          · omega
          · rw [if_neg (by omega)]
        have eq := own_sm_eq (A := LA1) (B := LR) (m := LN1.toInt.toNat) (by omega) (fun i i0 i1 => (hA1'.a i i0 (by omega)).2) et
        have hr := H'.r (fun j j0 j1 => eq j j0 (by omega))
        have nfn : ¬ FN'.toInt = FN.toInt := by
          intro z
          have := own_sm_cong (A := FQ') (B := FQ) (n := FN.toInt.toNat) (by omega) (fun k k0 k1 => (H'.a k k0 (by omega)).2.1)
          rw [z] at hss
          omega
        refine ⟨hr, ?_, ?_⟩
        · show RN'.toInt ≤ RN.toInt - 1
          omega
        · intro x hx hx1 hx2
          obtain ⟨j, j0, j1, ej⟩ := (hmem x).mpr ⟨H'.m x hx, hx1, hx2⟩
          have := H'.q j j0 j1 (eq j j0 (by omega))
          rw [ej] at this
          exact this hx
  exact key 100000 LR LA 0 (by omega) (by omega) (by omega) V.lR V.lA (fun j j0 j1 => by omega)
abbrev own_E (SD PR RM0 FL0 ST0 RI0 RM FL ST TP RI FI FQ FP : List Int32) (RN0 RN FN acc side price id q : Int32) (Q : Int) : Prop := (own_X SD RM ST TP RI RN acc) ∧ (own_Y FL FI FQ FP FN) ∧ (own_L SD PR RM0 FL0 ST0 RI0 RM FL ST RI FI FQ FP RN0 RN FN acc (1 - side)) ∧ (own_sm FQ FN.toInt.toNat + q.toInt = Q) ∧ ((gI FL id).toInt = own_sm FQ FN.toInt.toNat) ∧ (0 ≤ q.toInt) ∧ (q.toInt ≤ Q) ∧ (0 < q.toInt → FN.toInt + RN.toInt = RN0.toInt) ∧ (0 < q.toInt → ∀ k : Int32, 0 ≤ k.toInt → k.toInt < FN.toInt → ¬ own_mem RI RN (gI FI k)) ∧ (∀ i j : Int32, 0 ≤ i.toInt → i.toInt < j.toInt → j.toInt < FN.toInt → ¬ own_bt (1 - side) (gI FP j) (gI FP i)) ∧ (∀ x, own_mem RI RN x → gI SD x = 1 - side → ∀ k : Int32, 0 ≤ k.toInt → k.toInt < FN.toInt → ¬ own_bt (1 - side) (gI PR x) (gI FP k)) ∧ (∀ k : Int32, 0 ≤ k.toInt → k.toInt < FN.toInt → ¬ own_nc side price (gI FP k)) ∧ (∀ k : Int32, 0 ≤ k.toInt → k.toInt < FN.toInt → ∀ x, own_mem RI RN x → gI SD x = 1 - side → gI PR x = gI FP k → q = 0 ∧ ∀ i : Int32, k.toInt ≤ i.toInt → i.toInt < FN.toInt → gI FP i = gI FP k) ∧ (∀ x : Int32, 0 ≤ x.toInt → x.toInt < 256 → (x.toInt < 1 ∨ id.toInt < x.toInt) → gI FL x = gI FL0 x)
theorem own_E.X {SD PR RM0 FL0 ST0 RI0 RM FL ST TP RI FI FQ FP : List Int32} {RN0 RN FN acc side price id q : Int32} {Q : Int} (self : own_E SD PR RM0 FL0 ST0 RI0 RM FL ST TP RI FI FQ FP RN0 RN FN acc side price id q Q) : own_X SD RM ST TP RI RN acc := self.1
theorem own_E.Y {SD PR RM0 FL0 ST0 RI0 RM FL ST TP RI FI FQ FP : List Int32} {RN0 RN FN acc side price id q : Int32} {Q : Int} (self : own_E SD PR RM0 FL0 ST0 RI0 RM FL ST TP RI FI FQ FP RN0 RN FN acc side price id q Q) : own_Y FL FI FQ FP FN := self.2.1
theorem own_E.L {SD PR RM0 FL0 ST0 RI0 RM FL ST TP RI FI FQ FP : List Int32} {RN0 RN FN acc side price id q : Int32} {Q : Int} (self : own_E SD PR RM0 FL0 ST0 RI0 RM FL ST TP RI FI FQ FP RN0 RN FN acc side price id q Q) : own_L SD PR RM0 FL0 ST0 RI0 RM FL ST RI FI FQ FP RN0 RN FN acc (1 - side) := self.2.2.1
theorem own_E.s {SD PR RM0 FL0 ST0 RI0 RM FL ST TP RI FI FQ FP : List Int32} {RN0 RN FN acc side price id q : Int32} {Q : Int} (self : own_E SD PR RM0 FL0 ST0 RI0 RM FL ST TP RI FI FQ FP RN0 RN FN acc side price id q Q) : own_sm FQ FN.toInt.toNat + q.toInt = Q := self.2.2.2.1
theorem own_E.f {SD PR RM0 FL0 ST0 RI0 RM FL ST TP RI FI FQ FP : List Int32} {RN0 RN FN acc side price id q : Int32} {Q : Int} (self : own_E SD PR RM0 FL0 ST0 RI0 RM FL ST TP RI FI FQ FP RN0 RN FN acc side price id q Q) : (gI FL id).toInt = own_sm FQ FN.toInt.toNat := self.2.2.2.2.1
theorem own_E.q0 {SD PR RM0 FL0 ST0 RI0 RM FL ST TP RI FI FQ FP : List Int32} {RN0 RN FN acc side price id q : Int32} {Q : Int} (self : own_E SD PR RM0 FL0 ST0 RI0 RM FL ST TP RI FI FQ FP RN0 RN FN acc side price id q Q) : 0 ≤ q.toInt := self.2.2.2.2.2.1
theorem own_E.q1 {SD PR RM0 FL0 ST0 RI0 RM FL ST TP RI FI FQ FP : List Int32} {RN0 RN FN acc side price id q : Int32} {Q : Int} (self : own_E SD PR RM0 FL0 ST0 RI0 RM FL ST TP RI FI FQ FP RN0 RN FN acc side price id q Q) : q.toInt ≤ Q := self.2.2.2.2.2.2.1
theorem own_E.c {SD PR RM0 FL0 ST0 RI0 RM FL ST TP RI FI FQ FP : List Int32} {RN0 RN FN acc side price id q : Int32} {Q : Int} (self : own_E SD PR RM0 FL0 ST0 RI0 RM FL ST TP RI FI FQ FP RN0 RN FN acc side price id q Q) : 0 < q.toInt → FN.toInt + RN.toInt = RN0.toInt := self.2.2.2.2.2.2.2.1
theorem own_E.g {SD PR RM0 FL0 ST0 RI0 RM FL ST TP RI FI FQ FP : List Int32} {RN0 RN FN acc side price id q : Int32} {Q : Int} (self : own_E SD PR RM0 FL0 ST0 RI0 RM FL ST TP RI FI FQ FP RN0 RN FN acc side price id q Q) : 0 < q.toInt → ∀ k : Int32, 0 ≤ k.toInt → k.toInt < FN.toInt → ¬ own_mem RI RN (gI FI k) := self.2.2.2.2.2.2.2.2.1
theorem own_E.so {SD PR RM0 FL0 ST0 RI0 RM FL ST TP RI FI FQ FP : List Int32} {RN0 RN FN acc side price id q : Int32} {Q : Int} (self : own_E SD PR RM0 FL0 ST0 RI0 RM FL ST TP RI FI FQ FP RN0 RN FN acc side price id q Q) : ∀ i j : Int32, 0 ≤ i.toInt → i.toInt < j.toInt → j.toInt < FN.toInt → ¬ own_bt (1 - side) (gI FP j) (gI FP i) := self.2.2.2.2.2.2.2.2.2.1
theorem own_E.re {SD PR RM0 FL0 ST0 RI0 RM FL ST TP RI FI FQ FP : List Int32} {RN0 RN FN acc side price id q : Int32} {Q : Int} (self : own_E SD PR RM0 FL0 ST0 RI0 RM FL ST TP RI FI FQ FP RN0 RN FN acc side price id q Q) : ∀ x, own_mem RI RN x → gI SD x = 1 - side → ∀ k : Int32, 0 ≤ k.toInt → k.toInt < FN.toInt → ¬ own_bt (1 - side) (gI PR x) (gI FP k) := self.2.2.2.2.2.2.2.2.2.2.1
theorem own_E.cr {SD PR RM0 FL0 ST0 RI0 RM FL ST TP RI FI FQ FP : List Int32} {RN0 RN FN acc side price id q : Int32} {Q : Int} (self : own_E SD PR RM0 FL0 ST0 RI0 RM FL ST TP RI FI FQ FP RN0 RN FN acc side price id q Q) : ∀ k : Int32, 0 ≤ k.toInt → k.toInt < FN.toInt → ¬ own_nc side price (gI FP k) := self.2.2.2.2.2.2.2.2.2.2.2.1
theorem own_E.lv {SD PR RM0 FL0 ST0 RI0 RM FL ST TP RI FI FQ FP : List Int32} {RN0 RN FN acc side price id q : Int32} {Q : Int} (self : own_E SD PR RM0 FL0 ST0 RI0 RM FL ST TP RI FI FQ FP RN0 RN FN acc side price id q Q) : ∀ k : Int32, 0 ≤ k.toInt → k.toInt < FN.toInt → ∀ x, own_mem RI RN x → gI SD x = 1 - side → gI PR x = gI FP k → q = 0 ∧ ∀ i : Int32, k.toInt ≤ i.toInt → i.toInt < FN.toInt → gI FP i = gI FP k := self.2.2.2.2.2.2.2.2.2.2.2.2.1
theorem own_E.of {SD PR RM0 FL0 ST0 RI0 RM FL ST TP RI FI FQ FP : List Int32} {RN0 RN FN acc side price id q : Int32} {Q : Int} (self : own_E SD PR RM0 FL0 ST0 RI0 RM FL ST TP RI FI FQ FP RN0 RN FN acc side price id q Q) : ∀ x : Int32, 0 ≤ x.toInt → x.toInt < 256 → (x.toInt < 1 ∨ id.toInt < x.toInt) → gI FL x = gI FL0 x := self.2.2.2.2.2.2.2.2.2.2.2.2.2
theorem own_btir (v a : Int32) : ¬ own_bt v a a := by
  unfold own_bt
  split <;> omega
theorem own_miL {SD PR RM0 FL0 ST0 RI0 : List Int32} {SP : List Int64} {ma tc RN0 acc side price id : Int32} {Q : Int} (sd : SD.length = 256) (pr : PR.length = 256) (sp : SP.length = 256) (hside : side = 0 ∨ side = 1) (hid : id.toInt = acc.toInt + 1) (hid1 : id.toInt ≤ 255) (ha : 0 ≤ acc.toInt) (hQ : Q ≤ 10000) (r64 : RN0.toInt ≤ 64) (fl : ∀ x : Int32, 1 ≤ x.toInt → x.toInt ≤ acc.toInt → 0 ≤ (gI FL0 x).toInt ∧ (gI FL0 x).toInt ≤ 1000000) (hid0 : ∀ x, own_mem RI0 RN0 x → 1 ≤ x.toInt) (hidA : ∀ x, own_mem RI0 RN0 x → x.toInt ≤ acc.toInt) (hp : ∀ x, own_mem RI0 RN0 x → 1 ≤ (gI PR x).toInt) : ∀ (n : Nat) (RM FL ST TP RI FI FQ FP LI LR LA : List Int32) (RN FN LN q v7 : Int32), 0 ≤ v7.toInt → v7.toInt ≤ 65 → 66 - v7.toInt ≤ n → own_E SD PR RM0 FL0 ST0 RI0 RM FL ST TP RI FI FQ FP RN0 RN FN acc side price id q Q → own_V LI LR LA → (0 < q.toInt → RN.toInt + v7.toInt ≤ 64) →
    Tot (f_matchIncoming_12 SD PR SP ma tc n RM FL ST TP RI FI FQ FP LI LR LA RN FN LN id side price q (1 - side) v7) (fun (q', RM', FL', ST', TP', RI', FI', FQ', FP', LI', LR', LA', RN', FN', LN') => own_E SD PR RM0 FL0 ST0 RI0 RM' FL' ST' TP' RI' FI' FQ' FP' RN0 RN' FN' acc side price id q' Q ∧ own_V LI' LR' LA' ∧ (0 < q'.toInt → ∀ x, own_mem RI' RN' x → gI SD x = 1 - side → own_nc side price (gI PR x))) := by
  intro n
  have e0 : (0 : Int32).toInt = 0 := rfl
  have e64 : (64 : Int32).toInt = 64 := rfl
  induction n with
  | zero => intro RM FL ST TP RI FI FQ FP LI LR LA RN FN LN q v7 a b c; omega
  | succ n ih =>
    intro RM FL ST TP RI FI FQ FP LI LR LA RN FN LN q v7 a b c E V hrn
    have p7 := own_p1 (a := v7) (by omega)
    have X := E.X
    have Y := E.Y
    have n0 := X.w.n0
    have q0 := E.q0
    have q1 := E.q1
    unfold f_matchIncoming_12 f_crosses
    refine own_iL (fun c1 => ?_) (fun c1 => ?_)
    · refine Tot.mk ⟨E, V, fun hq => ?_⟩
      have hq' : 0 < q.toInt := hq
      have := hrn hq'
      omega
    refine own_iL (fun c5 => ?_) (fun c5 => ?_)
    rotate_left
    · refine Tot.mk ⟨E, V, fun hq => ?_⟩
      have hq' : 0 < q.toInt := hq
      omega
    refine Tot.bind (own_bestX X.w sd pr (fun x hx => hp x (E.L.m x hx)) (1 - side)) ?_
    intro r hb
    refine own_iE (fun z => ?_) (fun z => ?_)
    · rcases hb with ⟨_, hb⟩ | ⟨x, _, _, _, hr, _⟩
      · exact Tot.mk ⟨E, V, fun _ x hx hs => absurd hs (hb x hx)⟩
      · rw [z] at hr; exact absurd hr (by decide)
    rcases hb with ⟨hz, _⟩ | ⟨x, hx1, hx2, hx3, hx4, hx5⟩
    · exact absurd hz z
    refine own_bs ?_
    refine own_iE (fun cz => ?_) (fun cz => ?_)
    · refine Tot.mk ⟨E, V, fun _ y hy hs => ?_⟩
      have nb := hx5 y hy hs
      unfold own_bt at nb
      unfold own_nc
      rcases hside with h | h
      · subst h
        rw [if_pos rfl] at cz ⊢
        rw [if_neg (by decide)] at nb
        by_cases g : price < r
        · rw [ilt] at g; omega
        · rw [if_neg g] at cz; exact absurd cz (by decide)
      · subst h
        rw [if_neg (by decide)] at cz ⊢
        rw [if_pos (by decide)] at nb
        by_cases g : r < price
        · rw [ilt] at g; omega
        · rw [if_neg g] at cz; exact absurd cz (by decide)
    have ncr : ¬ own_nc side price r := by
      intro h
      apply cz
      unfold own_nc at h
      rcases hside with h' | h'
      · subst h'
        rw [if_pos rfl] at h ⊢
        rw [if_pos (by rw [ilt]; exact h)]
      · subst h'
        rw [if_neg (by decide)] at h ⊢
        rw [if_pos (by rw [ilt]; exact h)]
    have hc := E.c (by omega)
    have hg := E.g (by omega)
    refine Tot.bind (own_mlL ma tc LN sd pr sp X Y V E.L (by omega) (by omega) ⟨x, hx1, hx2, hx3⟩ (by omega) hg fl hid0) ?_
    rintro ⟨e, RM', FL', ST', TP', RI', FI', FQ', FP', LI', LR', LA', RN', FN', LN'⟩ ⟨X', Y', V', L', b1, b2, b3, b4, b5, b6, b7, b8, b9⟩
    have X2 : own_X SD RM' ST' TP' RI' RN' acc := X'
    have Y2 : own_Y FL' FI' FQ' FP' FN' := Y'
    have V2 : own_V LI' LR' LA' := V'
    have L2 : own_L SD PR RM0 FL0 ST0 RI0 RM' FL' ST' RI' FI' FQ' FP' RN0 RN' FN' acc (1 - side) := L'
    have d1 : ∀ x, own_mem RI' RN' x → own_mem RI RN x := b1
    have d2 : ∀ k : Int32, 0 ≤ k.toInt → k.toInt < FN.toInt → gI FI' k = gI FI k ∧ gI FQ' k = gI FQ k ∧ gI FP' k = gI FP k := b2
    have d3 : ∀ k : Int32, FN.toInt ≤ k.toInt → k.toInt < FN'.toInt → gI FP' k = r := b3
    have d4 : FN.toInt ≤ FN'.toInt := b4
    have d5 : own_sm FQ' FN'.toInt.toNat = own_sm FQ FN.toInt.toNat + e.toInt := b5
    have d6 : 1 ≤ e.toInt := b6
    have d7 : e.toInt ≤ q.toInt := b7
    have d8 : ∀ x : Int32, 0 ≤ x.toInt → x.toInt < 256 → (x.toInt < 1 ∨ acc.toInt < x.toInt) → gI FL' x = gI FL x := b8
    have d9 : e.toInt < q.toInt → FN'.toInt + RN'.toInt = FN.toInt + RN.toInt ∧ RN'.toInt ≤ RN.toInt - 1 ∧ ∀ x, own_mem RI' RN' x → gI SD x = 1 - side → ¬ gI PR x = r := b9
    have lF' : FL'.length = 256 := Y2.lF
    have sv : (q - e).toInt = q.toInt - e.toInt := isub_i (by omega) (by omega)
    have fid : (gI FL' id).toInt = own_sm FQ FN.toInt.toNat := by rw [d8 id (by omega) (by omega) (by omega)]; exact E.f
    have es := E.s
    have add : (gI FL' id + e).toInt = own_sm FQ FN.toInt.toNat + e.toInt := by rw [iadd_i (by omega) (by omega), fid]
    have gF : ∀ x : Int32, 0 ≤ x.toInt → gI (FL'.set id.toInt.toNat (gI FL' id + e)) x = if id = x then gI FL' id + e else gI FL' x := fun x hx => gset (by omega) (by omega) hx
    refine own_iL (fun _ => ?_) (fun z => absurd z (by omega))
    rw [rdg (by omega) (by omega), Option.bind_some, wrA_in (by omega) (by omega), Option.bind_some]
    have hrq := hrn (by omega)
    have fpn : ∀ k : Int32, 0 ≤ k.toInt → k.toInt < FN'.toInt → gI FP' k = r ∨ (k.toInt < FN.toInt ∧ gI FP' k = gI FP k) := by
      intro k k0 k1
      by_cases g : k.toInt < FN.toInt
      · exact Or.inr ⟨g, (d2 k k0 g).2.2⟩
      · exact Or.inl (d3 k (by omega) k1)
    refine ih RM' _ ST' TP' RI' FI' FQ' FP' LI' LR' LA' RN' FN' LN' (q - e) (v7 + 1) (by omega) (by omega) (by omega) ⟨X2, ⟨by rw [List.length_set]; exact lF', Y2.lI, Y2.lQ, Y2.lP, Y2.f0, Y2.f1⟩, ?_, by rw [sv, d5]; omega, by rw [gF id (by omega), if_pos rfl, add, d5], by omega, by omega, fun hq => by have := d9 (by omega); omega, fun hq k k0 k1 hk => ?_, ?_, ?_, ?_, ?_, ?_⟩ V2 (fun hq => by have := d9 (by omega); omega)
    · have nid : ∀ k : Int32, 0 ≤ k.toInt → k.toInt < FN'.toInt → ¬ id = gI FI' k := by
        intro k k0 k1 z
        have m0 := hidA _ (L2.k k k0 k1).1
        rw [← z] at m0
        omega
      refine ⟨L2.m, fun k k0 k1 => ?_, L2.d, fun x x0 x1 hx => ?_, L2.o⟩
      · obtain ⟨r1, r2, r3, r4, r5, r6, r7⟩ := L2.k k k0 k1
        rw [gF _ (by have := hid0 _ r1; omega), if_neg (nid k k0 k1)]
        exact ⟨r1, r2, r3, r4, r5, r6, r7⟩
      · rw [gF x (by omega), if_neg (fun z => by rw [ieq] at z; omega)]
        exact L2.u x x0 x1 hx
    · have lt : e.toInt < q.toInt := by omega
      rcases fpn k k0 k1 with g | ⟨g, -⟩
      · obtain ⟨-, r2, r3, -⟩ := L2.k k k0 k1
        exact (d9 lt).2.2 _ hk r2 (by rw [← r3]; exact g)
      · rw [(d2 k k0 g).1] at hk
        exact hg k k0 g (d1 _ hk)
    · intro i j i0 ij j1
      rcases fpn j (by omega) j1 with gj | ⟨gj, ej⟩
      · rw [gj]
        rcases fpn i i0 (by omega) with gi | ⟨gi, ei⟩
        · rw [gi]; exact own_btir _ _
        · rw [ei, ← hx3]
          exact E.re x hx1 hx2 i i0 gi
      · rw [ej, (d2 i i0 (by omega)).2.2]
        exact E.so i j i0 ij gj
    · intro y hy hs k k0 k1
      rcases fpn k k0 k1 with g | ⟨g, ek⟩
      · rw [g]; exact hx5 y (d1 y hy) hs
      · rw [ek]; exact E.re y (d1 y hy) hs k k0 g
    · intro k k0 k1
      rcases fpn k k0 k1 with g | ⟨g, ek⟩
      · rw [g]; exact ncr
      · rw [ek]; exact E.cr k k0 g
    · intro k k0 k1 y hy hs hpy
      rcases fpn k k0 k1 with g | ⟨g, ek⟩
      · have nlt : ¬ e.toInt < q.toInt := fun lt => (d9 lt).2.2 y hy hs (by rw [hpy]; exact g)
        refine ⟨by rw [ieq]; omega, fun i i0 i1 => ?_⟩
        by_cases gk : k.toInt < FN.toInt
        · rcases fpn i (by omega) i1 with gi | ⟨gi, ei⟩
          · rw [gi, g]
          · exfalso
            have ek := (d2 k k0 gk).2.2
            have := (E.lv k k0 gk x hx1 hx2 (by rw [hx3, ← ek]; exact g.symm)).1
            rw [this] at c5
            omega
        · rw [d3 i (by omega) i1, g]
      · exfalso
        have := (E.lv k k0 g y (d1 y hy) hs (by rw [hpy, ek])).1
        rw [this] at c5
        omega
    · intro y y0 y1 hy
      rw [gF y y0, if_neg (fun z => by rw [ieq] at z; omega), d8 y y0 y1 (by omega)]
      exact E.of y y0 y1 hy
theorem own_Tand {α : Type} {x : Option α} {P Q : α → Prop} (h : Tot x P) (g : Tot x Q) : Tot x (fun a => P a ∧ Q a) := by
  obtain ⟨a, e, p⟩ := h
  obtain ⟨b, e', q⟩ := g
  rw [e] at e'
  obtain rfl := Option.some.inj e'
  exact ⟨a, e, p, q⟩
def own_fc (RM ST RI RM' ST' RI' : List Int32) (RN RN' id q kind : Int32) : Prop :=
  (q = 0 ∧ RM' = RM.set id.toInt.toNat 0 ∧ ST' = ST.set id.toInt.toNat 2 ∧ RI' = RI ∧ RN' = RN) ∨
  (¬ q = 0 ∧ (kind = 1 ∨ 64 ≤ RN.toInt) ∧ RM' = RM.set id.toInt.toNat 0 ∧ ST' = ST.set id.toInt.toNat 4 ∧ RI' = RI ∧ RN' = RN) ∨
  (¬ q = 0 ∧ ¬ kind = 1 ∧ RN.toInt < 64 ∧ RM' = RM.set id.toInt.toNat q ∧ ST' = ST.set id.toInt.toNat 1 ∧ RI' = RI.set RN.toInt.toNat id ∧ RN' = RN + 1)
theorem own_fiE {SD PR RM ST TP RI : List Int32} {SP : List Int64} {acc RN : Int32} (stamp : Int64) {id side price q kind : Int32} (sd : SD.length = 256) (pr : PR.length = 256) (sp : SP.length = 256) (X : own_X SD RM ST TP RI RN acc) (hid : id.toInt = acc.toInt + 1) (hid1 : id.toInt ≤ 255) (ha : 0 ≤ acc.toInt) :
    Tot (f_finishIncoming SD PR RM ST SP TP RI stamp RN id side price q kind) (fun (RM', ST', SP', TP', RI', stamp', RN') => own_fc RM ST RI RM' ST' RI' RN RN' id q kind) := by
  have e64 : (64 : Int32).toInt = 64 := rfl
  have lM := X.lM
  have lS := X.lS
  have lT := X.lT
  have lI := X.w.l
  have n0 := X.w.n0
  unfold f_finishIncoming
  refine own_iE (fun z => ?_) (fun z => ?_)
  · rw [wrA_in (by omega) (by omega), Option.bind_some, wrA_in (by omega) (by omega), Option.bind_some]
    exact Tot.mk (Or.inl ⟨z, rfl, rfl, rfl, rfl⟩)
  have s35 : (kind = 1 ∨ 64 ≤ RN.toInt) → Tot (f_finishIncoming_35 SD PR RM ST SP TP RI stamp RN id) (fun (RM', ST', SP', TP', RI', stamp', RN') => own_fc RM ST RI RM' ST' RI' RN RN' id q kind) := by
    intro hk
    unfold f_finishIncoming_35
    rw [wrA_in (by omega) (by omega), Option.bind_some, wrA_in (by omega) (by omega), Option.bind_some]
    exact Tot.mk (Or.inr (Or.inl ⟨z, hk, rfl, rfl, rfl, rfl⟩))
  refine own_iE (fun k1 => s35 (Or.inl k1)) (fun k1 => ?_)
  refine own_iL (fun c => ?_) (fun c => s35 (Or.inr (by omega)))
  have s90 : ∀ (TP : List Int32) (v7 : Int32), TP.length = 256 → Tot (f_finishIncoming_90 SD PR RM ST SP TP RI stamp RN id q v7) (fun (RM', ST', SP', TP', RI', stamp', RN') => own_fc RM ST RI RM' ST' RI' RN RN' id q kind) := by
    intro TP v7 lT
    unfold f_finishIncoming_90
    rw [wrA_in (by omega) (by omega), Option.bind_some, wrA_in (by omega) (by omega), Option.bind_some, wrA_in (by omega) (by omega), Option.bind_some, wrA_in (by omega) (by omega), Option.bind_some, wrA_in (by omega) (by omega), Option.bind_some]
    exact Tot.mk (Or.inr (Or.inr ⟨z, k1, by omega, rfl, rfl, rfl, rfl⟩))
  have s78 : ∀ t0 : Int32, Tot (f_finishIncoming_78 SD PR RM ST SP TP RI stamp RN id side q t0) (fun (RM', ST', SP', TP', RI', stamp', RN') => own_fc RM ST RI RM' ST' RI' RN RN' id q kind) := by
    intro t0
    unfold f_finishIncoming_78
    refine own_iE (fun _ => s90 TP t0 lT) (fun _ => ?_)
    refine Tot.bind (own_cfX X.w sd lT side) ?_
    intro T hT
    exact s90 T t0 hT.1
  refine Tot.bind (own_best X.w sd pr side) ?_
  intro r _
  refine own_iE (fun _ => s78 1) (fun _ => ?_)
  unfold f_better
  rw [Option.bind_some]
  exact s78 _
theorem own_subL {SD PR RM FL ST : List Int32} {SP : List Int64} {TP RI FI FQ FP LI LR LA : List Int32} {acc RN FN : Int32} (b : own_Z SD PR RM FL ST SP TP RI FI FQ FP LI LR LA acc RN FN) (fb : ∀ x : Int32, 0 ≤ x.toInt → x.toInt < 256 → 0 ≤ (gI FL x).toInt ∧ (gI FL x).toInt ≤ 1000000) (ma tc LN : Int32) (stamp : Int64) (v1 v2 v3 v4 : Int32) (h1 : v1 = 0 ∨ v1 = 1) (h2 : 1 ≤ v2.toInt) (h2' : v2.toInt ≤ 1000) (h3 : 1 ≤ v3.toInt) (h3' : v3.toInt ≤ 10000) (h4 : v4 = 0 ∨ v4 = 1) (ha : acc.toInt < 255) :
    Tot (f_submit ma tc SD PR RM FL ST SP TP RI FI FQ FP LI LR LA acc stamp RN FN LN v1 v2 v3 v4) (fun (r, SD', PR', RM', FL', ST', SP', TP', RI', FI', FQ', FP', LI', LR', LA', acc', stamp', RN', FN', LN') => r = acc + 1 ∧ acc' = acc + 1 ∧ SD' = SD.set (acc + 1).toInt.toNat v1 ∧ PR' = PR.set (acc + 1).toInt.toNat v2 ∧ ∃ (RMm STm TPm RIm : List Int32) (RNm q : Int32), own_E SD' PR' (RM.set (acc + 1).toInt.toNat 0) (FL.set (acc + 1).toInt.toNat 0) ST RI RMm FL' STm TPm RIm FI' FQ' FP' RN RNm FN' acc v1 v2 (acc + 1) q v3.toInt ∧ (0 < q.toInt → ∀ x, own_mem RIm RNm x → gI SD' x = 1 - v1 → own_nc v1 v2 (gI PR' x)) ∧ own_fc RMm STm RIm RM' ST' RI' RNm RN' (acc + 1) q v4) := by
  obtain ⟨sd, pr, sp, a0, X, Y, V, p1, nc, par, fz⟩ := b
  have p := own_p1 (a := acc) (by omega)
  have e0 : (0 : Int32).toInt = 0 := rfl
  have e1 : (1 : Int32).toInt = 1 := rfl
  have e255 : (255 : Int32).toInt = 255 := rfl
  have e1000 : (1000 : Int32).toInt = 1000 := rfl
  have e10000 : (10000 : Int32).toInt = 10000 := rfl
  have lM := X.lM
  have lS := X.lS
  have lT := X.lT
  have lF := Y.lF
  generalize hid : acc + 1 = id at p
  have key : Tot (f_submit_55 ma tc SD PR RM FL ST SP TP RI FI FQ FP LI LR LA acc stamp RN FN LN v1 v2 v3 v4) (fun (r, SD', PR', RM', FL', ST', SP', TP', RI', FI', FQ', FP', LI', LR', LA', acc', stamp', RN', FN', LN') => r = id ∧ acc' = id ∧ SD' = SD.set id.toInt.toNat v1 ∧ PR' = PR.set id.toInt.toNat v2 ∧ ∃ (RMm STm TPm RIm : List Int32) (RNm q : Int32), own_E SD' PR' (RM.set id.toInt.toNat 0) (FL.set id.toInt.toNat 0) ST RI RMm FL' STm TPm RIm FI' FQ' FP' RN RNm FN' acc v1 v2 id q v3.toInt ∧ (0 < q.toInt → ∀ x, own_mem RIm RNm x → gI SD' x = 1 - v1 → own_nc v1 v2 (gI PR' x)) ∧ own_fc RMm STm RIm RM' ST' RI' RNm RN' id q v4) := by
    unfold f_submit_55
    rw [hid]
    refine own_iL (fun c => ?_) (fun c => absurd c (by omega))
    rw [wrA_in (by omega) (by omega), Option.bind_some, wrA_in (by omega) (by omega), Option.bind_some, wrA_in (by omega) (by omega), Option.bind_some, wrA_in (by omega) (by omega), Option.bind_some, wrA_in (by omega) (by omega), Option.bind_some, wrA_in (by omega) (by omega), Option.bind_some]
    have gD : ∀ x : Int32, 0 ≤ x.toInt → gI (SD.set id.toInt.toNat v1) x = if id = x then v1 else gI SD x := fun x hx => gset (by omega) (by omega) hx
    have gP : ∀ x : Int32, 0 ≤ x.toInt → gI (PR.set id.toInt.toNat v2) x = if id = x then v2 else gI PR x := fun x hx => gset (by omega) (by omega) hx
    have gM : ∀ x : Int32, 0 ≤ x.toInt → gI (RM.set id.toInt.toNat 0) x = if id = x then 0 else gI RM x := fun x hx => gset (by omega) (by omega) hx
    have gT : ∀ x : Int32, 0 ≤ x.toInt → gI (TP.set id.toInt.toNat 0) x = if id = x then 0 else gI TP x := fun x hx => gset (by omega) (by omega) hx
    have gF : ∀ x : Int32, 0 ≤ x.toInt → gI (FL.set id.toInt.toNat 0) x = if id = x then 0 else gI FL x := fun x hx => gset (by omega) (by omega) hx
    have ne : ∀ x : Int32, x.toInt ≤ acc.toInt → ¬ id = x := fun x hx z => by rw [ieq] at z; omega
    have oD : ∀ x, own_mem RI RN x → gI (SD.set id.toInt.toNat v1) x = gI SD x := fun x hx => by have := X.rg hx; rw [gD x (by omega), if_neg (ne x this.2)]
    have oP : ∀ x, own_mem RI RN x → gI (PR.set id.toInt.toNat v2) x = gI PR x := fun x hx => by have := X.rg hx; rw [gP x (by omega), if_neg (ne x this.2)]
    have X1 : own_X (SD.set id.toInt.toNat v1) (RM.set id.toInt.toNat 0) ST (TP.set id.toInt.toNat 0) RI RN acc := by
      refine ⟨X.w, X.a1, by rw [List.length_set]; exact lM, lS, by rw [List.length_set]; exact lT, X.s, ?_, ?_⟩
      · intro x hx
        have := X.rg hx
        rw [gM x (by omega), if_neg (ne x this.2)]
        exact X.r x hx
      · intro x y hx hy hs tx ty
        have rx := X.rg hx
        have ry := X.rg hy
        rw [oD x hx, oD y hy] at hs
        rw [gT x (by omega), if_neg (ne x rx.2)] at tx
        rw [gT y (by omega), if_neg (ne y ry.2)] at ty
        exact X.t x y hx hy hs tx ty
    have hp1 : ∀ x, own_mem RI RN x → 1 ≤ (gI (PR.set id.toInt.toNat v2) x).toInt := fun x hx => by rw [oP x hx]; have r := X.rg hx; exact (p1 x r.1 r.2).1
    have n1 := X.w.n1
    have n0 := X.w.n0
    have sz : own_sm FQ (0 : Int32).toInt.toNat = 0 := rfl
    have E0 : own_E (SD.set id.toInt.toNat v1) (PR.set id.toInt.toNat v2) (RM.set id.toInt.toNat 0) (FL.set id.toInt.toNat 0) ST RI (RM.set id.toInt.toNat 0) (FL.set id.toInt.toNat 0) ST (TP.set id.toInt.toNat 0) RI FI FQ FP RN RN 0 acc v1 v2 id v3 v3.toInt := by
      refine ⟨X1, ⟨by rw [List.length_set]; exact lF, Y.lI, Y.lQ, Y.lP, by omega, by omega⟩, ⟨fun x hx => hx, fun k k0 k1 => by omega, fun i j i0 i1 => by omega, fun x _ _ _ => ⟨rfl, rfl, rfl⟩, fun x _ _ _ => ⟨rfl, rfl⟩⟩, by rw [sz]; omega, by rw [gF id (by omega), if_pos rfl, sz]; rfl, by omega, by omega, fun _ => by omega, fun _ k k0 k1 => by omega, fun i j i0 ij j1 => by omega, fun x _ _ k k0 k1 => by omega, fun k k0 k1 => by omega, fun k k0 k1 => by omega, fun x _ _ _ => rfl⟩
    unfold f_matchIncoming
    refine Tot.bind (own_miL (ma := ma) (tc := tc) (price := v2) (id := id) (by rw [List.length_set]; exact sd) (by rw [List.length_set]; exact pr) (by rw [List.length_set]; exact sp) h1 p (by omega) a0 (by omega) n1 (fun x x0 x1 => ?_) (fun x hx => (X.rg hx).1) (fun x hx => (X.rg hx).2) hp1 100000 _ _ _ _ _ _ _ _ _ _ _ RN 0 LN v3 0 (by omega) (by omega) (by omega) E0 V (fun _ => by omega)) ?_
    · rw [gF x (by omega), if_neg (ne x x1)]
      exact fb x (by omega) (by omega)
    rintro ⟨q, RM2, FL2, ST2, TP2, RI2, FI2, FQ2, FP2, LI2, LR2, LA2, RN2, FN2, LN2⟩ ⟨E2, V2, d6⟩
    refine Tot.bind (own_fiE (kind := v4) (side := v1) (price := v2) (q := q) (id := id) stamp (by rw [List.length_set]; exact sd) (by rw [List.length_set]; exact pr) (by rw [List.length_set]; exact sp) E2.X p (by omega) a0) ?_
    rintro ⟨RM3, ST3, SP3, TP3, RI3, stamp3, RN3⟩ hc
    exact Tot.mk ⟨rfl, rfl, rfl, rfl, RM2, ST2, TP2, RI2, RN2, q, E2, d6, hc⟩
  unfold f_submit f_submit_11
  have k2 : Tot (if v4 = 0 then f_submit_55 ma tc SD PR RM FL ST SP TP RI FI FQ FP LI LR LA acc stamp RN FN LN v1 v2 v3 v4 else if v4 = 1 then f_submit_55 ma tc SD PR RM FL ST SP TP RI FI FQ FP LI LR LA acc stamp RN FN LN v1 v2 v3 v4 else some (-4, SD, PR, RM, FL, ST, SP, TP, RI, FI, FQ, FP, LI, LR, LA, acc, stamp, RN, FN, LN)) (fun (r, SD', PR', RM', FL', ST', SP', TP', RI', FI', FQ', FP', LI', LR', LA', acc', stamp', RN', FN', LN') => r = id ∧ acc' = id ∧ SD' = SD.set id.toInt.toNat v1 ∧ PR' = PR.set id.toInt.toNat v2 ∧ ∃ (RMm STm TPm RIm : List Int32) (RNm q : Int32), own_E SD' PR' (RM.set id.toInt.toNat 0) (FL.set id.toInt.toNat 0) ST RI RMm FL' STm TPm RIm FI' FQ' FP' RN RNm FN' acc v1 v2 id q v3.toInt ∧ (0 < q.toInt → ∀ x, own_mem RIm RNm x → gI SD' x = 1 - v1 → own_nc v1 v2 (gI PR' x)) ∧ own_fc RMm STm RIm RM' ST' RI' RNm RN' id q v4) := by
    refine own_iE (fun _ => key) (fun n0 => own_iE (fun _ => key) (fun n1 => ?_))
    rcases h4 with h | h
    · exact absurd h n0
    · exact absurd h n1
  rw [if_neg (c := v2 < 1) (by rw [ilt]; omega), if_neg (c := 1000 < v2) (by rw [ilt]; omega), if_neg (c := v3 < 1) (by rw [ilt]; omega), if_neg (c := 10000 < v3) (by rw [ilt]; omega)]
  refine own_iE (fun _ => k2) (fun n0 => own_iE (fun _ => k2) (fun n1 => ?_))
  rcases h1 with h | h
  · exact absurd h n0
  · exact absurd h n1
abbrev own_D (PR RM FL ST RI : List Int32) (acc RN : Int32) (B : Int) : Prop := (∀ x : Int32, 1 ≤ x.toInt → x.toInt ≤ acc.toInt → ¬ gI ST x = 0) ∧ (∀ x : Int32, 0 ≤ x.toInt → x.toInt < 256 → ¬ own_mem RI RN x → gI RM x = 0) ∧ (∀ x : Int32, 0 ≤ x.toInt → x.toInt < 256 → 0 ≤ (gI FL x).toInt ∧ (gI FL x).toInt ≤ B) ∧ (∀ x : Int32, 1 ≤ x.toInt → x.toInt ≤ acc.toInt → 100 ≤ (gI PR x).toInt ∧ (gI PR x).toInt ≤ 107)
theorem own_D.st {PR RM FL ST RI : List Int32} {acc RN : Int32} {B : Int} (self : own_D PR RM FL ST RI acc RN B) : ∀ x : Int32, 1 ≤ x.toInt → x.toInt ≤ acc.toInt → ¬ gI ST x = 0 := self.1
theorem own_D.rz {PR RM FL ST RI : List Int32} {acc RN : Int32} {B : Int} (self : own_D PR RM FL ST RI acc RN B) : ∀ x : Int32, 0 ≤ x.toInt → x.toInt < 256 → ¬ own_mem RI RN x → gI RM x = 0 := self.2.1
theorem own_D.fb {PR RM FL ST RI : List Int32} {acc RN : Int32} {B : Int} (self : own_D PR RM FL ST RI acc RN B) : ∀ x : Int32, 0 ≤ x.toInt → x.toInt < 256 → 0 ≤ (gI FL x).toInt ∧ (gI FL x).toInt ≤ B := self.2.2.1
theorem own_D.pp {PR RM FL ST RI : List Int32} {acc RN : Int32} {B : Int} (self : own_D PR RM FL ST RI acc RN B) : ∀ x : Int32, 1 ≤ x.toInt → x.toInt ≤ acc.toInt → 100 ≤ (gI PR x).toInt ∧ (gI PR x).toInt ≤ 107 := self.2.2.2
abbrev own_U (SD PR RM FL ST RI SD' PR' RM' FL' ST' RI' FI FQ FP : List Int32) (RN RN' FN acc side price qty kind id : Int32) (G : Int) : Prop := (0 ≤ FN.toInt) ∧ (FN.toInt ≤ 64) ∧ (∀ k : Int32, 0 ≤ k.toInt → k.toInt < FN.toInt → (1 ≤ (gI FI k).toInt ∧ (gI FI k).toInt ≤ acc.toInt ∧ own_mem RI RN (gI FI k)) ∧ gI SD (gI FI k) = 1 - side ∧ gI FP k = gI PR (gI FI k) ∧ 1 ≤ (gI FQ k).toInt ∧ (gI RM' (gI FI k)).toInt = (gI RM (gI FI k)).toInt - (gI FQ k).toInt ∧ (gI FL' (gI FI k)).toInt = (gI FL (gI FI k)).toInt + (gI FQ k).toInt ∧ ((gI ST' (gI FI k) = 1 ∧ 1 ≤ (gI RM' (gI FI k)).toInt) ∨ (gI ST' (gI FI k) = 2 ∧ gI RM' (gI FI k) = 0))) ∧ (∀ i j : Int32, 0 ≤ i.toInt → i.toInt < FN.toInt → 0 ≤ j.toInt → j.toInt < FN.toInt → gI FI i = gI FI j → i = j) ∧ (∀ x : Int32, 1 ≤ x.toInt → x.toInt ≤ acc.toInt → (∀ k : Int32, 0 ≤ k.toInt → k.toInt < FN.toInt → ¬ gI FI k = x) → gI RM' x = gI RM x ∧ gI FL' x = gI FL x ∧ gI ST' x = gI ST x) ∧ (∀ x : Int32, 0 ≤ x.toInt → x.toInt < 256 → (x.toInt < 1 ∨ id.toInt < x.toInt) → gI RM' x = gI RM x ∧ gI FL' x = gI FL x) ∧ ((gI FL' id).toInt = own_sm FQ FN.toInt.toNat) ∧ (own_sm FQ FN.toInt.toNat ≤ qty.toInt) ∧ (0 ≤ own_sm FQ FN.toInt.toNat) ∧ (∀ i j : Int32, 0 ≤ i.toInt → i.toInt < j.toInt → j.toInt < FN.toInt → ¬ own_bt (1 - side) (gI FP j) (gI FP i)) ∧ (∀ k : Int32, 0 ≤ k.toInt → k.toInt < FN.toInt → ¬ own_nc side price (gI FP k)) ∧ (∀ k : Int32, 0 ≤ k.toInt → k.toInt < FN.toInt → ∀ x, own_mem RI' RN' x → gI SD' x = 1 - side → gI PR' x = gI FP k → own_sm FQ FN.toInt.toNat = qty.toInt ∧ ∀ i : Int32, k.toInt ≤ i.toInt → i.toInt < FN.toInt → gI FP i = gI FP k) ∧ (own_sm FQ FN.toInt.toNat < qty.toInt → ∀ x, own_mem RI' RN' x → gI SD' x = 1 - side → own_nc side price (gI PR' x)) ∧ ((own_sm FQ FN.toInt.toNat = qty.toInt ∧ gI ST' id = 2 ∧ gI RM' id = 0 ∧ RN'.toInt = RN.toInt - G) ∨ (own_sm FQ FN.toInt.toNat < qty.toInt ∧ (kind = 1 ∨ RN.toInt - G = 64) ∧ gI ST' id = 4 ∧ gI RM' id = 0 ∧ RN'.toInt = RN.toInt - G) ∨ (own_sm FQ FN.toInt.toNat < qty.toInt ∧ ¬ kind = 1 ∧ gI ST' id = 1 ∧ (gI RM' id).toInt = qty.toInt - own_sm FQ FN.toInt.toNat ∧ RN'.toInt = RN.toInt - G + 1)) ∧ (G = own_ws (fun k => if gI ST' (gI FI k) = 2 then 1 else 0) FN.toInt.toNat) ∧ (PR' = PR.set id.toInt.toNat price) ∧ (SD' = SD.set id.toInt.toNat side)
theorem own_U.f0 {SD PR RM FL ST RI SD' PR' RM' FL' ST' RI' FI FQ FP : List Int32} {RN RN' FN acc side price qty kind id : Int32} {G : Int} (self : own_U SD PR RM FL ST RI SD' PR' RM' FL' ST' RI' FI FQ FP RN RN' FN acc side price qty kind id G) : 0 ≤ FN.toInt := self.1
theorem own_U.f1 {SD PR RM FL ST RI SD' PR' RM' FL' ST' RI' FI FQ FP : List Int32} {RN RN' FN acc side price qty kind id : Int32} {G : Int} (self : own_U SD PR RM FL ST RI SD' PR' RM' FL' ST' RI' FI FQ FP RN RN' FN acc side price qty kind id G) : FN.toInt ≤ 64 := self.2.1
theorem own_U.k {SD PR RM FL ST RI SD' PR' RM' FL' ST' RI' FI FQ FP : List Int32} {RN RN' FN acc side price qty kind id : Int32} {G : Int} (self : own_U SD PR RM FL ST RI SD' PR' RM' FL' ST' RI' FI FQ FP RN RN' FN acc side price qty kind id G) : ∀ k : Int32, 0 ≤ k.toInt → k.toInt < FN.toInt → (1 ≤ (gI FI k).toInt ∧ (gI FI k).toInt ≤ acc.toInt ∧ own_mem RI RN (gI FI k)) ∧ gI SD (gI FI k) = 1 - side ∧ gI FP k = gI PR (gI FI k) ∧ 1 ≤ (gI FQ k).toInt ∧ (gI RM' (gI FI k)).toInt = (gI RM (gI FI k)).toInt - (gI FQ k).toInt ∧ (gI FL' (gI FI k)).toInt = (gI FL (gI FI k)).toInt + (gI FQ k).toInt ∧ ((gI ST' (gI FI k) = 1 ∧ 1 ≤ (gI RM' (gI FI k)).toInt) ∨ (gI ST' (gI FI k) = 2 ∧ gI RM' (gI FI k) = 0)) := self.2.2.1
theorem own_U.d {SD PR RM FL ST RI SD' PR' RM' FL' ST' RI' FI FQ FP : List Int32} {RN RN' FN acc side price qty kind id : Int32} {G : Int} (self : own_U SD PR RM FL ST RI SD' PR' RM' FL' ST' RI' FI FQ FP RN RN' FN acc side price qty kind id G) : ∀ i j : Int32, 0 ≤ i.toInt → i.toInt < FN.toInt → 0 ≤ j.toInt → j.toInt < FN.toInt → gI FI i = gI FI j → i = j := self.2.2.2.1
theorem own_U.u {SD PR RM FL ST RI SD' PR' RM' FL' ST' RI' FI FQ FP : List Int32} {RN RN' FN acc side price qty kind id : Int32} {G : Int} (self : own_U SD PR RM FL ST RI SD' PR' RM' FL' ST' RI' FI FQ FP RN RN' FN acc side price qty kind id G) : ∀ x : Int32, 1 ≤ x.toInt → x.toInt ≤ acc.toInt → (∀ k : Int32, 0 ≤ k.toInt → k.toInt < FN.toInt → ¬ gI FI k = x) → gI RM' x = gI RM x ∧ gI FL' x = gI FL x ∧ gI ST' x = gI ST x := self.2.2.2.2.1
theorem own_U.o {SD PR RM FL ST RI SD' PR' RM' FL' ST' RI' FI FQ FP : List Int32} {RN RN' FN acc side price qty kind id : Int32} {G : Int} (self : own_U SD PR RM FL ST RI SD' PR' RM' FL' ST' RI' FI FQ FP RN RN' FN acc side price qty kind id G) : ∀ x : Int32, 0 ≤ x.toInt → x.toInt < 256 → (x.toInt < 1 ∨ id.toInt < x.toInt) → gI RM' x = gI RM x ∧ gI FL' x = gI FL x := self.2.2.2.2.2.1
theorem own_U.f {SD PR RM FL ST RI SD' PR' RM' FL' ST' RI' FI FQ FP : List Int32} {RN RN' FN acc side price qty kind id : Int32} {G : Int} (self : own_U SD PR RM FL ST RI SD' PR' RM' FL' ST' RI' FI FQ FP RN RN' FN acc side price qty kind id G) : (gI FL' id).toInt = own_sm FQ FN.toInt.toNat := self.2.2.2.2.2.2.1
theorem own_U.q {SD PR RM FL ST RI SD' PR' RM' FL' ST' RI' FI FQ FP : List Int32} {RN RN' FN acc side price qty kind id : Int32} {G : Int} (self : own_U SD PR RM FL ST RI SD' PR' RM' FL' ST' RI' FI FQ FP RN RN' FN acc side price qty kind id G) : own_sm FQ FN.toInt.toNat ≤ qty.toInt := self.2.2.2.2.2.2.2.1
theorem own_U.q0 {SD PR RM FL ST RI SD' PR' RM' FL' ST' RI' FI FQ FP : List Int32} {RN RN' FN acc side price qty kind id : Int32} {G : Int} (self : own_U SD PR RM FL ST RI SD' PR' RM' FL' ST' RI' FI FQ FP RN RN' FN acc side price qty kind id G) : 0 ≤ own_sm FQ FN.toInt.toNat := self.2.2.2.2.2.2.2.2.1
theorem own_U.so {SD PR RM FL ST RI SD' PR' RM' FL' ST' RI' FI FQ FP : List Int32} {RN RN' FN acc side price qty kind id : Int32} {G : Int} (self : own_U SD PR RM FL ST RI SD' PR' RM' FL' ST' RI' FI FQ FP RN RN' FN acc side price qty kind id G) : ∀ i j : Int32, 0 ≤ i.toInt → i.toInt < j.toInt → j.toInt < FN.toInt → ¬ own_bt (1 - side) (gI FP j) (gI FP i) := self.2.2.2.2.2.2.2.2.2.1
theorem own_U.cr {SD PR RM FL ST RI SD' PR' RM' FL' ST' RI' FI FQ FP : List Int32} {RN RN' FN acc side price qty kind id : Int32} {G : Int} (self : own_U SD PR RM FL ST RI SD' PR' RM' FL' ST' RI' FI FQ FP RN RN' FN acc side price qty kind id G) : ∀ k : Int32, 0 ≤ k.toInt → k.toInt < FN.toInt → ¬ own_nc side price (gI FP k) := self.2.2.2.2.2.2.2.2.2.2.1
theorem own_U.lv {SD PR RM FL ST RI SD' PR' RM' FL' ST' RI' FI FQ FP : List Int32} {RN RN' FN acc side price qty kind id : Int32} {G : Int} (self : own_U SD PR RM FL ST RI SD' PR' RM' FL' ST' RI' FI FQ FP RN RN' FN acc side price qty kind id G) : ∀ k : Int32, 0 ≤ k.toInt → k.toInt < FN.toInt → ∀ x, own_mem RI' RN' x → gI SD' x = 1 - side → gI PR' x = gI FP k → own_sm FQ FN.toInt.toNat = qty.toInt ∧ ∀ i : Int32, k.toInt ≤ i.toInt → i.toInt < FN.toInt → gI FP i = gI FP k := self.2.2.2.2.2.2.2.2.2.2.2.1
theorem own_U.nb {SD PR RM FL ST RI SD' PR' RM' FL' ST' RI' FI FQ FP : List Int32} {RN RN' FN acc side price qty kind id : Int32} {G : Int} (self : own_U SD PR RM FL ST RI SD' PR' RM' FL' ST' RI' FI FQ FP RN RN' FN acc side price qty kind id G) : own_sm FQ FN.toInt.toNat < qty.toInt → ∀ x, own_mem RI' RN' x → gI SD' x = 1 - side → own_nc side price (gI PR' x) := self.2.2.2.2.2.2.2.2.2.2.2.2.1
theorem own_U.e {SD PR RM FL ST RI SD' PR' RM' FL' ST' RI' FI FQ FP : List Int32} {RN RN' FN acc side price qty kind id : Int32} {G : Int} (self : own_U SD PR RM FL ST RI SD' PR' RM' FL' ST' RI' FI FQ FP RN RN' FN acc side price qty kind id G) : (own_sm FQ FN.toInt.toNat = qty.toInt ∧ gI ST' id = 2 ∧ gI RM' id = 0 ∧ RN'.toInt = RN.toInt - G) ∨ (own_sm FQ FN.toInt.toNat < qty.toInt ∧ (kind = 1 ∨ RN.toInt - G = 64) ∧ gI ST' id = 4 ∧ gI RM' id = 0 ∧ RN'.toInt = RN.toInt - G) ∨ (own_sm FQ FN.toInt.toNat < qty.toInt ∧ ¬ kind = 1 ∧ gI ST' id = 1 ∧ (gI RM' id).toInt = qty.toInt - own_sm FQ FN.toInt.toNat ∧ RN'.toInt = RN.toInt - G + 1) := self.2.2.2.2.2.2.2.2.2.2.2.2.2.1
theorem own_U.g {SD PR RM FL ST RI SD' PR' RM' FL' ST' RI' FI FQ FP : List Int32} {RN RN' FN acc side price qty kind id : Int32} {G : Int} (self : own_U SD PR RM FL ST RI SD' PR' RM' FL' ST' RI' FI FQ FP RN RN' FN acc side price qty kind id G) : G = own_ws (fun k => if gI ST' (gI FI k) = 2 then 1 else 0) FN.toInt.toNat := self.2.2.2.2.2.2.2.2.2.2.2.2.2.2.1
theorem own_U.pr {SD PR RM FL ST RI SD' PR' RM' FL' ST' RI' FI FQ FP : List Int32} {RN RN' FN acc side price qty kind id : Int32} {G : Int} (self : own_U SD PR RM FL ST RI SD' PR' RM' FL' ST' RI' FI FQ FP RN RN' FN acc side price qty kind id G) : PR' = PR.set id.toInt.toNat price := self.2.2.2.2.2.2.2.2.2.2.2.2.2.2.2.1
theorem own_U.sd {SD PR RM FL ST RI SD' PR' RM' FL' ST' RI' FI FQ FP : List Int32} {RN RN' FN acc side price qty kind id : Int32} {G : Int} (self : own_U SD PR RM FL ST RI SD' PR' RM' FL' ST' RI' FI FQ FP RN RN' FN acc side price qty kind id G) : SD' = SD.set id.toInt.toNat side := self.2.2.2.2.2.2.2.2.2.2.2.2.2.2.2.2
theorem own_cnt_ws (p : Nat → Bool) : ∀ n : Nat, n ≤ 100000 → (own_cnt p n : Int) = own_ws (fun x => if p x.toInt.toNat then 1 else 0) n := by
  intro n
  induction n with
  | zero => intro _; rfl
  | succ n ih =>
    intro hn
    have e : (Int32.ofNat n).toInt = n := Int32.toInt_ofNat_of_lt (by omega)
    have i := ih (by omega)
    rw [own_cnt, own_ws, ← i, e]
    have : (n : Int).toNat = n := by omega
    rw [this]
    split <;> simp
theorem own_fcx {RM ST RI RM' ST' RI' : List Int32} {RN RN' id q kind : Int32} (lM : RM.length = 256) (lS : ST.length = 256) (i0 : 0 ≤ id.toInt) (i1 : id.toInt < 256) (h : own_fc RM ST RI RM' ST' RI' RN RN' id q kind) : ∀ x : Int32, 0 ≤ x.toInt → ¬ id = x → gI RM' x = gI RM x ∧ gI ST' x = gI ST x := by
  intro x x0 ne
  have z : ∀ L : List Int32, L.length = 256 → ∀ v, gI (L.set id.toInt.toNat v) x = gI L x := fun L l v => by rw [gset i0 (by omega) x0, if_neg ne]
  rcases h with ⟨-, rfl, rfl, -⟩ | ⟨-, -, rfl, rfl, -⟩ | ⟨-, -, -, rfl, rfl, -⟩ <;> exact ⟨z _ lM _, z _ lS _⟩
theorem own_fcm {RM ST RI RM' ST' RI' : List Int32} {RN RN' id q kind acc : Int32} (w : own_W RI RN acc) (h : own_fc RM ST RI RM' ST' RI' RN RN' id q kind) : ∀ x, own_mem RI' RN' x → x = id ∨ own_mem RI RN x := by
  intro x hx
  have n0 := w.n0
  have l := w.l
  rcases h with ⟨-, -, -, rfl, rfl⟩ | ⟨-, -, -, -, rfl, rfl⟩ | ⟨-, -, c, -, -, rfl, rfl⟩
  · exact Or.inr hx
  · exact Or.inr hx
  · obtain ⟨j, j0, j1, ej⟩ := hx
    have p := own_p1 (a := RN) (by omega)
    rw [gset n0 (by omega) j0] at ej
    by_cases e : RN = j
    · rw [if_pos e] at ej
      exact Or.inl ej.symm
    · rw [if_neg e] at ej
      rw [ieq] at e
      exact Or.inr ⟨j, j0, by omega, ej⟩
theorem own_subU {SD PR RM FL ST : List Int32} {SP : List Int64} {TP RI FI FQ FP LI LR LA : List Int32} {acc RN FN : Int32} {B : Int} (b : own_Z SD PR RM FL ST SP TP RI FI FQ FP LI LR LA acc RN FN) (D : own_D PR RM FL ST RI acc RN B) (hB : B ≤ 900000) (ma tc LN : Int32) (stamp : Int64) (v1 v2 v3 v4 : Int32) (h1 : v1 = 0 ∨ v1 = 1) (h2 : 100 ≤ v2.toInt) (h2' : v2.toInt ≤ 107) (h3 : 1 ≤ v3.toInt) (h3' : v3.toInt ≤ 10000) (h4 : v4 = 0 ∨ v4 = 1) (ha : acc.toInt < 255) :
    Tot (f_submit ma tc SD PR RM FL ST SP TP RI FI FQ FP LI LR LA acc stamp RN FN LN v1 v2 v3 v4) (fun (r, SD', PR', RM', FL', ST', SP', TP', RI', FI', FQ', FP', LI', LR', LA', acc', stamp', RN', FN', LN') => r = acc + 1 ∧ acc' = acc + 1 ∧ own_Z SD' PR' RM' FL' ST' SP' TP' RI' FI' FQ' FP' LI' LR' LA' acc' RN' FN' ∧ own_D PR' RM' FL' ST' RI' acc' RN' (B + 10000) ∧ ∃ G : Int, own_U SD PR RM FL ST RI SD' PR' RM' FL' ST' RI' FI' FQ' FP' RN RN' FN' acc v1 v2 v3 v4 (acc + 1) G) := by
  have a0 := b.a0
  have X := b.X
  refine Tot.mono (own_Tand (own_subX b ma tc LN stamp v1 v2 v3 v4 h1 (by omega) (by omega) h3 h3' h4 ha) (own_subL b (fun x x0 x1 => by have := D.fb x x0 x1; omega) ma tc LN stamp v1 v2 v3 v4 h1 (by omega) (by omega) h3 h3' h4 ha)) ?_
  rintro ⟨r, SD', PR', RM', FL', ST', SP', TP', RI', FI', FQ', FP', LI', LR', LA', acc', stamp', RN', FN', LN'⟩ ⟨Z, er, ea, eD, eP, RMm, STm, TPm, RIm, RNm, q, E, hn, hc⟩
  have Z' : own_Z SD' PR' RM' FL' ST' SP' TP' RI' FI' FQ' FP' LI' LR' LA' acc' RN' FN' := Z
  have er' : r = acc + 1 := er
  have ea' : acc' = acc + 1 := ea
  have eD' : SD' = SD.set (acc + 1).toInt.toNat v1 := eD
  have eP' : PR' = PR.set (acc + 1).toInt.toNat v2 := eP
  have p := own_p1 (a := acc) (by omega)
  subst ea'
  have sd := b.sd
  have pr := b.pr
  have lM := X.lM
  have lF := b.Y.lF
  have lMm := E.X.lM
  have lSm := E.X.lS
  have mid : own_fc RMm STm RIm RM' ST' RI' RNm RN' (acc + 1) q v4 := hc
  have fx := own_fcx lMm lSm (by omega) (by omega) mid
  have fm := own_fcm E.X.w mid
  generalize hid : acc + 1 = id at *
  have ne : ∀ x : Int32, x.toInt ≤ acc.toInt → ¬ id = x := fun x hx z => by rw [ieq] at z; omega
  have gD : ∀ x : Int32, 0 ≤ x.toInt → gI SD' x = if id = x then v1 else gI SD x := fun x hx => by rw [eD']; exact gset (by omega) (by omega) hx
  have gP : ∀ x : Int32, 0 ≤ x.toInt → gI PR' x = if id = x then v2 else gI PR x := fun x hx => by rw [eP']; exact gset (by omega) (by omega) hx
  have gM0 : ∀ x : Int32, 0 ≤ x.toInt → gI (RM.set id.toInt.toNat 0) x = if id = x then 0 else gI RM x := fun x hx => gset (by omega) (by omega) hx
  have gF0 : ∀ x : Int32, 0 ≤ x.toInt → gI (FL.set id.toInt.toNat 0) x = if id = x then 0 else gI FL x := fun x hx => gset (by omega) (by omega) hx
  have f0 := E.Y.f0
  have f1 := E.Y.f1
  have Es := E.s
  have Eq0 := E.q0
  have Eq1 := E.q1
  -- the log
  have K : ∀ k : Int32, 0 ≤ k.toInt → k.toInt < FN'.toInt → (1 ≤ (gI FI' k).toInt ∧ (gI FI' k).toInt ≤ acc.toInt ∧ own_mem RI RN (gI FI' k)) ∧ gI SD (gI FI' k) = 1 - v1 ∧ gI FP' k = gI PR (gI FI' k) ∧ 1 ≤ (gI FQ' k).toInt ∧ (gI RM' (gI FI' k)).toInt = (gI RM (gI FI' k)).toInt - (gI FQ' k).toInt ∧ (gI FL' (gI FI' k)).toInt = (gI FL (gI FI' k)).toInt + (gI FQ' k).toInt ∧ ((gI ST' (gI FI' k) = 1 ∧ 1 ≤ (gI RM' (gI FI' k)).toInt) ∨ (gI ST' (gI FI' k) = 2 ∧ gI RM' (gI FI' k) = 0)) := by
    intro k k0 k1
    obtain ⟨r1, r2, r3, r4, r5, r6, r7⟩ := E.L.k k k0 k1
    have rg := X.rg r1
    have nk := ne _ rg.2
    have nn : 0 ≤ (gI FI' k).toInt := by omega
    rw [gD _ nn, if_neg nk] at r2
    rw [gP _ nn, if_neg nk] at r3
    rw [gM0 _ nn, if_neg nk] at r5
    rw [gF0 _ nn, if_neg nk] at r6
    obtain ⟨x1, x2⟩ := fx _ nn nk
    rw [x1, x2]
    exact ⟨⟨rg.1, rg.2, r1⟩, r2, r3, r4, r5, r6, r7⟩
  have Uu : ∀ x : Int32, 1 ≤ x.toInt → x.toInt ≤ acc.toInt → (∀ k : Int32, 0 ≤ k.toInt → k.toInt < FN'.toInt → ¬ gI FI' k = x) → gI RM' x = gI RM x ∧ gI FL' x = gI FL x ∧ gI ST' x = gI ST x := by
    intro x x0 x1 hx
    obtain ⟨r1, r2, r3⟩ := E.L.u x x0 x1 hx
    obtain ⟨y1, y2⟩ := fx x (by omega) (ne x x1)
    rw [gM0 x (by omega), if_neg (ne x x1)] at r1
    rw [gF0 x (by omega), if_neg (ne x x1)] at r2
    exact ⟨by rw [y1, r1], r2, by rw [y2, r3]⟩
  have Uo : ∀ x : Int32, 0 ≤ x.toInt → x.toInt < 256 → (x.toInt < 1 ∨ id.toInt < x.toInt) → gI RM' x = gI RM x ∧ gI FL' x = gI FL x := by
    intro x x0 x1 hx
    have nx : ¬ id = x := by rw [ieq]; omega
    obtain ⟨y1, y2⟩ := fx x x0 nx
    have r1 := (E.L.o x x0 x1 (by omega)).1
    have r2 := E.of x x0 x1 hx
    rw [gM0 x x0, if_neg nx] at r1
    rw [gF0 x x0, if_neg nx] at r2
    exact ⟨by rw [y1, r1], r2⟩
  have qlt : ¬ q = 0 → 0 < q.toInt := by
    intro h
    have e0 : (0 : Int32).toInt = 0 := rfl
    rw [ieq] at h
    omega
  have qz : q = 0 → q.toInt = 0 := by
    intro h
    rw [h]
    rfl
  have sid : gI SD' id = v1 := by rw [gD id (by omega), if_pos rfl]
  have opp : ∀ x, own_mem RI' RN' x → gI SD' x = 1 - v1 → own_mem RIm RNm x := by
    intro x hx hs
    rcases fm x hx with h | h
    · rw [h, sid] at hs
      rcases h1 with h' | h' <;> rw [h'] at hs <;> exact absurd hs (by decide)
    · exact h
  -- how many went
  have cnt0 := own_pq_cnt X
  have cntm := own_pq_cnt E.X
  have G0 : RN.toInt - RNm.toInt = own_ws (fun k => if gI ST' (gI FI' k) = 2 then 1 else 0) FN'.toInt.toNat := by
    rw [← cnt0, ← cntm, own_cnt_ws _ 256 (by omega), own_cnt_ws _ 256 (by omega), ← own_ws_sub]
    rw [own_ws_log (L := FI') FN'.toInt.toNat (by omega) _ (fun k k0 k1 => by have := (K k k0 (by omega)).1; omega) (fun i j i0 i1 j0 j1 => E.L.d i j i0 (by omega) j0 (by omega)) ?_]
    · refine own_ws_same _ (by omega) (fun k k0 k1 => ?_)
      obtain ⟨⟨r0, r1, r2⟩, -, -, -, -, -, r7⟩ := K k k0 (by omega)
      have ox := own_on (x := gI FI' k) (by omega)
      have sx := (X.s _ r0 r1).mpr r2
      have e1 : own_pq ST acc (gI FI' k).toInt.toNat = true := by
        unfold own_pq
        rw [ox, decide_eq_true_eq]
        exact ⟨sx, by omega, by omega⟩
      have ys := (fx _ (by omega) (ne _ r1)).2
      show (if own_pq ST acc (gI FI' k).toInt.toNat = true then (1 : Int) else 0) - (if own_pq STm acc (gI FI' k).toInt.toNat = true then (1 : Int) else 0) = _
      rw [e1, if_pos rfl]
      rcases r7 with ⟨s1, -⟩ | ⟨s1, -⟩
      · have e2 : own_pq STm acc (gI FI' k).toInt.toNat = true := by
          unfold own_pq
          rw [ox, decide_eq_true_eq]
          exact ⟨by rw [← ys]; exact s1, by omega, by omega⟩
        rw [e2, if_pos rfl, if_neg (by rw [s1]; decide)]
        rfl
      · have e2 : own_pq STm acc (gI FI' k).toInt.toNat = false := by
          unfold own_pq
          rw [ox, decide_eq_false_iff_not]
          rintro ⟨z, -⟩
          rw [← ys, s1] at z
          exact absurd z (by decide)
        rw [e2, if_neg (by decide), if_pos s1]
        rfl
    · intro x x0 x1 hx
      show (if own_pq ST acc x.toInt.toNat = true then (1 : Int) else 0) - (if own_pq STm acc x.toInt.toNat = true then (1 : Int) else 0) = 0
      have same : own_pq STm acc x.toInt.toNat = own_pq ST acc x.toInt.toNat := by
        unfold own_pq
        rw [own_on x0, decide_eq_decide]
        by_cases r : 1 ≤ x.toInt.toNat ∧ ((x.toInt.toNat : Nat) : Int) ≤ acc.toInt
        · have := (E.L.u x (by omega) (by omega) (fun k k0 k1 => hx k k0 (by omega))).2.2
          rw [this]
        · constructor
          · rintro ⟨_, h⟩; exact absurd h r
          · rintro ⟨_, h⟩; exact absurd h r
      rw [same]
      omega
  have lI := E.X.w.l
  have n0 := E.X.w.n0
  have n1 := E.X.w.n1
  have zM : ∀ v, gI (RMm.set id.toInt.toNat v) id = v := fun v => by rw [gset (by omega) (by omega) (by omega), if_pos rfl]
  have zS : ∀ v, gI (STm.set id.toInt.toNat v) id = v := fun v => by rw [gset (by omega) (by omega) (by omega), if_pos rfl]
  have U : own_U SD PR RM FL ST RI SD' PR' RM' FL' ST' RI' FI' FQ' FP' RN RN' FN' acc v1 v2 v3 v4 id (RN.toInt - RNm.toInt) := by
    refine ⟨f0, f1, K, E.L.d, Uu, Uo, E.f, by omega, by omega, E.so, E.cr, ?_, ?_, ?_, G0, eP', eD'⟩
    · intro k k0 k1 x hx hs hp
      obtain ⟨y1, y2⟩ := E.lv k k0 k1 x (opp x hx hs) hs hp
      have := qz y1
      exact ⟨by omega, y2⟩
    · intro lt x hx hs
      exact hn (by omega) x (opp x hx hs) hs
    · rcases mid with ⟨z, rfl, rfl, rfl, rfl⟩ | ⟨z, kk, rfl, rfl, rfl, rfl⟩ | ⟨z, kk, c, rfl, rfl, rfl, rfl⟩
      · have := qz z
        exact Or.inl ⟨by omega, zS _, zM _, by omega⟩
      · have := qlt z
        refine Or.inr (Or.inl ⟨by omega, ?_, zS _, zM _, by omega⟩)
        rcases kk with h | h
        · exact Or.inl h
        · exact Or.inr (by omega)
      · have := qlt z
        have pn := own_p1 (a := RNm) (by omega)
        exact Or.inr (Or.inr ⟨by omega, kk, zS _, by rw [zM]; omega, by omega⟩)
  refine ⟨er', rfl, Z', ⟨?_, ?_, ?_, ?_⟩, _, U⟩
  · intro x x0 x1
    by_cases e : id = x
    · subst e
      rcases U.e with ⟨-, h, -⟩ | ⟨-, -, h, -⟩ | ⟨-, -, h, -⟩ <;> rw [h] <;> decide
    · have xa : x.toInt ≤ acc.toInt := by rw [ieq] at e; omega
      by_cases hl : ∃ k : Int32, 0 ≤ k.toInt ∧ k.toInt < FN'.toInt ∧ gI FI' k = x
      · obtain ⟨k, k0, k1, ek⟩ := hl
        obtain ⟨-, -, -, -, -, -, r7⟩ := K k k0 k1
        rw [ek] at r7
        rcases r7 with ⟨h, -⟩ | ⟨h, -⟩ <;> rw [h] <;> decide
      · rw [(Uu x x0 xa (fun k k0 k1 ek => hl ⟨k, k0, k1, ek⟩)).2.2]
        exact D.st x x0 xa
  · intro x x0 x1 hx
    by_cases o : x.toInt < 1 ∨ id.toInt < x.toInt
    · rw [(Uo x x0 x1 o).1]
      refine D.rz x x0 x1 (fun h => ?_)
      have := X.rg h
      omega
    · have sx := Z'.X.s x (by omega) (by omega)
      have ns : ¬ gI ST' x = 1 := fun h => hx (sx.mp h)
      by_cases e : id = x
      · subst e
        rcases U.e with ⟨-, -, h, -⟩ | ⟨-, -, -, h, -⟩ | ⟨-, -, h, -⟩
        · exact h
        · exact h
        · exact absurd h ns
      · have xa : x.toInt ≤ acc.toInt := by rw [ieq] at e; omega
        by_cases hl : ∃ k : Int32, 0 ≤ k.toInt ∧ k.toInt < FN'.toInt ∧ gI FI' k = x
        · obtain ⟨k, k0, k1, ek⟩ := hl
          obtain ⟨-, -, -, -, -, -, r7⟩ := K k k0 k1
          rw [ek] at r7
          rcases r7 with ⟨h, -⟩ | ⟨-, h⟩
          · exact absurd h ns
          · exact h
        · obtain ⟨y1, -, y3⟩ := Uu x (by omega) xa (fun k k0 k1 ek => hl ⟨k, k0, k1, ek⟩)
          rw [y1]
          refine D.rz x x0 x1 (fun h => ?_)
          apply ns
          rw [y3]
          exact (X.s x (by omega) xa).mpr h
  · intro x x0 x1
    by_cases o : x.toInt < 1 ∨ id.toInt < x.toInt
    · rw [(Uo x x0 x1 o).2]
      have := D.fb x x0 x1
      omega
    · by_cases e : id = x
      · subst e
        have bz := D.fb id x0 x1
        rw [U.f]
        have := U.q
        have := U.q0
        omega
      · have xa : x.toInt ≤ acc.toInt := by rw [ieq] at e; omega
        have bz := D.fb x x0 x1
        by_cases hl : ∃ k : Int32, 0 ≤ k.toInt ∧ k.toInt < FN'.toInt ∧ gI FI' k = x
        · obtain ⟨k, k0, k1, ek⟩ := hl
          obtain ⟨⟨-, -, r2⟩, -, -, r4, r5, r6, r7⟩ := K k k0 k1
          have rr := X.r _ r2
          rw [ek] at r5 r6 r7 rr
          have e0 : (0 : Int32).toInt = 0 := rfl
          rcases r7 with ⟨-, h⟩ | ⟨-, h⟩
          · omega
          · rw [h] at r5
            omega
        · obtain ⟨-, y1, -⟩ := Uu x (by omega) xa (fun k k0 k1 ek => hl ⟨k, k0, k1, ek⟩)
          rw [y1]
          omega
  · intro x x0 x1
    rw [gP x (by omega)]
    by_cases e : id = x
    · rw [if_pos e]; omega
    · rw [if_neg e]
      exact D.pp x x0 (by rw [ieq] at e; omega)
theorem own_U.sF {SD PR RM FL ST RI SD' PR' RM' FL' ST' RI' FI FQ FP : List Int32} {RN RN' FN acc side price qty kind id : Int32} {G : Int} (U : own_U SD PR RM FL ST RI SD' PR' RM' FL' ST' RI' FI FQ FP RN RN' FN acc side price qty kind id G) (a0 : 0 ≤ acc.toInt) (hid : id.toInt = acc.toInt + 1) (hid1 : id.toInt ≤ 255) (fz : gI FL id = 0) : own_sm FL' 256 = own_sm FL 256 + 2 * own_sm FQ FN.toInt.toNat := by
  have e0 : (0 : Int32).toInt = 0 := rfl
  have f1 := U.f1
  have k1 := own_ws_one (w := fun x => (gI FL' x).toInt - (gI FL x).toInt) (y := id) (by omega) 256 (by omega)
  rw [own_ws_sub, ← own_ws_sm, ← own_ws_sm, if_pos (by omega), U.f, fz] at k1
  rw [own_ws_log (L := FI) FN.toInt.toNat (by omega) _ (fun k k0 k1 => by have := (U.k k k0 (by omega)).1; omega) (fun i j i0 i1 j0 j1 => U.d i j i0 (by omega) j0 (by omega)) ?_] at k1
  · rw [own_ws_same (u := fun k => (gI FQ k).toInt) FN.toInt.toNat (by omega) ?_, ← own_ws_sm] at k1
    · omega
    · intro k k0 k1
      obtain ⟨⟨r0, r1, -⟩, -, -, -, -, r6, -⟩ := U.k k k0 (by omega)
      show (if gI FI k = id then (0 : Int) else (gI FL' (gI FI k)).toInt - (gI FL (gI FI k)).toInt) = _
      rw [if_neg (fun z => by rw [ieq] at z; omega)]
      omega
  · intro x x0 x1 hx
    show (if x = id then (0 : Int) else (gI FL' x).toInt - (gI FL x).toInt) = _
    by_cases e : x = id
    · rw [if_pos e]
    · rw [if_neg e]
      rw [ieq] at e
      by_cases o : x.toInt < 1 ∨ id.toInt < x.toInt
      · rw [(U.o x x0 x1 o).2]; omega
      · rw [(U.u x (by omega) (by omega) (fun k k0 k1 => hx k k0 (by omega))).2.1]; omega
def own_dm (SD RM : List Int32) (s : Int32) : Int := own_ws (fun x => if gI SD x = s then (gI RM x).toInt else 0) 256
theorem own_U.sM {SD PR RM FL ST RI SD' PR' RM' FL' ST' RI' FI FQ FP : List Int32} {RN RN' FN acc side price qty kind id : Int32} {G : Int} (U : own_U SD PR RM FL ST RI SD' PR' RM' FL' ST' RI' FI FQ FP RN RN' FN acc side price qty kind id G) (a0 : 0 ≤ acc.toInt) (hid : id.toInt = acc.toInt + 1) (hid1 : id.toInt ≤ 255) (lD : SD.length = 256) (h1 : side = 0 ∨ side = 1) (rz : gI RM id = 0) : own_dm SD' RM' (1 - side) = own_dm SD RM (1 - side) - own_sm FQ FN.toInt.toNat ∧ own_dm SD' RM' side = own_dm SD RM side + (gI RM' id).toInt := by
  have e0 : (0 : Int32).toInt = 0 := rfl
  have f1 := U.f1
  have ns : ¬ side = 1 - side := by rcases h1 with h | h <;> rw [h] <;> decide
  have gD : ∀ x : Int32, 0 ≤ x.toInt → gI SD' x = if id = x then side else gI SD x := fun x hx => by rw [U.sd]; exact gset (by omega) (by omega) hx
  have main : ∀ s : Int32, own_dm SD' RM' s - own_dm SD RM s = own_ws (fun k => if gI SD (gI FI k) = s then -(gI FQ k).toInt else 0) FN.toInt.toNat + (if side = s then (gI RM' id).toInt else 0) := by
    intro s
    unfold own_dm
    have k1 := own_ws_one (w := fun x => (if gI SD' x = s then (gI RM' x).toInt else 0) - (if gI SD x = s then (gI RM x).toInt else 0)) (y := id) (by omega) 256 (by omega)
    rw [own_ws_sub, if_pos (by omega), gD id (by omega), if_pos rfl, rz] at k1
    rw [own_ws_log (L := FI) FN.toInt.toNat (by omega) (fun x => if x = id then (0 : Int) else (if gI SD' x = s then (gI RM' x).toInt else 0) - (if gI SD x = s then (gI RM x).toInt else 0)) (fun k k0 k1 => by have := (U.k k k0 (by omega)).1; omega) (fun i j i0 i1 j0 j1 => U.d i j i0 (by omega) j0 (by omega)) ?_] at k1
    · rw [own_ws_same (u := fun k => if gI SD (gI FI k) = s then -(gI FQ k).toInt else 0) FN.toInt.toNat (by omega) ?_] at k1
      · rw [k1]
        split <;> split <;> omega
      · intro k k0 k1
        obtain ⟨⟨r0, r1, -⟩, -, -, -, r5, -⟩ := U.k k k0 (by omega)
        have nk : ¬ id = gI FI k := fun z => by rw [ieq] at z; omega
        show (if gI FI k = id then (0 : Int) else (if gI SD' (gI FI k) = s then (gI RM' (gI FI k)).toInt else 0) - (if gI SD (gI FI k) = s then (gI RM (gI FI k)).toInt else 0)) = _
        rw [if_neg (fun z => nk z.symm), gD _ (by omega), if_neg nk]
        by_cases c : gI SD (gI FI k) = s
        · rw [if_pos c, if_pos c, if_pos c]; omega
        · rw [if_neg c, if_neg c, if_neg c]; omega
    · intro x x0 x1 hx
      show (if x = id then (0 : Int) else (if gI SD' x = s then (gI RM' x).toInt else 0) - (if gI SD x = s then (gI RM x).toInt else 0)) = _
      by_cases e : x = id
      · rw [if_pos e]
      · have e' : ¬ id = x := fun z => e z.symm
        rw [if_neg e, gD x x0, if_neg e']
        rw [ieq] at e
        have : gI RM' x = gI RM x := by
          by_cases o : x.toInt < 1 ∨ id.toInt < x.toInt
          · exact (U.o x x0 x1 o).1
          · exact (U.u x (by omega) (by omega) (fun k k0 k1 => hx k k0 (by omega))).1
        rw [this]
        omega
  constructor
  · have m := main (1 - side)
    rw [if_neg ns] at m
    have : own_ws (fun k => if gI SD (gI FI k) = 1 - side then -(gI FQ k).toInt else 0) FN.toInt.toNat = - own_sm FQ FN.toInt.toNat := by
      rw [own_ws_sm]
      have z := own_ws_sub (fun _ => 0) (fun k => (gI FQ k).toInt) FN.toInt.toNat
      rw [own_ws_0 (w := fun _ => 0) _ (by omega) (fun _ _ _ => rfl)] at z
      rw [own_ws_same (u := fun k => 0 - (gI FQ k).toInt) FN.toInt.toNat (by omega) ?_, z]
      · omega
      · intro k k0 k1
        have r := (U.k k k0 (by omega)).2.1
        show (if gI SD (gI FI k) = 1 - side then -(gI FQ k).toInt else 0) = _
        rw [if_pos r]
        omega
    omega
  · have m := main side
    rw [if_pos rfl] at m
    have : own_ws (fun k => if gI SD (gI FI k) = side then -(gI FQ k).toInt else 0) FN.toInt.toNat = 0 := by
      refine own_ws_0 _ (by omega) (fun k k0 k1 => ?_)
      have r := (U.k k k0 (by omega)).2.1
      show (if gI SD (gI FI k) = side then -(gI FQ k).toInt else 0) = _
      rw [r, if_neg (fun z => ns z.symm)]
    omega
theorem own_stq {ST : List Int32} {acc v : Int32} (l : ST.length = 256) (a1 : acc.toInt ≤ 255) : (1 ≤ v.toInt ∧ v.toInt ≤ acc.toInt ∧ f_status ST acc v = some (gI ST v)) ∨ (¬ (1 ≤ v.toInt ∧ v.toInt ≤ acc.toInt) ∧ f_status ST acc v = some 0) := by
  have e1 : (1 : Int32).toInt = 1 := rfl
  unfold f_status
  by_cases c1 : v < 1
  · rw [if_pos c1]; rw [ilt] at c1; exact Or.inr ⟨by omega, rfl⟩
  · rw [if_neg c1]
    by_cases c2 : acc < v
    · rw [if_pos c2]; rw [ilt] at c2; exact Or.inr ⟨by omega, rfl⟩
    · rw [if_neg c2]
      rw [ilt] at c1 c2
      rw [rdg (by omega) (by omega), Option.bind_some]
      exact Or.inl ⟨by omega, by omega, rfl⟩
theorem own_flq {FL : List Int32} {acc v : Int32} (l : FL.length = 256) (a1 : acc.toInt ≤ 255) (v0 : 0 ≤ v.toInt) (v1 : v.toInt < 256) (fz : ∀ x : Int32, 0 ≤ x.toInt → x.toInt < 256 → (x.toInt < 1 ∨ acc.toInt < x.toInt) → gI FL x = 0) : f_filled FL acc v = some (gI FL v) := by
  have e1 : (1 : Int32).toInt = 1 := rfl
  unfold f_filled
  by_cases c1 : v < 1
  · rw [if_pos c1]; rw [ilt] at c1; rw [fz v v0 v1 (by omega)]
  · rw [if_neg c1]
    by_cases c2 : acc < v
    · rw [if_pos c2]; rw [ilt] at c2; rw [fz v v0 v1 (by omega)]
    · rw [if_neg c2]
      rw [rdg v0 (by omega), Option.bind_some]
theorem own_rmq {SD RM ST TP RI : List Int32} {RN acc v : Int32} (X : own_X SD RM ST TP RI RN acc) (rz : ∀ x : Int32, 0 ≤ x.toInt → x.toInt < 256 → ¬ own_mem RI RN x → gI RM x = 0) (v0 : 0 ≤ v.toInt) (v1 : v.toInt < 256) : f_remaining RM ST acc v = some (gI RM v) := by
  have lM := X.lM
  unfold f_remaining
  rcases own_rst X v with ⟨e, h⟩ | ⟨e, h, -⟩
  · rw [e, Option.bind_some, if_pos rfl, rz v v0 v1 h]
  · rw [e, Option.bind_some, if_neg (by decide), rdg v0 (by omega), Option.bind_some]
theorem own_fq {FI FQ FP : List Int32} {FN k : Int32} (lI : FI.length = 64) (lQ : FQ.length = 64) (lP : FP.length = 64) (f1 : FN.toInt ≤ 64) (k0 : 0 ≤ k.toInt) (k1 : k.toInt < FN.toInt) : f_fillId FI FN k = some (gI FI k) ∧ f_fillQty FQ FN k = some (gI FQ k) ∧ f_fillPrice FP FN k = some (gI FP k) := by
  have e0 : (0 : Int32).toInt = 0 := rfl
  have n0 : ¬ k < 0 := by rw [ilt]; omega
  have n1 : k < FN := by rw [ilt]; omega
  unfold f_fillId f_fillQty f_fillPrice
  rw [if_neg n0, if_neg n0, if_neg n0, if_pos n1, if_pos n1, if_pos n1, rdg k0 (by omega), rdg k0 (by omega), rdg k0 (by omega), Option.bind_some, Option.bind_some, Option.bind_some]
  exact ⟨rfl, rfl, rfl⟩
theorem own_ws_rng {w : Int32 → Int} {m : Nat} {lo hi : Int} (hm : m ≤ 100000) (h : ∀ x : Int32, 0 ≤ x.toInt → x.toInt < m → lo ≤ w x ∧ w x ≤ hi) : ∀ n : Nat, n ≤ m → n * lo ≤ own_ws w n ∧ own_ws w n ≤ n * hi := by
  intro n
  induction n with
  | zero => intro _; simp [own_ws]
  | succ n ih =>
    intro hn
    have i := ih (by omega)
    have e : (Int32.ofNat n).toInt = n := Int32.toInt_ofNat_of_lt (by omega)
    have r := h (Int32.ofNat n) (by omega) (by omega)
    rw [own_ws]
    have e1 : ((n + 1 : Nat) : Int) * lo = n * lo + lo := by rw [show ((n + 1 : Nat) : Int) = (n : Int) + 1 by omega, Int.add_mul, Int.one_mul]
    have e2 : ((n + 1 : Nat) : Int) * hi = n * hi + hi := by rw [show ((n + 1 : Nat) : Int) = (n : Int) + 1 by omega, Int.add_mul, Int.one_mul]
    omega
def own_wd (SD PR RM RI : List Int32) (s p : Int32) (j : Int32) : Int := if gI SD (gI RI j) = s ∧ gI PR (gI RI j) = p then (gI RM (gI RI j)).toInt else 0
theorem own_ws_1 (w : Int32 → Int) {v : Int32} (v0 : 0 ≤ v.toInt) : own_ws w (v.toInt.toNat + 1) = own_ws w v.toInt.toNat + w v := by
  rw [own_ws, own_on v0]
theorem own_dep30 {SD PR RM RI : List Int32} {RN s p : Int32} (sd : SD.length = 256) (pr : PR.length = 256) (lM : RM.length = 256) (lI : RI.length = 64) (n1 : RN.toInt ≤ 64) (W : Int32 → Int) (hr : ∀ j : Int32, 0 ≤ j.toInt → j.toInt < RN.toInt → 0 ≤ (gI RI j).toInt ∧ (gI RI j).toInt < 256 ∧ 0 ≤ (gI RM (gI RI j)).toInt ∧ (gI RM (gI RI j)).toInt ≤ 10000) (h1 : ∀ j : Int32, gI SD (gI RI j) = s → gI PR (gI RI j) = p → W j = (gI RM (gI RI j)).toInt) (h2 : ∀ j : Int32, ¬ (gI SD (gI RI j) = s ∧ gI PR (gI RI j) = p) → W j = 0) : ∀ (n : Nat) (d j : Int32) (y : Int), 0 ≤ j.toInt → j.toInt ≤ RN.toInt → RN.toInt - j.toInt < n → d.toInt = y → y = own_ws W j.toInt.toNat → 0 ≤ y → y ≤ 10000 * j.toInt → ∃ r, f_depthAt_30 SD PR RM RI RN n s p d j = some r ∧ r.toInt = own_ws W RN.toInt.toNat := by
  intro n
  induction n with
  | zero => intro d j y a b c; exfalso; omega
  | succ n ih =>
    intro d j y a b c hd hy y0 y1
    unfold f_depthAt_30
    by_cases g : j < RN
    · have g' := ilt.mp g
      have pj := own_p1 (a := j) (by omega)
      have r := hr j a g'
      have sw : own_ws W (j + 1).toInt.toNat = y + W j := by
        rw [show (j + 1).toInt.toNat = j.toInt.toNat + 1 by omega, own_ws_1 W a, hy]
      clear hy
      rw [if_pos g, rdg a (by omega), Option.bind_some, rdg (by omega) (by omega), Option.bind_some]
      by_cases c1 : gI SD (gI RI j) = s
      · rw [if_pos c1, rdg (by omega) (by omega), Option.bind_some]
        by_cases c2 : gI PR (gI RI j) = p
        · rw [if_pos c2, rdg (by omega) (by omega), Option.bind_some]
          have hw := h1 j c1 c2
          rw [hw] at sw
          exact ih _ _ (y + (gI RM (gI RI j)).toInt) (by omega) (by omega) (by omega) (by rw [iadd_i (by omega) (by omega), hd]) sw.symm (by omega) (by omega)
        · rw [if_neg c2]
          rw [h2 j (fun z => c2 z.2), Int.add_zero] at sw
          exact ih _ _ y (by omega) (by omega) (by omega) hd sw.symm (by omega) (by omega)
      · rw [if_neg c1]
        rw [h2 j (fun z => c1 z.1), Int.add_zero] at sw
        exact ih _ _ y (by omega) (by omega) (by omega) hd sw.symm (by omega) (by omega)
    · rw [if_neg g]
      rw [ilt] at g
      have : j.toInt = RN.toInt := by omega
      rw [this] at hy
      exact ⟨d, rfl, hd.trans hy⟩
theorem own_depX {SD PR RM ST TP RI : List Int32} {RN acc : Int32} (sd : SD.length = 256) (pr : PR.length = 256) (X : own_X SD RM ST TP RI RN acc) {s p : Int32} (hs : s = 0 ∨ s = 1) (p0 : 1 ≤ p.toInt) (p1 : p.toInt ≤ 1000) : ∃ d, f_depthAt SD PR RM RI RN s p = some d ∧ d.toInt = own_ws (own_wd SD PR RM RI s p) RN.toInt.toNat ∧ 0 ≤ d.toInt ∧ d.toInt ≤ 640000 := by
  have n0 := X.w.n0
  have n1 := X.w.n1
  have a1 := X.a1
  have rr : ∀ j : Int32, 0 ≤ j.toInt → j.toInt < RN.toInt → 0 ≤ (gI RI j).toInt ∧ (gI RI j).toInt < 256 ∧ 0 ≤ (gI RM (gI RI j)).toInt ∧ (gI RM (gI RI j)).toInt ≤ 10000 := by
    intro j j0 j1
    have e := X.w.e j j0 j1
    have r := X.r _ ⟨j, j0, j1, rfl⟩
    omega
  have w1 : ∀ j : Int32, gI SD (gI RI j) = s → gI PR (gI RI j) = p → own_wd SD PR RM RI s p j = (gI RM (gI RI j)).toInt := fun j c1 c2 => by unfold own_wd; rw [if_pos ⟨c1, c2⟩]
  have w2 : ∀ j : Int32, ¬ (gI SD (gI RI j) = s ∧ gI PR (gI RI j) = p) → own_wd SD PR RM RI s p j = 0 := fun j c => by unfold own_wd; rw [if_neg c]
  generalize own_wd SD PR RM RI s p = W at *
  obtain ⟨d, ed, hd⟩ := own_dep30 sd pr X.lM X.w.l n1 W rr w1 w2 100000 0 0 0 (by decide) (by have e0 : (0 : Int32).toInt = 0 := rfl; omega) (by have e0 : (0 : Int32).toInt = 0 := rfl; omega) rfl rfl (by omega) (by have e0 : (0 : Int32).toInt = 0 := rfl; omega)
  have rng := own_ws_rng (w := W) (m := RN.toInt.toNat) (lo := 0) (hi := 10000) (by omega) (by
    intro j j0 j1
    have r := rr j j0 (by omega)
    by_cases c : gI SD (gI RI j) = s ∧ gI PR (gI RI j) = p
    · rw [w1 j c.1 c.2]; omega
    · rw [w2 j c]; omega) RN.toInt.toNat (by omega)
  refine ⟨d, ?_, hd, ?_⟩
  · have e1 : (1 : Int32).toInt = 1 := rfl
    have e1000 : (1000 : Int32).toInt = 1000 := rfl
    unfold f_depthAt f_depthAt_11
    rw [if_neg (c := p < 1) (by rw [ilt]; omega), if_neg (c := 1000 < p) (by rw [ilt]; omega)]
    rcases hs with rfl | rfl
    · rw [if_pos rfl]; exact ed
    · rw [if_neg (by decide), if_pos rfl]; exact ed
  · rw [← hd] at rng
    omega
theorem own_dmR {SD RM ST TP RI : List Int32} {RN acc : Int32} (X : own_X SD RM ST TP RI RN acc) (w : Int32 → Int) (hz : ∀ x : Int32, 0 ≤ x.toInt → x.toInt < 256 → ¬ own_mem RI RN x → w x = 0) : own_ws (fun j => w (gI RI j)) RN.toInt.toNat = own_ws w 256 := by
  have n0 := X.w.n0
  have n1 := X.w.n1
  have a1 := X.a1
  refine (own_ws_log (L := RI) RN.toInt.toNat (by omega) w (fun k k0 k1 => ?_) (fun i j i0 i1 j0 j1 h => X.w.d i j i0 (by omega) j0 (by omega) h) (fun x x0 x1 hx => hz x x0 x1 ?_)).symm
  · have := X.w.e k k0 (by omega)
    omega
  · rintro ⟨j, j0, j1, ej⟩
    exact hx j j0 (by omega) ej
theorem own_canE {SD PR RM FL ST : List Int32} {SP : List Int64} {TP RI FI FQ FP LI LR LA : List Int32} {acc RN FN : Int32} {B : Int} (b : own_Z SD PR RM FL ST SP TP RI FI FQ FP LI LR LA acc RN FN) (D : own_D PR RM FL ST RI acc RN B) (v : Int32) :
    (¬ own_mem RI RN v ∧ f_cancel acc RM ST TP RI RN v = some (-6, RM, ST, TP, RI, RN)) ∨ (own_mem RI RN v ∧ ∃ (RM' ST' TP' RI' : List Int32) (RN' : Int32), f_cancel acc RM ST TP RI RN v = some (0, RM', ST', TP', RI', RN') ∧ own_Z SD PR RM' FL ST' SP TP' RI' FI FQ FP LI LR LA acc RN' FN ∧ own_D PR RM' FL ST' RI' acc RN' B ∧ RN'.toInt = RN.toInt - 1 ∧ gI ST' v = 3 ∧ gI RM' v = 0 ∧ ∀ x : Int32, 0 ≤ x.toInt → ¬ v = x → gI RM' x = gI RM x) := by
  have X := b.X
  have a1 := X.a1
  have lM := X.lM
  have lS := X.lS
  have lT := X.lT
  rcases own_rst X v with ⟨e, h⟩ | ⟨e, hm, v0, v1, _⟩
  · left
    refine ⟨h, ?_⟩
    unfold f_cancel
    rw [e, Option.bind_some, if_pos rfl]
  · right
    refine ⟨hm, ?_⟩
    obtain ⟨⟨r, RM', ST', TP', RI', RN'⟩, er, Z⟩ := own_canZ b v
    have Z' : own_Z SD PR RM' FL ST' SP TP' RI' FI FQ FP LI LR LA acc RN' FN := Z
    obtain ⟨⟨RI2, RN2⟩, e2, w2, -, hi, hn⟩ := own_rm X.w v
    have er' := er
    unfold f_cancel at er'
    rw [e, Option.bind_some, if_neg (by decide), wrA_in (by omega) (by omega), Option.bind_some, wrA_in (by omega) (by omega), Option.bind_some, wrA_in (by omega) (by omega), Option.bind_some, e2, Option.bind_some] at er'
    have inj := Option.some.inj er'
    injection inj with i1 i2
    injection i2 with i3 i4
    injection i4 with i5 i6
    injection i6 with i7 i8
    injection i8 with i9 i10
    have hi' : ∀ x, own_mem RI2 RN2 x ↔ own_mem RI RN x ∧ x ≠ v := hi
    have hn' : RN2.toInt = RN.toInt - 1 := hn hm
    subst i1 i3 i5 i7 i9 i10
    have gS : ∀ x : Int32, 0 ≤ x.toInt → gI (ST.set v.toInt.toNat 3) x = if v = x then 3 else gI ST x := fun x hx => gset (by omega) (by omega) hx
    have gM : ∀ x : Int32, 0 ≤ x.toInt → gI (RM.set v.toInt.toNat 0) x = if v = x then 0 else gI RM x := fun x hx => gset (by omega) (by omega) hx
    refine ⟨_, _, _, _, _, er, Z', ⟨?_, ?_, D.fb, D.pp⟩, hn', by rw [gS v (by omega), if_pos rfl], by rw [gM v (by omega), if_pos rfl], fun x x0 ne => by rw [gM x x0, if_neg ne]⟩
    · intro x x0 x1
      rw [gS x (by omega)]
      by_cases e : v = x
      · rw [if_pos e]; decide
      · rw [if_neg e]; exact D.st x x0 x1
    · intro x x0 x1 hx
      rw [gM x x0]
      by_cases e : v = x
      · rw [if_pos e]
      · rw [if_neg e]
        exact D.rz x x0 x1 (fun h => hx ((hi' x).mpr ⟨h, fun z => e z.symm⟩))
theorem own_ameE {SD PR RM FL ST : List Int32} {SP : List Int64} {TP RI FI FQ FP LI LR LA : List Int32} {acc RN FN : Int32} {B : Int} (b : own_Z SD PR RM FL ST SP TP RI FI FQ FP LI LR LA acc RN FN) (D : own_D PR RM FL ST RI acc RN B) (stamp : Int64) (v q : Int32) (q1 : q.toInt ≤ 10000) :
    (¬ own_mem RI RN v ∧ f_amend ST acc RM SP TP stamp v q = some (-6, RM, SP, TP, stamp)) ∨ (own_mem RI RN v ∧ q.toInt < 1 ∧ f_amend ST acc RM SP TP stamp v q = some (-3, RM, SP, TP, stamp)) ∨ (own_mem RI RN v ∧ 1 ≤ q.toInt ∧ ∃ (RM' : List Int32) (SP' : List Int64) (TP' : List Int32) (stamp' : Int64), f_amend ST acc RM SP TP stamp v q = some (0, RM', SP', TP', stamp') ∧ own_Z SD PR RM' FL ST SP' TP' RI FI FQ FP LI LR LA acc RN FN ∧ own_D PR RM' FL ST RI acc RN B ∧ gI RM' v = q ∧ (∀ x : Int32, 0 ≤ x.toInt → ¬ v = x → gI RM' x = gI RM x) ∧ ((gI RM v).toInt < q.toInt → gI TP' v = 0)) := by
  have X := b.X
  have a1 := X.a1
  have lM := X.lM
  have lS := X.lS
  have lT := X.lT
  have sp := b.sp
  have e1 : (1 : Int32).toInt = 1 := rfl
  have e10000 : (10000 : Int32).toInt = 10000 := rfl
  rcases own_rst X v with ⟨e, h⟩ | ⟨e, hm, v0, v1, _⟩
  · left
    refine ⟨h, ?_⟩
    unfold f_amend
    rw [e, Option.bind_some, if_pos rfl]
  · right
    by_cases c : q.toInt < 1
    · left
      refine ⟨hm, c, ?_⟩
      unfold f_amend
      rw [e, Option.bind_some, if_neg (by decide), if_pos (by rw [ilt]; omega)]
    · right
      refine ⟨hm, by omega, ?_⟩
      obtain ⟨⟨r, RM', SP', TP', stamp'⟩, er, Z⟩ := own_ameZ b stamp v q
      have Z' : own_Z SD PR RM' FL ST SP' TP' RI FI FQ FP LI LR LA acc RN FN := Z
      have gM : ∀ x : Int32, 0 ≤ x.toInt → gI (RM.set v.toInt.toNat q) x = if v = x then q else gI RM x := fun x hx => gset (by omega) (by omega) hx
      have dd : ∀ RM'' : List Int32, (∀ x : Int32, 0 ≤ x.toInt → ¬ v = x → gI RM'' x = gI RM x) → own_D PR RM'' FL ST RI acc RN B := by
        intro RM'' h
        refine ⟨D.st, fun x x0 x1 hx => ?_, D.fb, D.pp⟩
        rw [h x x0 (fun z => hx (by rw [← z]; exact hm))]
        exact D.rz x x0 x1 hx
      have er' := er
      unfold f_amend at er'
      rw [e, Option.bind_some, if_neg (by decide), if_neg (by rw [ilt]; omega), if_neg (by rw [ilt]; omega), rdg (by omega) (by omega), Option.bind_some, Option.bind_some, wrA_in (by omega) (by omega), Option.bind_some, Option.bind_some, wrA_in (by omega) (by omega), Option.bind_some, wrA_in (by omega) (by omega), Option.bind_some] at er'
      by_cases c1 : q < gI RM v
      · rw [if_pos c1] at er'
        rw [ilt] at c1
        have inj := Option.some.inj er'
        injection inj with i1 i2
        injection i2 with i3 i4
        injection i4 with i5 i6
        injection i6 with i7 i8
        subst i1 i3 i5 i7 i8
        have o := fun (x : Int32) (x0 : 0 ≤ x.toInt) (ne : ¬ v = x) => (show gI (RM.set v.toInt.toNat q) x = gI RM x by rw [gM x x0, if_neg ne])
        exact ⟨_, _, _, _, er, Z', dd _ o, by rw [gM v (by omega), if_pos rfl], o, fun h => by omega⟩
      · rw [if_neg c1] at er'
        by_cases c2 : gI RM v < q
        · rw [if_pos c2] at er'
          have inj := Option.some.inj er'
          injection inj with i1 i2
          injection i2 with i3 i4
          injection i4 with i5 i6
          injection i6 with i7 i8
          subst i1 i3 i5 i7 i8
          have o := fun (x : Int32) (x0 : 0 ≤ x.toInt) (ne : ¬ v = x) => (show gI (RM.set v.toInt.toNat q) x = gI RM x by rw [gM x x0, if_neg ne])
          exact ⟨_, _, _, _, er, Z', dd _ o, by rw [gM v (by omega), if_pos rfl], o, fun h => by rw [gset (by omega) (by omega) (by omega), if_pos rfl]⟩
        · rw [if_neg c2] at er'
          rw [ilt] at c1 c2
          have inj := Option.some.inj er'
          injection inj with i1 i2
          injection i2 with i3 i4
          injection i4 with i5 i6
          injection i6 with i7 i8
          subst i1 i3 i5 i7 i8
          exact ⟨_, _, _, _, er, Z', dd _ (fun _ _ _ => rfl), by rw [ieq]; omega, fun _ _ _ => rfl, fun h => by omega⟩
theorem own_dmb {SD RM ST TP RI : List Int32} {RN acc : Int32} (X : own_X SD RM ST TP RI RN acc) (rz : ∀ x : Int32, 0 ≤ x.toInt → x.toInt < 256 → ¬ own_mem RI RN x → gI RM x = 0) (s : Int32) : own_ws (fun j => if gI SD (gI RI j) = s then (gI RM (gI RI j)).toInt else 0) RN.toInt.toNat = own_dm SD RM s ∧ 0 ≤ own_dm SD RM s ∧ own_dm SD RM s ≤ 640000 := by
  have e0 : (0 : Int32).toInt = 0 := rfl
  have n0 := X.w.n0
  have n1 := X.w.n1
  have m := own_dmR X (fun x => if gI SD x = s then (gI RM x).toInt else 0) (fun x x0 x1 hx => by rw [rz x x0 x1 hx]; split <;> rfl)
  have m' : own_ws (fun j => if gI SD (gI RI j) = s then (gI RM (gI RI j)).toInt else 0) RN.toInt.toNat = own_dm SD RM s := m
  have r := own_ws_rng (w := fun j => if gI SD (gI RI j) = s then (gI RM (gI RI j)).toInt else 0) (m := RN.toInt.toNat) (lo := 0) (hi := 10000) (by omega) (by
    intro j j0 j1
    have r := X.r _ ⟨j, j0, by omega, rfl⟩
    try dsimp only
    split <;> omega) RN.toInt.toNat (by omega)
  rw [m'] at r
  exact ⟨m', by omega, by omega⟩
theorem own_depL {SD PR RM ST TP RI : List Int32} {RN acc : Int32} (sd : SD.length = 256) (pr : PR.length = 256) (X : own_X SD RM ST TP RI RN acc) (rz : ∀ x : Int32, 0 ≤ x.toInt → x.toInt < 256 → ¬ own_mem RI RN x → gI RM x = 0) (hp : ∀ x : Int32, 1 ≤ x.toInt → x.toInt ≤ acc.toInt → 100 ≤ (gI PR x).toInt ∧ (gI PR x).toInt ≤ 107) {s : Int32} (hs : s = 0 ∨ s = 1) : ∃ d, f_L_depth SD PR RM RI RN s = some d ∧ d.toInt = own_dm SD RM s := by
  have e107 : (107 : Int32).toInt = 107 := rfl
  have e100 : (100 : Int32).toInt = 100 := rfl
  have n0 := X.w.n0
  have n1 := X.w.n1
  obtain ⟨m', -⟩ := own_dmb X rz s
  have hpm : ∀ j : Int32, 0 ≤ j.toInt → j.toInt < RN.toInt → 100 ≤ (gI PR (gI RI j)).toInt ∧ (gI PR (gI RI j)).toInt ≤ 107 := by
    intro j j0 j1
    have r := X.rg (x := gI RI j) ⟨j, j0, j1, rfl⟩
    exact hp _ r.1 r.2
  have rng : ∀ v : Int, 0 ≤ own_ws (fun j => if gI SD (gI RI j) = s ∧ (gI PR (gI RI j)).toInt < v then (gI RM (gI RI j)).toInt else 0) RN.toInt.toNat ∧ own_ws (fun j => if gI SD (gI RI j) = s ∧ (gI PR (gI RI j)).toInt < v then (gI RM (gI RI j)).toInt else 0) RN.toInt.toNat ≤ 640000 := by
    intro v
    have r := own_ws_rng (w := fun j => if gI SD (gI RI j) = s ∧ (gI PR (gI RI j)).toInt < v then (gI RM (gI RI j)).toInt else 0) (m := RN.toInt.toNat) (lo := 0) (hi := 10000) (by omega) (by
      intro j j0 j1
      have r := X.r _ ⟨j, j0, by omega, rfl⟩
      try dsimp only
      split <;> omega) RN.toInt.toNat (by omega)
    omega
  have key : ∀ (n : Nat) (d : Int64) (v : Int32), 100 ≤ v.toInt → v.toInt ≤ 108 → 108 - v.toInt < n → d.toInt = own_ws (fun j => if gI SD (gI RI j) = s ∧ (gI PR (gI RI j)).toInt < v.toInt then (gI RM (gI RI j)).toInt else 0) RN.toInt.toNat → ∃ r, f_L_depth_6 SD PR RM RI RN n s d v = some r ∧ r.toInt = own_dm SD RM s := by
    intro n
    induction n with
    | zero => intro d v a b c; exfalso; omega
    | succ n ih =>
      intro d v a b c hd
      unfold f_L_depth_6
      by_cases g : 107 < v
      · rw [if_pos g]
        rw [ilt] at g
        refine ⟨d, rfl, ?_⟩
        rw [hd, ← m']
        refine own_ws_same _ (by omega) (fun j j0 j1 => ?_)
        have := hpm j j0 (by omega)
        try dsimp only
        by_cases q : gI SD (gI RI j) = s
        · rw [if_pos ⟨q, by omega⟩, if_pos q]
        · rw [if_neg (fun z => q z.1), if_neg q]
      · rw [if_neg g]
        rw [ilt] at g
        obtain ⟨d1, x1, y1, z1⟩ := own_depX sd pr X hs (p := v) (by omega) (by omega)
        have pv := own_p1 (a := v) (by omega)
        have r := rng v.toInt
        have step : own_ws (fun j => if gI SD (gI RI j) = s ∧ (gI PR (gI RI j)).toInt < v.toInt + 1 then (gI RM (gI RI j)).toInt else 0) RN.toInt.toNat = own_ws (fun j => if gI SD (gI RI j) = s ∧ (gI PR (gI RI j)).toInt < v.toInt then (gI RM (gI RI j)).toInt else 0) RN.toInt.toNat + d1.toInt := by
          rw [y1, ← own_ws_add]
          refine own_ws_same _ (by omega) (fun j j0 j1 => ?_)
          unfold own_wd
          try dsimp only
          by_cases q : gI SD (gI RI j) = s
          · by_cases q2 : gI PR (gI RI j) = v
            · rw [if_pos ⟨q, by rw [q2]; omega⟩, if_neg (by rw [q2]; omega), if_pos ⟨q, q2⟩]; omega
            · rw [if_neg (c := gI SD (gI RI j) = s ∧ gI PR (gI RI j) = v) (fun z => q2 z.2)]
              rw [ieq] at q2
              by_cases l : (gI PR (gI RI j)).toInt < v.toInt
              · rw [if_pos ⟨q, by omega⟩, if_pos ⟨q, l⟩]; omega
              · rw [if_neg (fun z => by omega), if_neg (fun z => l z.2)]; omega
          · rw [if_neg (fun z => q z.1), if_neg (fun z => q z.1), if_neg (fun z => q z.1)]; omega
        rw [x1, Option.bind_some]
        clear y1
        generalize own_ws (fun j => if gI SD (gI RI j) = s ∧ (gI PR (gI RI j)).toInt < v.toInt then (gI RM (gI RI j)).toInt else 0) RN.toInt.toNat = A at *
        refine ih _ _ (by omega) (by omega) (by omega) ?_
        rw [pv, step, ladd_i (by rw [Int32.toInt_toInt64]; omega) (by rw [Int32.toInt_toInt64]; omega), Int32.toInt_toInt64, hd]
  unfold f_L_depth
  refine key 100000 0 100 (by decide) (by decide) (by decide) ?_
  rw [e100, own_ws_0 _ (by omega) (fun j j0 j1 => ?_)]
  · rfl
  · have := hpm j j0 (by omega)
    try dsimp only
    rw [if_neg (fun z => by omega)]
theorem own_dms {SD RM RM' : List Int32} {v : Int32} (v0 : 0 ≤ v.toInt) (v1 : v.toInt < 256) (h : ∀ x : Int32, 0 ≤ x.toInt → ¬ v = x → gI RM' x = gI RM x) (s : Int32) : own_dm SD RM' s = own_dm SD RM s + (if gI SD v = s then (gI RM' v).toInt - (gI RM v).toInt else 0) := by
  have k1 := own_ws_one (w := fun x => (if gI SD x = s then (gI RM' x).toInt else 0) - (if gI SD x = s then (gI RM x).toInt else 0)) (y := v) v0 256 (by omega)
  rw [own_ws_sub, if_pos (by omega)] at k1
  have z : own_ws (fun x => if x = v then (0 : Int) else (if gI SD x = s then (gI RM' x).toInt else 0) - (if gI SD x = s then (gI RM x).toInt else 0)) 256 = 0 := by
    refine own_ws_0 256 (by omega) (fun x x0 x1 => ?_)
    try dsimp only
    by_cases e : x = v
    · rw [if_pos e]
    · rw [if_neg e, h x x0 (fun q => e q.symm)]; omega
  rw [z] at k1
  unfold own_dm
  by_cases q : gI SD v = s
  · rw [if_pos q] at k1 ⊢
    rw [if_pos q] at k1
    omega
  · rw [if_neg q] at k1 ⊢
    rw [if_neg q] at k1
    omega
theorem own_640 {scr SD PR RM FL ST : List Int32} {SP : List Int64} {TP RI FI FQ FP LI LR LA : List Int32} {ma tc acc RN FN LN v2 v3 v4 v13 v14 v15 v16 v17 v19 v20 v21 v24 v25 v26 v27 : Int32} {stamp v9 v11 v22 : Int64} (lI : FI.length = 64) (f1 : FN.toInt ≤ 64) (hv : v24.toInt < FN.toInt) (hd : ∀ j : Int32, 0 ≤ j.toInt → j.toInt < v24.toInt → ¬ gI FI j = v25)
    {k : List Int32 → List Int32 → List Int32 → List Int32 → List Int32 → List Int64 → List Int32 → List Int32 → List Int32 → List Int32 → List Int32 → List Int32 → List Int32 → List Int32 → Int32 → Int32 → Int32 → Int64 → Int32 → Int32 → Int32 → Int32 → Int32 → Int32 → Int64 → Int64 → Int32 → Int32 → Int32 → Int32 → Int32 → Int32 → Int32 → Int32 → Int64 → Int32 → Int32 → Int32 → Int32 → Option Int32}
    (hk : k SD PR RM FL ST SP TP RI FI FQ FP LI LR LA ma tc acc stamp RN FN LN v2 v3 v4 v9 v11 v13 v14 v15 v16 v17 v19 v20 v21 v22 v24 v25 v26 v27 = some 1) : ∀ (n : Nat) (j : Int32), 0 ≤ j.toInt → j.toInt ≤ 64 → 65 - j.toInt ≤ n → f_L_law_640 k scr n SD PR RM FL ST SP TP RI FI FQ FP LI LR LA ma tc acc stamp RN FN LN v2 v3 v4 v9 v11 v13 v14 v15 v16 v17 v19 v20 v21 v22 v24 v25 v26 v27 j = some 1 := by
  intro n
  have e0 : (0 : Int32).toInt = 0 := rfl
  induction n with
  | zero => intro j a b c; exfalso; omega
  | succ n ih =>
    intro j a b c
    unfold f_L_law_640
    by_cases g : j < v24
    · have g' := ilt.mp g
      have pj := own_p1 (a := j) (by omega)
      have x1 : f_fillId FI FN j = some (gI FI j) := by
        unfold f_fillId
        rw [if_neg (by rw [ilt]; omega), if_pos (by rw [ilt]; omega), rdg a (by omega), Option.bind_some]
      rw [if_pos g, x1, Option.bind_some, if_neg (hd j a g')]
      exact ih _ (by omega) (by omega) (by omega)
    · rw [if_neg g]
      exact hk
theorem own_522 {scr SD PR RM FL ST : List Int32} {SP : List Int64} {TP RI FI FQ FP LI LR LA : List Int32} {ma tc acc RN FN LN v2 v3 v4 side kind price qty id f : Int32} {stamp v9 v11 : Int64} {SD0 PR0 RM0 FL0 ST0 RI0 : List Int32} {RN0 acc0 : Int32} {G : Int} (U : own_U SD0 PR0 RM0 FL0 ST0 RI0 SD PR RM FL ST RI FI FQ FP RN0 RN FN acc0 side price qty kind id G) (b : own_Z SD PR RM FL ST SP TP RI FI FQ FP LI LR LA acc RN FN) (rz : ∀ x : Int32, 0 ≤ x.toInt → x.toInt < 256 → ¬ own_mem RI RN x → gI RM x = 0) (ha : acc.toInt = acc0.toInt + 1) (hid : id = acc) (pp : ∀ x : Int32, 1 ≤ x.toInt → x.toInt ≤ acc0.toInt → 100 ≤ (gI PR0 x).toInt ∧ (gI PR0 x).toInt ≤ 107) (hs : side = 0 ∨ side = 1) (hq : qty.toInt ≤ 10000) (hf : f.toInt = own_sm FQ FN.toInt.toNat)
    {k : List Int32 → List Int32 → List Int32 → List Int32 → List Int32 → List Int64 → List Int32 → List Int32 → List Int32 → List Int32 → List Int32 → List Int32 → List Int32 → List Int32 → Int32 → Int32 → Int32 → Int64 → Int32 → Int32 → Int32 → Int32 → Int32 → Int32 → Int64 → Int64 → Int32 → Int32 → Int32 → Int32 → Int32 → Int32 → Int32 → Int64 → Option Int32}
    (hk : ∀ s : Int64, s.toInt = own_sm FQ FN.toInt.toNat → k SD PR RM FL ST SP TP RI FI FQ FP LI LR LA ma tc acc stamp RN FN LN v2 v3 v4 v9 v11 side (1 - side) kind price qty id f s = some 1) : ∀ (n : Nat) (s : Int64) (j : Int32), 0 ≤ j.toInt → j.toInt ≤ FN.toInt → FN.toInt - j.toInt < n → s.toInt = own_sm FQ j.toInt.toNat →
    f_L_law_522 k scr n SD PR RM FL ST SP TP RI FI FQ FP LI LR LA ma tc acc stamp RN FN LN v2 v3 v4 v9 v11 side (1 - side) kind price qty id f FN s j = some 1 := by
  intro n
  have e0 : (0 : Int32).toInt = 0 := rfl
  have e1 : (1 : Int32).toInt = 1 := rfl
  have f0 := U.f0
  have f1 := U.f1
  have X := b.X
  have a1 := X.a1
  have lI := b.Y.lI
  have lQ := b.Y.lQ
  have lP := b.Y.lP
  have sQ : ∀ i : Nat, (i : Int) ≤ FN.toInt → 0 ≤ own_sm FQ i ∧ own_sm FQ i ≤ own_sm FQ FN.toInt.toNat := by
    intro i hi
    have pos : ∀ m : Nat, ((i + m : Nat) : Int) ≤ FN.toInt → own_sm FQ i ≤ own_sm FQ (i + m) := by
      intro m
      induction m with
      | zero => intro _; exact Int.le_refl _
      | succ m ih =>
        intro hm
        have e : (Int32.ofNat (i + m)).toInt = ((i + m : Nat) : Int) := Int32.toInt_ofNat_of_lt (by omega)
        have r := (U.k (Int32.ofNat (i + m)) (by omega) (by omega)).2.2.2.1
        have i' := ih (by omega)
        rw [← Nat.add_assoc, own_sm]
        omega
    have p2 := pos (FN.toInt.toNat - i) (by omega)
    rw [show i + (FN.toInt.toNat - i) = FN.toInt.toNat by omega] at p2
    refine ⟨?_, p2⟩
    rw [own_ws_sm]
    have := own_ws_rng (w := fun x => (gI FQ x).toInt) (m := i) (lo := 0) (hi := 2147483647) (by omega) (fun x x0 x1 => by have r := (U.k x x0 (by omega)).2.2.2.1; have := Int32.toInt_lt (gI FQ x); omega) i (by omega)
    omega
  have uq := U.q
  induction n with
  | zero => intro s j a b c; exfalso; omega
  | succ n ih =>
    intro s j a bb c h22
    unfold f_L_law_522
    by_cases cc : j < FN
    rotate_left
    · rw [if_neg cc]
      rw [ilt] at cc
      have ej : j.toInt = FN.toInt := by omega
      rw [ej] at h22
      exact hk s h22
    have cc' := ilt.mp cc
    obtain ⟨x1, x2, x3⟩ := own_fq lI lQ lP f1 a cc'
    obtain ⟨⟨r0, r1, -⟩, -, r3, r4, -, -, r7⟩ := U.k j a cc'
    have pq := pp _ r0 r1
    rw [← r3] at pq
    have cr := U.cr j a cc'
    have pj := own_p1 (a := j) (by omega)
    have mj := own_m1 (a := j) (by omega)
    have mF := own_m1 (a := FN) (by omega)
    have st : f_status ST acc (gI FI j) = some (gI ST (gI FI j)) := by
      rcases own_stq X.lS a1 (v := gI FI j) with ⟨-, -, h⟩ | ⟨h, -⟩
      · exact h
      · exact absurd ⟨by omega, by omega⟩ h
    have mq := own_rmq (v := gI FI j) X rz (by omega) (by omega)
    have sj := sQ (j + 1).toInt.toNat (by omega)
    have sj0 := sQ j.toInt.toNat (by omega)
    have s1 := own_sm_1 FQ a (by omega)
    have next : f_L_law_763 (f_L_law_522 k scr n) k scr SD PR RM FL ST SP TP RI FI FQ FP LI LR LA ma tc acc stamp RN FN LN v2 v3 v4 v9 v11 side (1 - side) kind price qty id f FN s j (gI FQ j) = some 1 := by
      unfold f_L_law_763
      refine ih _ _ (by omega) (by omega) (by omega) ?_
      rw [s1, ladd_i (by rw [Int32.toInt_toInt64]; omega) (by rw [Int32.toInt_toInt64]; omega), Int32.toInt_toInt64, h22]
    have hopp : 1 - side = 0 ∨ 1 - side = 1 := by rcases hs with h | h <;> rw [h] <;> decide
    have n727 : ∀ t0 : Int32, (¬ t0 = 0 → ¬ j = FN - 1 → ¬ gI FP (j + 1) = gI FP j) → f_L_law_727 (f_L_law_522 k scr n) k scr SD PR RM FL ST SP TP RI FI FQ FP LI LR LA ma tc acc stamp RN FN LN v2 v3 v4 v9 v11 side (1 - side) kind price qty id f FN s j (gI FQ j) (gI FP j) t0 = some 1 := by
      intro t0 h0
      unfold f_L_law_727
      by_cases z : t0 = 0
      · rw [if_pos z]; exact next
      · rw [if_neg z]
        obtain ⟨d, xd, yd, -⟩ := own_depX b.sd b.pr X hopp (p := gI FP j) (by omega) (by omega)
        rw [xd, Option.bind_some]
        by_cases dz : d = 0
        · rw [if_pos dz]; exact next
        · rw [if_neg dz]
          -- some order rests there still
          have n0 := X.w.n0
          have n1 := X.w.n1
          have ex : ∃ i : Int32, 0 ≤ i.toInt ∧ i.toInt < RN.toInt ∧ gI SD (gI RI i) = 1 - side ∧ gI PR (gI RI i) = gI FP j := by
            by_cases q : ∃ i : Int32, 0 ≤ i.toInt ∧ i.toInt < RN.toInt ∧ gI SD (gI RI i) = 1 - side ∧ gI PR (gI RI i) = gI FP j
            · exact q
            · exfalso
              apply dz
              rw [ieq, yd, e0]
              refine own_ws_0 _ (by omega) (fun i i0 i1 => ?_)
              unfold own_wd
              rw [if_neg (fun w => q ⟨i, i0, by omega, w.1, w.2⟩)]
          obtain ⟨i, i0, i1, w1, w2⟩ := ex
          obtain ⟨y1, y2⟩ := U.lv j a cc' (gI RI i) ⟨i, i0, i1, rfl⟩ w1 w2
          have last : j = FN - 1 := by
            by_cases q : j = FN - 1
            · exact q
            · exfalso
              have q' := q
              rw [ieq] at q'
              exact h0 z q (y2 (j + 1) (by omega) (by omega))
          rw [if_pos last, if_pos (by rw [ieq]; omega)]
          exact next
    have n700 : f_L_law_700 (f_L_law_522 k scr n) k scr SD PR RM FL ST SP TP RI FI FQ FP LI LR LA ma tc acc stamp RN FN LN v2 v3 v4 v9 v11 side (1 - side) kind price qty id f FN s j (gI FQ j) (gI FP j) = some 1 := by
      unfold f_L_law_700
      by_cases z : j = FN - 1
      · rw [if_pos z]
        exact n727 1 (fun _ h => absurd z h)
      · rw [if_neg z]
        have z' := z
        rw [ieq] at z'
        obtain ⟨-, -, x4⟩ := own_fq lI lQ lP f1 (k := j + 1) (by omega) (by omega)
        rw [x4, Option.bind_some]
        by_cases w : gI FP (j + 1) = gI FP j
        · rw [if_pos w]
          exact n727 0 (fun h => absurd rfl h)
        · rw [if_neg w]
          exact n727 1 (fun _ _ => w)
    have n666 : f_L_law_666 (f_L_law_522 k scr n) k scr SD PR RM FL ST SP TP RI FI FQ FP LI LR LA ma tc acc stamp RN FN LN v2 v3 v4 v9 v11 side (1 - side) kind price qty id f FN s j (gI FI j) (gI FQ j) (gI FP j) = some 1 := by
      unfold f_L_law_666
      rw [st, Option.bind_some, mq, Option.bind_some]
      rcases r7 with ⟨y1, y2⟩ | ⟨y1, y2⟩
      · rw [if_neg (by rw [ieq]; omega), if_pos y1]
        exact n700
      · rw [if_pos y2, if_pos y1]
        exact n700
    have n640 := own_640 (scr := scr) (SD := SD) (PR := PR) (RM := RM) (FL := FL) (ST := ST) (SP := SP) (TP := TP) (RI := RI) (FQ := FQ) (FP := FP) (LI := LI) (LR := LR) (LA := LA) (ma := ma) (tc := tc) (acc := acc) (RN := RN) (LN := LN) (stamp := stamp) (v25 := gI FI j) lI f1 cc' (fun i i0 i1 z => by have := U.d i j i0 (by omega) a cc' z; rw [ieq] at this; omega) n666 100000 0 (by decide) (by decide) (by decide)
    have n598 : f_L_law_598 (f_L_law_522 k scr n) k scr SD PR RM FL ST SP TP RI FI FQ FP LI LR LA ma tc acc stamp RN FN LN v2 v3 v4 v9 v11 side (1 - side) kind price qty id f FN s j (gI FI j) (gI FQ j) (gI FP j) = some 1 := by
      unfold f_L_law_598
      by_cases z : 0 < j
      · rw [if_pos z]
        have z' := ilt.mp z
        obtain ⟨-, -, x4⟩ := own_fq lI lQ lP f1 (k := j - 1) (by omega) (by omega)
        have so := U.so (j - 1) j (by omega) (by omega) cc'
        unfold own_bt at so
        rw [x4, Option.bind_some]
        rcases hs with h | h
        · rw [h, if_neg (by decide)] at so
          rw [if_pos h, if_neg (by rw [ilt]; exact so)]
          exact n640
        · rw [h, if_pos (by decide)] at so
          rw [if_neg (by rw [h]; decide), if_neg (by rw [ilt]; exact so)]
          exact n640
      · rw [if_neg z]
        exact n640
    rw [if_pos cc, x1, Option.bind_some, x2, Option.bind_some, x3, Option.bind_some, if_neg (by rw [ilt]; omega), if_neg (by rw [ilt]; omega), if_pos (by rw [ilt, hid]; omega)]
    unfold own_nc at cr
    rcases hs with h | h
    · rw [if_pos h] at cr
      rw [if_pos h, if_neg (by rw [ilt]; omega)]
      exact n598
    · rw [if_neg (by rw [h]; decide)] at cr
      rw [if_neg (by rw [h]; decide), if_neg (by rw [ilt]; omega)]
      exact n598
theorem own_cell (scr : List Int32) (hs : scr.length ≤ 260) (j : Int32) (j0 : 0 ≤ j.toInt) : ∃ x, f_L_cell scr j = some x := by
  unfold f_L_cell
  have hl := iscr hs
  by_cases g : j < scr.length.toInt32
  · have g' := ilt.mp g
    rw [hl] at g'
    rw [if_pos g, rdg j0 g', Option.bind_some]
    exact ⟨_, rfl⟩
  · rw [if_neg g]
    exact ⟨_, rfl⟩
theorem own_md {x : Int32} (h : 0 ≤ x.toInt) (d : Int32) (D : Int) (hd : d.toInt = D) (D0 : 0 < D) : 0 ≤ (x % d).toInt ∧ (x % d).toInt < D := by
  rw [Int32.toInt_mod, hd, Int.tmod_eq_emod_of_nonneg h]
  exact ⟨Int.emod_nonneg _ (by omega), Int.emod_lt_of_pos _ (by omega)⟩
theorem own_777 {scr SD PR RM FL ST : List Int32} {SP : List Int64} {TP RI FI FQ FP LI LR LA : List Int32} {ma tc acc RN FN LN v3 v4 side kind price qty f : Int32} {stamp v9 v11 s : Int64} {SD0 PR0 RM0 FL0 ST0 RI0 : List Int32} {RN0 acc0 : Int32} {G B : Int} (U : own_U SD0 PR0 RM0 FL0 ST0 RI0 SD PR RM FL ST RI FI FQ FP RN0 RN FN acc0 side price qty kind acc G) (b : own_Z SD PR RM FL ST SP TP RI FI FQ FP LI LR LA acc RN FN) (D : own_D PR RM FL ST RI acc RN B) (ha : acc.toInt = acc0.toInt + 1) (a00 : 0 ≤ acc0.toInt) (lD0 : SD0.length = 256) (rz0 : gI RM0 acc = 0) (hs : side = 0 ∨ side = 1) (hk1 : kind = 0 ∨ kind = 1) (hq : qty.toInt ≤ 10000) (hf : f.toInt = own_sm FQ FN.toInt.toNat) (h9 : v9.toInt = own_dm SD0 RM0 0) (h11 : v11.toInt = own_dm SD0 RM0 1) (b9 : 0 ≤ v9.toInt ∧ v9.toInt ≤ 640000) (b11 : 0 ≤ v11.toInt ∧ v11.toInt ≤ 640000) (hsm : s.toInt = own_sm FQ FN.toInt.toNat)
    {kb : List Int32 → List Int32 → List Int32 → List Int32 → List Int32 → List Int64 → List Int32 → List Int32 → List Int32 → List Int32 → List Int32 → List Int32 → List Int32 → List Int32 → Int32 → Int32 → Int32 → Int64 → Int32 → Int32 → Int32 → Int32 → Int32 → Int32 → Option Int32}
    (hk : kb SD PR RM FL ST SP TP RI FI FQ FP LI LR LA ma tc acc stamp RN FN LN acc v3 (v4 + 1) = some 1) : f_L_law_777 kb scr SD PR RM FL ST SP TP RI FI FQ FP LI LR LA ma tc acc stamp RN FN LN acc v3 v4 v9 v11 side (1 - side) kind price qty acc f s = some 1 := by
  have e0 : (0 : Int32).toInt = 0 := rfl
  have X := b.X
  have a1 := X.a1
  have a0 := b.a0
  have uq := U.q
  have uq0 := U.q0
  have hopp : 1 - side = 0 ∨ 1 - side = 1 := by rcases hs with h | h <;> rw [h] <;> decide
  have st : f_status ST acc acc = some (gI ST acc) := by
    rcases own_stq X.lS a1 (v := acc) with ⟨-, -, h⟩ | ⟨h, -⟩
    · exact h
    · exact absurd ⟨by omega, by omega⟩ h
  have mq := own_rmq (v := acc) X D.rz (by omega) (by omega)
  obtain ⟨sM1, sM2⟩ := U.sM a00 ha (by omega) lD0 hs rz0
  obtain ⟨dO, xO, yO⟩ := own_depL b.sd b.pr X D.rz D.pp hopp
  obtain ⟨dS, xS, yS⟩ := own_depL b.sd b.pr X D.rz D.pp hs
  have rm : 0 ≤ (gI RM acc).toInt ∧ (gI RM acc).toInt ≤ 10000 := by
    rcases U.e with ⟨-, -, h, -⟩ | ⟨-, -, -, h, -⟩ | ⟨-, -, -, h, -⟩
    · rw [h, e0]; omega
    · rw [h, e0]; omega
    · omega
  have n916 : f_L_law_916 kb scr SD PR RM FL ST SP TP RI FI FQ FP LI LR LA ma tc acc stamp RN FN LN acc v3 v4 v9 v11 side (1 - side) s (gI RM acc) = some 1 := by
    unfold f_L_law_916
    rw [xO, Option.bind_some]
    unfold f_L_law_934
    have s1 : ∀ x : Int64, 0 ≤ x.toInt → x.toInt ≤ 640000 → (x - s).toInt = x.toInt - s.toInt := fun x p q => lsub_i (by omega) (by omega)
    have s2 : ∀ x : Int64, 0 ≤ x.toInt → x.toInt ≤ 640000 → (x + (gI RM acc).toInt64).toInt = x.toInt + (gI RM acc).toInt := fun x p q => by rw [ladd_i (by rw [Int32.toInt_toInt64]; omega) (by rw [Int32.toInt_toInt64]; omega), Int32.toInt_toInt64]
    rcases hs with h | h
    · subst h
      have q1 : (1 : Int32) - 0 = 1 := by decide
      rw [q1] at sM1 yO ⊢
      rw [if_neg (c := (1 : Int32) = 0) (by decide), if_pos (by rw [leqI, s1 v11 b11.1 b11.2, yO, sM1, h11, hsm]), xS, Option.bind_some]
      unfold f_L_law_961
      rw [if_pos (c := (0 : Int32) = 0) rfl, if_pos (by rw [leqI, s2 v9 b9.1 b9.2, yS, sM2, h9])]
      exact hk
    · subst h
      have q1 : (1 : Int32) - 1 = 0 := by decide
      rw [q1] at sM1 yO ⊢
      rw [if_pos (c := (0 : Int32) = 0) rfl, if_pos (by rw [leqI, s1 v9 b9.1 b9.2, yO, sM1, h9, hsm]), xS, Option.bind_some]
      unfold f_L_law_961
      rw [if_neg (c := (1 : Int32) = 0) (by decide), if_pos (by rw [leqI, s2 v11 b11.1 b11.2, yS, sM2, h11])]
      exact hk
  unfold f_L_law_777
  rw [if_pos (by rw [leqI, Int32.toInt_toInt64, hsm, hf]), if_neg (by rw [ilt]; omega), st, Option.bind_some, mq, Option.bind_some]
  by_cases fe : f = qty
  · rw [if_pos fe]
    rw [fe] at hf
    rcases U.e with ⟨u1, u2, u3, -⟩ | ⟨u1, -⟩ | ⟨u1, -⟩
    · rw [if_pos u2, if_pos u3]
      exact n916
    · omega
    · omega
  · rw [if_neg fe]
    have lt : own_sm FQ FN.toInt.toNat < qty.toInt := by
      rw [ieq] at fe
      omega
    have n868 : f_L_law_868 kb scr SD PR RM FL ST SP TP RI FI FQ FP LI LR LA ma tc acc stamp RN FN LN acc v3 v4 v9 v11 side (1 - side) kind qty f s (gI ST acc) (gI RM acc) = some 1 := by
      unfold f_L_law_868
      rcases U.e with ⟨u1, -⟩ | ⟨-, u2, u3, u4, -⟩ | ⟨-, u2, u3, u4, -⟩
      · omega
      · by_cases kz : kind = 1
        · rw [if_pos kz, if_pos u3, if_pos u4]
          exact n916
        · rw [if_neg kz, if_neg (by rw [u3]; decide)]
          unfold f_L_law_903
          rw [if_pos u3, if_pos u4]
          exact n916
      · rw [if_neg u2, if_pos u3, if_pos (by rw [ieq, isub_i (by omega) (by omega)]; omega)]
        exact n916
    unfold f_bestPrice f_bestPrice_11
    have hpp : ∀ x, own_mem RI RN x → 1 ≤ (gI PR x).toInt := fun x hx => by have := X.rg hx; exact (b.p1 x this.1 this.2).1
    obtain ⟨r0, x0, y0⟩ := own_bestX X.w b.sd b.pr hpp (1 - side)
    have be : (if 1 - side = 0 then (f_bestOf SD PR RI RN (1 - side)).bind fun r167 => some r167 else if 1 - side = 1 then (f_bestOf SD PR RI RN (1 - side)).bind fun r167 => some r167 else some 0) = some r0 := by
      rw [x0, Option.bind_some]
      rcases hopp with h | h
      · rw [if_pos h]
      · rw [if_neg (by rw [h]; decide), if_pos h]
    rw [be, Option.bind_some]
    by_cases z0 : r0 = 0
    · rw [if_pos z0]; exact n868
    · rw [if_neg z0]
      rcases y0 with ⟨h, -⟩ | ⟨x, hx1, hx2, hx3, -⟩
      · exact absurd h z0
      have nb := U.nb lt x hx1 hx2
      rw [hx3] at nb
      unfold own_nc at nb
      rcases hs with h | h
      · rw [if_pos h] at nb
        rw [if_pos h, if_pos (by rw [ilt]; exact nb)]
        exact n868
      · rw [if_neg (by rw [h]; decide)] at nb
        rw [if_neg (by rw [h]; decide), if_pos (by rw [ilt]; exact nb)]
        exact n868
theorem own_36 (scr : List Int32) (hs : scr.length ≤ 260) (ma tc v3 : Int32) (h3 : v3.toInt ≤ 86) : ∀ (n : Nat) (SD PR RM FL ST : List Int32) (SP : List Int64) (TP RI FI FQ FP LI LR LA : List Int32) (acc : Int32) (stamp : Int64) (RN FN LN v4 : Int32), own_Z SD PR RM FL ST SP TP RI FI FQ FP LI LR LA acc RN FN → own_D PR RM FL ST RI acc RN (10000 * v4.toInt) → 0 ≤ v4.toInt → v4.toInt ≤ 86 → 90 - v4.toInt ≤ n →
    f_L_law_36 scr n SD PR RM FL ST SP TP RI FI FQ FP LI LR LA ma tc acc stamp RN FN LN acc v3 v4 = some 1 := by
  intro n
  have e0 : (0 : Int32).toInt = 0 := rfl
  have e1 : (1 : Int32).toInt = 1 := rfl
  have e2 : (2 : Int32).toInt = 2 := rfl
  have e3 : (3 : Int32).toInt = 3 := rfl
  have e4 : (4 : Int32).toInt = 4 := rfl
  have e100 : (100 : Int32).toInt = 100 := rfl
  have e1000 : (1000 : Int32).toInt = 1000 := rfl
  induction n with
  | zero => intro SD PR RM FL ST SP TP RI FI FQ FP LI LR LA acc stamp RN FN LN v4 b D i0 i1 c; exfalso; omega
  | succ n ih =>
    intro SD PR RM FL ST SP TP RI FI FQ FP LI LR LA acc stamp RN FN LN v4 b D i0 i1 c
    unfold f_L_law_36
    by_cases g : v4 < v3
    rotate_left
    · rw [if_neg g]
    have g' := ilt.mp g
    have X := b.X
    have a0 := b.a0
    have a1 := X.a1
    have p4 := own_p1 (a := v4) (by omega)
    have q0 : (3 * v4 : Int32).toInt = 3 * v4.toInt := by rw [imul_i (by rw [e3]; omega) (by rw [e3]; omega), e3]
    have q2 : (2 + 3 * v4 : Int32).toInt = 2 + 3 * v4.toInt := by rw [iadd_i (by omega) (by omega), q0, e2]
    have q3 : (3 + 3 * v4 : Int32).toInt = 3 + 3 * v4.toInt := by rw [iadd_i (by omega) (by omega), q0, e3]
    have q4 : (4 + 3 * v4 : Int32).toInt = 4 + 3 * v4.toInt := by rw [iadd_i (by omega) (by omega), q0, e4]
    obtain ⟨c0, y0⟩ := own_cell scr hs (2 + 3 * v4) (by omega)
    obtain ⟨c1, y1⟩ := own_cell scr hs (3 + 3 * v4) (by omega)
    obtain ⟨c2, y2⟩ := own_cell scr hs (4 + 3 * v4) (by omega)
    obtain ⟨d0, x0, z0⟩ := own_depL b.sd b.pr X D.rz D.pp (s := 0) (Or.inl rfl)
    obtain ⟨d1, x1, z1⟩ := own_depL b.sd b.pr X D.rz D.pp (s := 1) (Or.inr rfl)
    obtain ⟨-, m0⟩ := own_dmb X D.rz 0
    obtain ⟨-, m1⟩ := own_dmb X D.rz 1
    rw [← z0] at m0
    rw [← z1] at m1
    rw [if_pos g, y0, Option.bind_some, y1, Option.bind_some, y2, Option.bind_some, x0, Option.bind_some, x1, Option.bind_some]
    have n1 := (iand_rng c1 2147483647 (by decide)).1
    have n2 := (iand_rng c2 2147483647 (by decide)).1
    have ns := iand_rng ((c0 &&& 2147483647) >>> (3 &&& 31)) 1 (by decide)
    generalize ((c0 &&& 2147483647) >>> (3 &&& 31)) &&& 1 = side at ns
    generalize (c0 &&& 2147483647) % 8 = op
    generalize c1 &&& 2147483647 = w1 at n1
    generalize c2 &&& 2147483647 = w2 at n2
    rw [e1] at ns
    have next : ∀ (SD PR RM FL ST : List Int32) (SP : List Int64) (TP RI FI FQ FP LI LR LA : List Int32) (acc' : Int32) (stamp : Int64) (RN FN LN : Int32), own_Z SD PR RM FL ST SP TP RI FI FQ FP LI LR LA acc' RN FN → own_D PR RM FL ST RI acc' RN (10000 * v4.toInt + 10000) → f_L_law_36 scr n SD PR RM FL ST SP TP RI FI FQ FP LI LR LA ma tc acc' stamp RN FN LN acc' v3 (v4 + 1) = some 1 := by
      intro SD PR RM FL ST SP TP RI FI FQ FP LI LR LA acc' stamp RN FN LN r1 r2
      refine ih SD PR RM FL ST SP TP RI FI FQ FP LI LR LA acc' stamp RN FN LN (v4 + 1) r1 ?_ (by omega) (by omega) (by omega)
      rw [p4]
      exact ⟨r2.st, r2.rz, fun x x0 x1 => by have := r2.fb x x0 x1; omega, r2.pp⟩
    have D10 : own_D PR RM FL ST RI acc RN (10000 * v4.toInt + 10000) := ⟨D.st, D.rz, fun x x0 x1 => by have := D.fb x x0 x1; omega, D.pp⟩
    have same := next SD PR RM FL ST SP TP RI FI FQ FP LI LR LA acc stamp RN FN LN b D10
    have sub : f_L_law_403 (f_L_law_36 scr n) scr SD PR RM FL ST SP TP RI FI FQ FP LI LR LA ma tc acc stamp RN FN LN acc v3 v4 w1 w2 d0 d1 side (1 - side) (if op = 7 then 1 else 0) = some 1 := by
      have hk1 : (if op = 7 then (1 : Int32) else 0) = 0 ∨ (if op = 7 then (1 : Int32) else 0) = 1 := by split <;> simp
      generalize (if op = 7 then (1 : Int32) else 0) = kind at hk1
      have hs1 : side = 0 ∨ side = 1 := by rw [ieq, ieq]; omega
      have rp := own_md n1 8 8 rfl (by omega)
      have rq := own_md n2 100 100 rfl (by omega)
      have pr : (100 + w1 % 8).toInt = 100 + (w1 % 8).toInt := by rw [iadd_i (by omega) (by omega), e100]
      have qr : (1 + w2 % 100).toInt = 1 + (w2 % 100).toInt := by rw [iadd_i (by omega) (by omega), e1]
      unfold f_L_law_403 f_fillCount
      generalize 100 + w1 % 8 = price at pr
      generalize 1 + w2 % 100 = qty at qr
      rw [Option.bind_some]
      by_cases full : acc = 255
      · rw [own_sub_full ma tc LN stamp side price qty kind hs1 (by omega) (by omega) (by omega) (by omega) hk1 (by rw [full]; decide), Option.bind_some]
        show (if acc = 255 then _ else _) = _
        rw [if_pos full, if_pos rfl, x0, Option.bind_some, if_pos rfl, x1, Option.bind_some, if_pos rfl, Option.bind_some, if_pos rfl]
        exact same
      · have alt : acc.toInt < 255 := by rw [ieq] at full; have e255 : (255 : Int32).toInt = 255 := rfl; omega
        have pa := own_p1 (a := acc) (by omega)
        obtain ⟨⟨r, SD', PR', RM', FL', ST', SP', TP', RI', FI', FQ', FP', LI', LR', LA', acc', stamp', RN', FN', LN'⟩, es, er, ea, Z, Dn, G, Un⟩ := own_subU b D (by omega) ma tc LN stamp side price qty kind hs1 (by omega) (by omega) (by omega) (by omega) hk1 alt
        have er' : r = acc + 1 := er
        have ea' : acc' = acc + 1 := ea
        have Z' : own_Z SD' PR' RM' FL' ST' SP' TP' RI' FI' FQ' FP' LI' LR' LA' acc' RN' FN' := Z
        have D' : own_D PR' RM' FL' ST' RI' acc' RN' (10000 * v4.toInt + 10000) := Dn
        have U : own_U SD PR RM FL ST RI SD' PR' RM' FL' ST' RI' FI' FQ' FP' RN RN' FN' acc side price qty kind (acc + 1) G := Un
        subst ea' er'
        have fq' := own_flq (v := acc + 1) Z'.Y.lF (by omega) (by omega) (by omega) Z'.fz
        rw [es, Option.bind_some]
        show (if acc = 255 then _ else _) = _
        rw [if_neg full, if_pos rfl, fq', Option.bind_some, Option.bind_some]
        have rz0 : gI RM (acc + 1) = 0 := D.rz _ (by omega) (by omega) (fun h => by have := X.rg h; omega)
        refine own_522 U Z' D'.rz pa rfl D.pp hs1 (by omega) U.f ?_ 100000 0 0 (by decide) U.f0 (by have := U.f1; omega) rfl
        intro s hsm
        exact own_777 U Z' D' pa a0 b.sd rz0 hs1 hk1 (by omega) U.f z0 z1 m0 m1 hsm (next _ _ _ _ _ _ _ _ _ _ _ _ _ _ _ stamp' RN' FN' LN' Z' D')
    have upd : (op = 5 ∨ op = 6) → f_L_law_121 (f_L_law_36 scr n) scr SD PR RM FL ST SP TP RI FI FQ FP LI LR LA ma tc acc stamp RN FN LN acc v3 v4 w1 w2 op d0 d1 = some 1 := by
      intro ho
      have pa := own_p1 (a := acc) (by omega)
      have rv := own_md n1 (acc + 1) (acc.toInt + 1) pa (by omega)
      have vv : (1 + w1 % (acc + 1)).toInt = 1 + (w1 % (acc + 1)).toInt := by rw [iadd_i (by omega) (by omega), e1]
      have rq := own_md n2 64 64 rfl (by omega)
      have qr : (1 + w2 % 64).toInt = 1 + (w2 % 64).toInt := by rw [iadd_i (by omega) (by omega), e1]
      unfold f_L_law_121
      generalize 1 + w1 % (acc + 1) = v at vv
      rw [if_neg (by rw [ieq]; omega)]
      obtain ⟨st0, est, hst⟩ : ∃ s, f_status ST acc v = some s ∧ (s = 1 ↔ own_mem RI RN v) := by
        rcases own_stq X.lS a1 (v := v) with ⟨y1, y2, h⟩ | ⟨h1, h⟩
        · exact ⟨_, h, X.s v y1 y2⟩
        · refine ⟨_, h, fun z => absurd z (by decide), fun z => ?_⟩
          exact absurd (X.rg z) h1
      obtain ⟨r0, er0, hr0⟩ : ∃ r, f_remaining RM ST acc v = some r ∧ (own_mem RI RN v → r = gI RM v) := by
        by_cases hm : own_mem RI RN v
        · have rg := X.rg hm
          exact ⟨_, own_rmq X D.rz (by omega) (by omega), fun _ => rfl⟩
        · refine ⟨0, ?_, fun h => absurd h hm⟩
          unfold f_remaining
          rcases own_rst X v with ⟨e, h⟩ | ⟨e, h, -⟩
          · rw [e, Option.bind_some, if_pos rfl]
          · exact absurd h hm
      rw [est, Option.bind_some, er0, Option.bind_some]
      unfold f_L_law_158
      generalize 1 + w2 % 64 = nq at qr
      have sums : ∀ (RM' ST' TP' RI' : List Int32) (RN' : Int32), own_mem RI RN v → own_X SD RM' ST' TP' RI' RN' acc → (∀ x : Int32, 0 ≤ x.toInt → x.toInt < 256 → ¬ own_mem RI' RN' x → gI RM' x = 0) → (∀ x : Int32, 0 ≤ x.toInt → ¬ v = x → gI RM' x = gI RM x) → ∃ d0' d1', f_L_depth SD PR RM' RI' RN' 0 = some d0' ∧ f_L_depth SD PR RM' RI' RN' 1 = some d1' ∧ (d0' + d1').toInt = d0.toInt + d1.toInt - (gI RM v).toInt + (gI RM' v).toInt := by
        intro RM' ST' TP' RI' RN' hm X' rz' h
        have rg := X.rg hm
        obtain ⟨e0', u0, t0⟩ := own_depL b.sd b.pr X' rz' D.pp (s := 0) (Or.inl rfl)
        obtain ⟨e1', u1, t1⟩ := own_depL b.sd b.pr X' rz' D.pp (s := 1) (Or.inr rfl)
        obtain ⟨-, k0⟩ := own_dmb X' rz' 0
        obtain ⟨-, k1⟩ := own_dmb X' rz' 1
        have j0 := own_dms (SD := SD) (by omega) (by omega) h 0
        have j1 := own_dms (SD := SD) (by omega) (by omega) h 1
        refine ⟨e0', e1', u0, u1, ?_⟩
        rw [ladd_i (by omega) (by omega), t0, t1, j0, j1, z0, z1]
        rcases (b.p1 v rg.1 rg.2).2.2 with q | q
        · rw [if_pos q, if_neg (by rw [q]; decide)]; omega
        · rw [if_neg (by rw [q]; decide), if_pos q]; omega
      by_cases o5 : op = 5
      · rw [if_pos o5]
        rcases own_canE b D10 v with ⟨nm, ec⟩ | ⟨hm, RM', ST', TP', RI', RN', ec, Z', D', hn, hS, hM, hO⟩
        · have ns1 : ¬ st0 = 1 := fun z => nm (hst.mp z)
          rw [ec, Option.bind_some]
          show (if (if st0 = 1 then (1 : Int32) else 0) = 0 then _ else _) = _
          rw [if_neg ns1, if_pos rfl, if_pos rfl, x0, Option.bind_some, if_pos rfl, x1, Option.bind_some, if_pos rfl]
          exact same
        · have s1 : st0 = 1 := hst.mpr hm
          have rg := X.rg hm
          have rr := X.r v hm
          have st' : f_status ST' acc v = some 3 := by
            rcases own_stq Z'.X.lS a1 (v := v) with ⟨-, -, h⟩ | ⟨h, -⟩
            · rw [h, hS]
            · exact absurd rg h
          have mq' := own_rmq (v := v) Z'.X D'.rz (by omega) (by omega)
          obtain ⟨f0, f1, u0, u1, us⟩ := sums RM' ST' TP' RI' RN' hm Z'.X D'.rz hO
          rw [ec, Option.bind_some]
          show (if (if st0 = 1 then (1 : Int32) else 0) = 0 then _ else _) = _
          rw [if_pos s1, if_neg (by decide), if_pos rfl, st', Option.bind_some, if_pos rfl, mq', Option.bind_some, if_pos hM, u0, Option.bind_some, u1, Option.bind_some]
          have sa : (d0 + d1).toInt = d0.toInt + d1.toInt := ladd_i (by omega) (by omega)
          have sb : (d0 + d1 - r0.toInt64).toInt = d0.toInt + d1.toInt - (gI RM v).toInt := by rw [hr0 hm, lsub_i (by rw [Int32.toInt_toInt64]; omega) (by rw [Int32.toInt_toInt64]; omega), Int32.toInt_toInt64, sa]
          rw [if_pos (by rw [leqI, us, sb, hM, e0]; omega)]
          exact next _ _ _ _ _ _ _ _ _ _ _ _ _ _ acc stamp RN' FN LN Z' D'
      · rw [if_neg o5]
        rcases own_ameE b D10 stamp v nq (by omega) with ⟨nm, ec⟩ | ⟨hm, q1, ec⟩ | ⟨hm, q1, RM', SP', TP', stamp', ec, Z', D', hM, hO, -⟩
        · have ns1 : ¬ st0 = 1 := fun z => nm (hst.mp z)
          rw [ec, Option.bind_some]
          show (if (if st0 = 1 then (1 : Int32) else 0) = 0 then _ else _) = _
          rw [if_neg ns1, if_pos rfl, if_pos rfl, x0, Option.bind_some, if_pos rfl, x1, Option.bind_some, if_pos rfl]
          exact same
        · exfalso; omega
        · have s1 : st0 = 1 := hst.mpr hm
          have rg := X.rg hm
          have rr := X.r v hm
          have mq' := own_rmq (v := v) Z'.X D'.rz (by omega) (by omega)
          obtain ⟨f0, f1, u0, u1, us⟩ := sums RM' ST TP' RI RN hm Z'.X D'.rz hO
          rw [ec, Option.bind_some]
          show (if (if st0 = 1 then (1 : Int32) else 0) = 0 then _ else _) = _
          rw [if_pos s1, if_neg (by decide), if_pos rfl, est, Option.bind_some, if_pos s1, mq', Option.bind_some, if_pos hM, u0, Option.bind_some, u1, Option.bind_some]
          have sa : (d0 + d1).toInt = d0.toInt + d1.toInt := ladd_i (by omega) (by omega)
          have sb : (d0 + d1 - r0.toInt64).toInt = d0.toInt + d1.toInt - (gI RM v).toInt := by rw [hr0 hm, lsub_i (by rw [Int32.toInt_toInt64]; omega) (by rw [Int32.toInt_toInt64]; omega), Int32.toInt_toInt64, sa]
          have sc : (d0 + d1 - r0.toInt64 + nq.toInt64).toInt = d0.toInt + d1.toInt - (gI RM v).toInt + nq.toInt := by rw [ladd_i (by rw [Int32.toInt_toInt64]; omega) (by rw [Int32.toInt_toInt64]; omega), Int32.toInt_toInt64, sb]
          rw [if_pos (by rw [leqI, us, sc, hM])]
          exact next _ _ _ _ _ _ _ _ _ _ _ _ _ _ acc stamp' RN FN LN Z' D'
    by_cases o5 : op = 5
    · rw [if_pos o5]
      exact upd (Or.inl o5)
    · rw [if_neg o5]
      by_cases o6 : op = 6
      · rw [if_pos o6]
        exact upd (Or.inr o6)
      · rw [if_neg o6]
        exact sub
theorem own_newD (mi ti : Int32) : Tot (f_init mi ti) (fun (SD, PR, RM, FL, ST, SP, TP, RI, FI, FQ, FP, LI, LR, LA, ma, tc, acc, stamp, RN, FN, LN) => acc = 0 ∧ RN = 0 ∧ FL = List.replicate 256 0 ∧ RM = List.replicate 256 0) := by
  unfold f_init f_init_132 f_init_141 f_init_152 f_init_165
  exact Tot.mk ⟨rfl, rfl, rfl, rfl⟩
theorem own_true (scr : List Int32) (h : scr.length ≤ 260) : f_L_law scr = some 1 := by
  have e0 : (0 : Int32).toInt = 0 := rfl
  have e3 : (3 : Int32).toInt = 3 := rfl
  obtain ⟨c0, y0⟩ := own_cell scr h 0 (by decide)
  obtain ⟨c1, y1⟩ := own_cell scr h 1 (by decide)
  unfold f_L_law
  obtain ⟨⟨SD, PR, RM, FL, ST, SP, TP, RI, FI, FQ, FP, LI, LR, LA, ma, tc, acc, stamp, RN, FN, LN⟩, e, Z, ea, er, ef, em⟩ := own_Tand (own_newZ (1 + (c0 &&& 7)) (c1 &&& 31)) (own_newD (1 + (c0 &&& 7)) (c1 &&& 31))
  have Z' : own_Z SD PR RM FL ST SP TP RI FI FQ FP LI LR LA acc RN FN := Z
  have ea' : acc = 0 := ea
  have er' : RN = 0 := er
  have ef' : FL = List.replicate 256 0 := ef
  have em' : RM = List.replicate 256 0 := em
  rw [y0, Option.bind_some, y1, Option.bind_some, e, Option.bind_some]
  subst ea' er'
  have zF : ∀ x : Int32, 0 ≤ x.toInt → x.toInt < 256 → gI FL x = 0 := fun x x0 x1 => by rw [ef']; exact gI_rep x0 x1
  have zM : ∀ x : Int32, 0 ≤ x.toInt → x.toInt < 256 → gI RM x = 0 := fun x x0 x1 => by rw [em']; exact gI_rep x0 x1
  have hl := iscr h
  have d3 : (scr.length.toInt32 / 3).toInt ≤ 86 := by
    rw [Int32.toInt_div_of_ne_right _ _ (by decide), hl, e3, Int.tdiv_eq_ediv_of_nonneg (by omega)]
    omega
  exact own_36 scr h ma tc (scr.length.toInt32 / 3) d3 100000 SD PR RM FL ST SP TP RI FI FQ FP LI LR LA 0 stamp 0 FN LN 0 Z' ⟨fun x x0 x1 => by omega, fun x x0 x1 _ => zM x x0 x1, fun x x0 x1 => by rw [zF x x0 x1]; omega, fun x x0 x1 => by omega⟩ (by decide) (by decide) (by decide)
set_option maxRecDepth 65536 in
theorem comes_1 {Post : Tables → Env → Array Value → State → Outcome → State → Prop} (hpost : ∀ tb e args s v u, (limb_1_1.after args s (.returned v) u = true ∧ limb_1_2.after args s (.returned v) u = true ∧ True) → FrameEnd s (.returned v) u (Jvm.fieldLocs frame_1_writes args s ++ Jvm.arrayLocs frame_1_arrays args s ++ Jvm.staticLocs frame_1_statics s) 40 4608 → Post tb e args s (.returned v) u) :
    ArmFor flags0 classFile x code maxLocals ret World_1 tables_1 room_1 Calls_1 rest_1 Pre_1 Post := by
  intro l hfl _ _ p e ha hc hk s m args below hf hA hF happ hP
  obtain ⟨hcalls, hrest, hpre⟩ := hP
  obtain ⟨-, -, -, hnamed, -, -, -, hat⟩ := (Spec.applies_iff hf).mp happ
  obtain ⟨hg, hn⟩ := and_e (Cond.before_iff.mp (show (Jvm.Cond.and given_1 narrow_1).before args s = true from hpre))
  obtain ⟨h1, h2⟩ := and_e hg
  have hw := fun d (hd : d ∈ tables_1) => atoms_spec (ws := Jvm.Cond.code x code maxLocals ret :: tables_1) hat d (List.mem_cons_of_mem _ hd)
  obtain ⟨w0, rfl⟩ : ∃ w0 : Value, args = #[w0] := by
    have hs : args.size = 1 := by simpa [Cond.value, given_1] using h1
    obtain ⟨L⟩ := args
    match L, hs with
    | [w0], _ => exact ⟨w0, rfl⟩
  have hfit : Fit s := fun {y c} hc i hi => by
    obtain ⟨ha, rfl⟩ := Array.getElem?_eq_some_iff.mp hc
    have q := List.all_eq_true.mp ((Array.all_eq_true_iff_forall_mem.mp hF) _ (Array.getElem_mem ha)) i (List.mem_range.mpr hi)
    simpa [Array.getElem?_eq_getElem hi] using q
  obtain ⟨hn1, hn2⟩ := and_e hn
  obtain ⟨ad, e0⟩ := arr_v hn1
  obtain ⟨cl, A⟩ := Arr.start e0 hn1
  obtain rfl : w0 = .ref ad := Option.some.inj e0
  obtain ⟨scr, hs1, hs2, hs3⟩ := script_of hfit A e0 hn2
  have E : OEndsQ own_P 0 0 (entL [.ref 0] d_0.maxL) [] [.inr (.inl (false, scr))] (LawQ 1 15 2261) := ok_L_law (own_true scr hs2)
  have hS : SR [ad] [.ref 0] [.ref ad] := ⟨_, _, rfl, ⟨ad, rfl, rfl⟩, rfl⟩
  have hH : HR own_P s s.heap.size s.heap [ad] [.inr (.inl (false, scr))] := hr_script rfl A hs1 hs2 hs3
  have M := law_met (l := l) own_chk (fun w hw' => hw w (own_in w hw')) hm_0 E hS (Nat.le_of_ble_eq_true rfl) hH tables_1 room_1 (Nat.le_of_ble_eq_true rfl) (Nat.le_of_ble_eq_true rfl) (Nat.le_of_ble_eq_true rfl) (Nat.le_of_ble_eq_true rfl)
  obtain ⟨n, o, h1, h2, h3, L, rfl, N, hq⟩ := M p e ha hc hk s m _ below hf ((Spec.applies_iff_loose hf).mp happ).1 ⟨rfl, State.Warmed39.refl s, rfl⟩ trivial
  refine ⟨n, _, h1, h2, h3, hpost _ _ _ _ _ _ ⟨Cond.after_iff.mpr rfl, Cond.after_iff.mpr (eq_i res_at (Term.int_eval (1)) rfl), trivial⟩ ⟨hq.1, hq.2.1, (hq.2.2.sift fun y hy => Or.inr (N y hy)).mono (by decide) (by decide)⟩⟩
theorem main_1_1 : Claimed_1_1 := comes_1 fun _ _ _ _ _ _ h hF => ⟨h.1, hF⟩
theorem main_1_2 : Claimed_1_2 := comes_1 fun _ _ _ _ _ _ h hF => ⟨h.2.1, hF⟩
end Jvm.Pilot.@@N@@
namespace Jvm.Pilot.@@N@@
open Jvm Jvm.ClassFile Sem Op Lib Jvm.Free Jvm.Stand Jvm.Pilot.@@N@@.Jvm.D
/-! MADE BY PROGRAM (witnessworld.py) out of the Statement's table words and the real class files: 13 classes; the members and pool entries that the words name. The judged class is class 1, her method 3. -/
namespace start1
open Jvm.ClassFile
def u (s : String) : CpInfo := .utf8 (stringToUtf16 s)
/-- a pool by its gaps: so many unusable entries, then the entry; so many at the end -/
def gap : Nat → List CpInfo → List CpInfo
  | 0, r => r
  | n + 1, r => .unusable :: gap n r
def poolList (es : List (Nat × CpInfo)) (last : Nat) : List CpInfo := es.foldr (fun e r => gap e.1 (e.2 :: r)) (gap last [])
def pool (es : List (Nat × CpInfo)) (last : Nat) : Array CpInfo := ⟨poolList es last⟩
def fileOf (pool : Array CpInfo) (this : Nat) (attrs : Array Attribute := #[]) (ms : Array MethodInfo := #[]) (fl : Nat := 33) (sup : Nat := 0) (ifs : Array Nat := #[]) (fds : Array FieldInfo := #[]) : ClassFile where
  minorVersion := 0
  majorVersion := 65
  constantPool := pool
  accessFlags := fl
  thisClass := this
  superClass := sup
  interfaces := ifs
  fields := fds
  methods := ms
  attributes := attrs
def plain (name : String) (sup : Option ClassId) : Class where
  name := name
  kind := .ordinary
  loader := none
  accessFlags := 33
  super := sup
  interfaces := #[]
  cf := none
  fields := #[]
  methods := #[]
  instanceTypes := #[]
  staticTypes := #[]
  resolved := #[]
  callSites := []
  init := .initialized
  statics := none
  mirror := none

def pool0 : Array CpInfo := pool [(5, u "<init>"), (0, u "()V"), (1, .class_ 10), (1, u "java/lang/Object")] 113

def k0c0 : Code := { maxStack := 0, maxLocals := 1, code := object_method_1_code, exceptionTable := #[], attributes := #[] }
def k0m0 : Method := { name := "<init>", desc := "()V", sig := { parameters := [], returnType := none }, accessFlags := 1, code := some k0c0 }
/-- java/lang/Object -/
def k0 : Class := { plain "java/lang/Object" none with
  accessFlags := 33
  interfaces := #[]
  cf := some (fileOf pool0 8 #[] #[{ accessFlags := 1, nameIndex := 5, descriptorIndex := 6, attributes := #[] }] 33 0 #[] #[])
  fields := #[]
  methods := #[k0m0]
  instanceTypes := #[]
  staticTypes := #[]
  resolved := Array.replicate 124 none
  statics := none }

def pool1 : Array CpInfo := pool [(2, .class_ 4), (1, u "java/lang/Object"), (0, u "<init>"), (0, u "()V"), (0, .methodref 8 9), (0, .class_ 10), (0, .nameAndType 11 12), (0, u "ProRataBook"), (0, u "depthAt"), (0, u "(II)I"), (0, .methodref 14 15), (0, .class_ 16), (0, .nameAndType 17 18), (0, u "ProRataBookOwnLaw"), (0, u "cell"), (0, u "([II)I"), (0, .methodref 8 20), (0, .nameAndType 5 21), (0, u "(II)V"), (0, .integer 2147483647), (0, .methodref 14 24), (0, .nameAndType 25 26), (0, u "depth"), (0, u "(LProRataBook;I)J"), (0, .methodref 8 28), (0, .nameAndType 29 30), (0, u "status"), (0, u "(I)I"), (0, .methodref 8 32), (0, .nameAndType 33 30), (0, u "remaining"), (0, .methodref 8 35), (0, .nameAndType 36 30), (0, u "cancel"), (0, .methodref 8 38), (0, .nameAndType 39 12), (0, u "amend"), (0, .methodref 8 41), (0, .nameAndType 42 43), (0, u "fillCount"), (0, u "()I"), (0, .methodref 8 45), (0, .nameAndType 46 47), (0, u "submit"), (0, u "(IIII)I"), (0, .methodref 8 49), (0, .nameAndType 50 30), (0, u "filled"), (0, .methodref 8 52), (0, .nameAndType 53 30), (0, u "fillId"), (0, .methodref 8 55), (0, .nameAndType 56 30), (0, u "fillQty"), (0, .methodref 8 58), (0, .nameAndType 59 30), (0, u "fillPrice"), (0, .methodref 8 61), (0, .nameAndType 62 30), (0, u "bestPrice"), (3, u "law"), (0, u "([I)Z")] 4

def k1m0 : Method := { name := "<init>", desc := "()V", sig := { parameters := [], returnType := none }, accessFlags := 1, code := none }
def k1c1 : Code := { maxStack := 2, maxLocals := 2, code := method_2_code, exceptionTable := #[], attributes := #[] }
def k1m1 : Method := { name := "cell", desc := "([II)I", sig := { parameters := [(.array .int), .int], returnType := some .int }, accessFlags := 10, code := some k1c1 }
def k1c2 : Code := { maxStack := 5, maxLocals := 5, code := method_3_code, exceptionTable := #[], attributes := #[] }
def k1m2 : Method := { name := "depth", desc := "(LProRataBook;I)J", sig := { parameters := [(.object "ProRataBook"), .int], returnType := some .long }, accessFlags := 10, code := some k1c2 }
def k1c3 : Code := { maxStack := 6, maxLocals := 30, code := code, exceptionTable := #[], attributes := #[] }
def k1m3 : Method := { name := "law", desc := "([I)Z", sig := { parameters := [(.array .int)], returnType := some .boolean }, accessFlags := 9, code := some k1c3 }
/-- ProRataBookOwnLaw -/
def k1 : Class := { plain "ProRataBookOwnLaw" (some 0) with
  accessFlags := 49
  interfaces := #[]
  cf := some (fileOf pool1 14 #[] #[{ accessFlags := 1, nameIndex := 5, descriptorIndex := 6, attributes := #[] }, { accessFlags := 10, nameIndex := 17, descriptorIndex := 18, attributes := #[] }, { accessFlags := 10, nameIndex := 25, descriptorIndex := 26, attributes := #[] }, { accessFlags := 9, nameIndex := 66, descriptorIndex := 67, attributes := #[] }] 49 2 #[] #[])
  fields := #[]
  methods := #[k1m0, k1m1, k1m2, k1m3]
  instanceTypes := #[]
  staticTypes := #[]
  resolved := Array.replicate 72 none
  statics := none }

def pool2 : Array CpInfo := pool [(1, .methodref 2 3), (0, .class_ 4), (0, .nameAndType 5 6), (0, u "java/lang/Object"), (0, u "<init>"), (0, u "()V"), (0, .fieldref 8 9), (0, .class_ 10), (0, .nameAndType 11 12), (0, u "ProRataBook"), (0, u "oSide"), (0, u "[I"), (0, .fieldref 8 14), (0, .nameAndType 15 12), (0, u "oPrice"), (0, .fieldref 8 17), (0, .nameAndType 18 12), (0, u "oRem"), (0, .fieldref 8 20), (0, .nameAndType 21 12), (0, u "oFilled"), (0, .fieldref 8 23), (0, .nameAndType 24 12), (0, u "oStatus"), (0, .fieldref 8 26), (0, .nameAndType 27 28), (0, u "oStamp"), (0, u "[J"), (0, .fieldref 8 30), (0, .nameAndType 31 32), (0, u "oTop"), (0, u "[Z"), (0, .fieldref 8 34), (0, .nameAndType 35 12), (0, u "restIds"), (0, .fieldref 8 37), (0, .nameAndType 38 12), (0, u "fIds"), (0, .fieldref 8 40), (0, .nameAndType 41 12), (0, u "fQty"), (0, .fieldref 8 43), (0, .nameAndType 44 12), (0, u "fPrice"), (0, .fieldref 8 46), (0, .nameAndType 47 12), (0, u "lvlIds"), (0, .fieldref 8 49), (0, .nameAndType 50 12), (0, u "lvlR"), (0, .fieldref 8 52), (0, .nameAndType 53 12), (0, u "lvlA"), (0, .fieldref 8 55), (0, .nameAndType 56 57), (0, u "minAlloc"), (0, u "I"), (0, .fieldref 8 59), (0, .nameAndType 60 57), (0, u "topCap"), (0, .fieldref 8 62), (0, .nameAndType 63 57), (0, u "accepted"), (0, .fieldref 8 65), (0, .nameAndType 66 67), (0, u "stampCounter"), (0, u "J"), (0, .fieldref 8 69), (0, .nameAndType 70 57), (0, u "restN"), (0, .fieldref 8 72), (0, .nameAndType 73 57), (0, u "fN"), (0, .fieldref 8 75), (0, .nameAndType 76 57), (0, u "lvlN"), (0, .methodref 8 78), (0, .nameAndType 79 80), (0, u "matchIncoming"), (0, u "(IIII)I"), (0, .methodref 8 82), (0, .nameAndType 83 84), (0, u "finishIncoming"), (0, u "(IIIII)V"), (0, .methodref 8 86), (0, .nameAndType 87 88), (0, u "bestOf"), (0, u "(I)I"), (0, .methodref 8 90), (0, .nameAndType 91 92), (0, u "crosses"), (0, u "(III)Z"), (0, .methodref 8 94), (0, .nameAndType 95 96), (0, u "matchLevel"), (0, u "(III)I"), (0, .methodref 8 98), (0, .nameAndType 99 92), (0, u "better"), (0, .methodref 8 101), (0, .nameAndType 102 103), (0, u "clearFlags"), (0, u "(I)V"), (0, .methodref 8 105), (0, .nameAndType 106 107), (0, u "gatherLevel"), (0, u "(II)V"), (0, .methodref 8 109), (0, .nameAndType 110 6), (0, u "sortLevel"), (0, .methodref 8 112), (0, .nameAndType 113 88), (0, u "allocate"), (0, .methodref 8 115), (0, .nameAndType 116 103), (0, u "applyLevel"), (0, .methodref 8 118), (0, .nameAndType 119 88), (0, u "topStep"), (0, .methodref 8 121), (0, .nameAndType 122 88), (0, u "proRataStep"), (0, .methodref 8 124), (0, .nameAndType 125 103), (0, u "timeStep"), (0, .methodref 8 127), (0, .nameAndType 128 103), (0, u "removeResting"), (0, .methodref 8 130), (0, .nameAndType 131 132), (0, u "isResting"), (0, u "(I)Z"), (0, u "BUY"), (2, u "SELL"), (1, u "LIMIT"), (0, u "IOC"), (0, u "OK"), (0, u "ERR_SIDE"), (1, u "ERR_PRICE"), (1, u "ERR_QTY"), (1, u "ERR_KIND"), (1, u "ERR_NO_IDS"), (1, u "ERR_UNKNOWN"), (1, u "STATUS_NONE"), (0, u "STATUS_RESTING"), (0, u "STATUS_FILLED"), (1, u "STATUS_CANCELLED"), (1, u "STATUS_DISCARDED"), (1, u "MAX_RESTING"), (1, u "MAX_IDS"), (4, u "submit"), (0, u "cancel"), (0, u "amend"), (0, u "(II)I"), (0, u "status"), (0, u "remaining"), (0, u "filled"), (2, u "bestPrice"), (0, u "depthAt"), (2, u "()I"), (0, u "fillCount"), (0, u "fillId"), (0, u "fillQty"), (0, u "fillPrice")] 2

def k2c0 : Code := { maxStack := 3, maxLocals := 5, code := prog_1_method_1_code, exceptionTable := #[], attributes := #[] }
def k2m0 : Method := { name := "<init>", desc := "(II)V", sig := { parameters := [.int, .int], returnType := none }, accessFlags := 1, code := some k2c0 }
def k2c1 : Code := { maxStack := 6, maxLocals := 7, code := prog_1_method_2_code, exceptionTable := #[], attributes := #[] }
def k2m1 : Method := { name := "submit", desc := "(IIII)I", sig := { parameters := [.int, .int, .int, .int], returnType := some .int }, accessFlags := 1, code := some k2c1 }
def k2c2 : Code := { maxStack := 4, maxLocals := 10, code := prog_1_method_3_code, exceptionTable := #[], attributes := #[] }
def k2m2 : Method := { name := "matchIncoming", desc := "(IIII)I", sig := { parameters := [.int, .int, .int, .int], returnType := some .int }, accessFlags := 2, code := some k2c2 }
def k2c3 : Code := { maxStack := 5, maxLocals := 8, code := prog_1_method_4_code, exceptionTable := #[], attributes := #[] }
def k2m3 : Method := { name := "finishIncoming", desc := "(IIIII)V", sig := { parameters := [.int, .int, .int, .int, .int], returnType := none }, accessFlags := 2, code := some k2c3 }
def k2c4 : Code := { maxStack := 3, maxLocals := 4, code := prog_1_method_5_code, exceptionTable := #[], attributes := #[] }
def k2m4 : Method := { name := "clearFlags", desc := "(I)V", sig := { parameters := [.int], returnType := none }, accessFlags := 2, code := some k2c4 }
def k2c5 : Code := { maxStack := 2, maxLocals := 4, code := prog_1_method_6_code, exceptionTable := #[], attributes := #[] }
def k2m5 : Method := { name := "crosses", desc := "(III)Z", sig := { parameters := [.int, .int, .int], returnType := some .boolean }, accessFlags := 2, code := some k2c5 }
def k2c6 : Code := { maxStack := 2, maxLocals := 4, code := prog_1_method_7_code, exceptionTable := #[], attributes := #[] }
def k2m6 : Method := { name := "better", desc := "(III)Z", sig := { parameters := [.int, .int, .int], returnType := some .boolean }, accessFlags := 2, code := some k2c6 }
def k2c7 : Code := { maxStack := 4, maxLocals := 6, code := prog_1_method_8_code, exceptionTable := #[], attributes := #[] }
def k2m7 : Method := { name := "matchLevel", desc := "(III)I", sig := { parameters := [.int, .int, .int], returnType := some .int }, accessFlags := 2, code := some k2c7 }
def k2c8 : Code := { maxStack := 3, maxLocals := 5, code := prog_1_method_9_code, exceptionTable := #[], attributes := #[] }
def k2m8 : Method := { name := "gatherLevel", desc := "(II)V", sig := { parameters := [.int, .int], returnType := none }, accessFlags := 2, code := some k2c8 }
def k2c9 : Code := { maxStack := 5, maxLocals := 6, code := prog_1_method_10_code, exceptionTable := #[], attributes := #[] }
def k2m9 : Method := { name := "sortLevel", desc := "()V", sig := { parameters := [], returnType := none }, accessFlags := 2, code := some k2c9 }
def k2c10 : Code := { maxStack := 3, maxLocals := 7, code := prog_1_method_11_code, exceptionTable := #[], attributes := #[] }
def k2m10 : Method := { name := "allocate", desc := "(I)I", sig := { parameters := [.int], returnType := some .int }, accessFlags := 2, code := some k2c10 }
def k2c11 : Code := { maxStack := 4, maxLocals := 5, code := prog_1_method_12_code, exceptionTable := #[], attributes := #[] }
def k2m11 : Method := { name := "topStep", desc := "(I)I", sig := { parameters := [.int], returnType := some .int }, accessFlags := 2, code := some k2c11 }
def k2c12 : Code := { maxStack := 5, maxLocals := 9, code := prog_1_method_13_code, exceptionTable := #[], attributes := #[] }
def k2m12 : Method := { name := "proRataStep", desc := "(I)I", sig := { parameters := [.int], returnType := some .int }, accessFlags := 2, code := some k2c12 }
def k2c13 : Code := { maxStack := 4, maxLocals := 6, code := prog_1_method_14_code, exceptionTable := #[], attributes := #[] }
def k2m13 : Method := { name := "timeStep", desc := "(I)V", sig := { parameters := [.int], returnType := none }, accessFlags := 2, code := some k2c13 }
def k2c14 : Code := { maxStack := 4, maxLocals := 5, code := prog_1_method_15_code, exceptionTable := #[], attributes := #[] }
def k2m14 : Method := { name := "applyLevel", desc := "(I)V", sig := { parameters := [.int], returnType := none }, accessFlags := 2, code := some k2c14 }
def k2c15 : Code := { maxStack := 5, maxLocals := 3, code := prog_1_method_16_code, exceptionTable := #[], attributes := #[] }
def k2m15 : Method := { name := "removeResting", desc := "(I)V", sig := { parameters := [.int], returnType := none }, accessFlags := 2, code := some k2c15 }
def k2c16 : Code := { maxStack := 2, maxLocals := 2, code := prog_1_method_17_code, exceptionTable := #[], attributes := #[] }
def k2m16 : Method := { name := "isResting", desc := "(I)Z", sig := { parameters := [.int], returnType := some .boolean }, accessFlags := 2, code := some k2c16 }
def k2c17 : Code := { maxStack := 4, maxLocals := 6, code := prog_1_method_18_code, exceptionTable := #[], attributes := #[] }
def k2m17 : Method := { name := "bestOf", desc := "(I)I", sig := { parameters := [.int], returnType := some .int }, accessFlags := 2, code := some k2c17 }
def k2c18 : Code := { maxStack := 3, maxLocals := 2, code := prog_1_method_19_code, exceptionTable := #[], attributes := #[] }
def k2m18 : Method := { name := "cancel", desc := "(I)I", sig := { parameters := [.int], returnType := some .int }, accessFlags := 1, code := some k2c18 }
def k2c19 : Code := { maxStack := 5, maxLocals := 3, code := prog_1_method_20_code, exceptionTable := #[], attributes := #[] }
def k2m19 : Method := { name := "amend", desc := "(II)I", sig := { parameters := [.int, .int], returnType := some .int }, accessFlags := 1, code := some k2c19 }
def k2c20 : Code := { maxStack := 2, maxLocals := 2, code := prog_1_method_21_code, exceptionTable := #[], attributes := #[] }
def k2m20 : Method := { name := "status", desc := "(I)I", sig := { parameters := [.int], returnType := some .int }, accessFlags := 1, code := some k2c20 }
def k2c21 : Code := { maxStack := 2, maxLocals := 2, code := prog_1_method_22_code, exceptionTable := #[], attributes := #[] }
def k2m21 : Method := { name := "remaining", desc := "(I)I", sig := { parameters := [.int], returnType := some .int }, accessFlags := 1, code := some k2c21 }
def k2c22 : Code := { maxStack := 2, maxLocals := 2, code := prog_1_method_23_code, exceptionTable := #[], attributes := #[] }
def k2m22 : Method := { name := "filled", desc := "(I)I", sig := { parameters := [.int], returnType := some .int }, accessFlags := 1, code := some k2c22 }
def k2c23 : Code := { maxStack := 2, maxLocals := 2, code := prog_1_method_26_code, exceptionTable := #[], attributes := #[] }
def k2m23 : Method := { name := "bestPrice", desc := "(I)I", sig := { parameters := [.int], returnType := some .int }, accessFlags := 1, code := some k2c23 }
def k2c24 : Code := { maxStack := 3, maxLocals := 6, code := prog_1_method_27_code, exceptionTable := #[], attributes := #[] }
def k2m24 : Method := { name := "depthAt", desc := "(II)I", sig := { parameters := [.int, .int], returnType := some .int }, accessFlags := 1, code := some k2c24 }
def k2c25 : Code := { maxStack := 1, maxLocals := 1, code := prog_1_method_30_code, exceptionTable := #[], attributes := #[] }
def k2m25 : Method := { name := "fillCount", desc := "()I", sig := { parameters := [], returnType := some .int }, accessFlags := 1, code := some k2c25 }
def k2c26 : Code := { maxStack := 2, maxLocals := 2, code := prog_1_method_31_code, exceptionTable := #[], attributes := #[] }
def k2m26 : Method := { name := "fillId", desc := "(I)I", sig := { parameters := [.int], returnType := some .int }, accessFlags := 1, code := some k2c26 }
def k2c27 : Code := { maxStack := 2, maxLocals := 2, code := prog_1_method_32_code, exceptionTable := #[], attributes := #[] }
def k2m27 : Method := { name := "fillQty", desc := "(I)I", sig := { parameters := [.int], returnType := some .int }, accessFlags := 1, code := some k2c27 }
def k2c28 : Code := { maxStack := 2, maxLocals := 2, code := prog_1_method_33_code, exceptionTable := #[], attributes := #[] }
def k2m28 : Method := { name := "fillPrice", desc := "(I)I", sig := { parameters := [.int], returnType := some .int }, accessFlags := 1, code := some k2c28 }
/-- ProRataBook -/
def k2 : Class := { plain "ProRataBook" (some 0) with
  accessFlags := 49
  interfaces := #[]
  cf := some (fileOf pool2 8 #[] #[{ accessFlags := 1, nameIndex := 5, descriptorIndex := 107, attributes := #[] }, { accessFlags := 1, nameIndex := 168, descriptorIndex := 80, attributes := #[] }, { accessFlags := 2, nameIndex := 79, descriptorIndex := 80, attributes := #[] }, { accessFlags := 2, nameIndex := 83, descriptorIndex := 84, attributes := #[] }, { accessFlags := 2, nameIndex := 102, descriptorIndex := 103, attributes := #[] }, { accessFlags := 2, nameIndex := 91, descriptorIndex := 92, attributes := #[] }, { accessFlags := 2, nameIndex := 99, descriptorIndex := 92, attributes := #[] }, { accessFlags := 2, nameIndex := 95, descriptorIndex := 96, attributes := #[] }, { accessFlags := 2, nameIndex := 106, descriptorIndex := 107, attributes := #[] }, { accessFlags := 2, nameIndex := 110, descriptorIndex := 6, attributes := #[] }, { accessFlags := 2, nameIndex := 113, descriptorIndex := 88, attributes := #[] }, { accessFlags := 2, nameIndex := 119, descriptorIndex := 88, attributes := #[] }, { accessFlags := 2, nameIndex := 122, descriptorIndex := 88, attributes := #[] }, { accessFlags := 2, nameIndex := 125, descriptorIndex := 103, attributes := #[] }, { accessFlags := 2, nameIndex := 116, descriptorIndex := 103, attributes := #[] }, { accessFlags := 2, nameIndex := 128, descriptorIndex := 103, attributes := #[] }, { accessFlags := 2, nameIndex := 131, descriptorIndex := 132, attributes := #[] }, { accessFlags := 2, nameIndex := 87, descriptorIndex := 88, attributes := #[] }, { accessFlags := 1, nameIndex := 169, descriptorIndex := 88, attributes := #[] }, { accessFlags := 1, nameIndex := 170, descriptorIndex := 171, attributes := #[] }, { accessFlags := 1, nameIndex := 172, descriptorIndex := 88, attributes := #[] }, { accessFlags := 1, nameIndex := 173, descriptorIndex := 88, attributes := #[] }, { accessFlags := 1, nameIndex := 174, descriptorIndex := 88, attributes := #[] }, { accessFlags := 1, nameIndex := 177, descriptorIndex := 88, attributes := #[] }, { accessFlags := 1, nameIndex := 178, descriptorIndex := 171, attributes := #[] }, { accessFlags := 1, nameIndex := 182, descriptorIndex := 181, attributes := #[] }, { accessFlags := 1, nameIndex := 183, descriptorIndex := 88, attributes := #[] }, { accessFlags := 1, nameIndex := 184, descriptorIndex := 88, attributes := #[] }, { accessFlags := 1, nameIndex := 185, descriptorIndex := 88, attributes := #[] }] 49 2 #[] #[{ accessFlags := 25, nameIndex := 133, descriptorIndex := 57, attributes := #[] }, { accessFlags := 25, nameIndex := 136, descriptorIndex := 57, attributes := #[] }, { accessFlags := 25, nameIndex := 138, descriptorIndex := 57, attributes := #[] }, { accessFlags := 25, nameIndex := 139, descriptorIndex := 57, attributes := #[] }, { accessFlags := 25, nameIndex := 140, descriptorIndex := 57, attributes := #[] }, { accessFlags := 25, nameIndex := 141, descriptorIndex := 57, attributes := #[] }, { accessFlags := 25, nameIndex := 143, descriptorIndex := 57, attributes := #[] }, { accessFlags := 25, nameIndex := 145, descriptorIndex := 57, attributes := #[] }, { accessFlags := 25, nameIndex := 147, descriptorIndex := 57, attributes := #[] }, { accessFlags := 25, nameIndex := 149, descriptorIndex := 57, attributes := #[] }, { accessFlags := 25, nameIndex := 151, descriptorIndex := 57, attributes := #[] }, { accessFlags := 25, nameIndex := 153, descriptorIndex := 57, attributes := #[] }, { accessFlags := 25, nameIndex := 154, descriptorIndex := 57, attributes := #[] }, { accessFlags := 25, nameIndex := 155, descriptorIndex := 57, attributes := #[] }, { accessFlags := 25, nameIndex := 157, descriptorIndex := 57, attributes := #[] }, { accessFlags := 25, nameIndex := 159, descriptorIndex := 57, attributes := #[] }, { accessFlags := 25, nameIndex := 161, descriptorIndex := 57, attributes := #[] }, { accessFlags := 25, nameIndex := 163, descriptorIndex := 57, attributes := #[] }, { accessFlags := 2, nameIndex := 56, descriptorIndex := 57, attributes := #[] }, { accessFlags := 2, nameIndex := 60, descriptorIndex := 57, attributes := #[] }, { accessFlags := 2, nameIndex := 63, descriptorIndex := 57, attributes := #[] }, { accessFlags := 2, nameIndex := 66, descriptorIndex := 67, attributes := #[] }, { accessFlags := 2, nameIndex := 11, descriptorIndex := 12, attributes := #[] }, { accessFlags := 2, nameIndex := 15, descriptorIndex := 12, attributes := #[] }, { accessFlags := 2, nameIndex := 18, descriptorIndex := 12, attributes := #[] }, { accessFlags := 2, nameIndex := 21, descriptorIndex := 12, attributes := #[] }, { accessFlags := 2, nameIndex := 24, descriptorIndex := 12, attributes := #[] }, { accessFlags := 2, nameIndex := 27, descriptorIndex := 28, attributes := #[] }, { accessFlags := 2, nameIndex := 31, descriptorIndex := 32, attributes := #[] }, { accessFlags := 2, nameIndex := 35, descriptorIndex := 12, attributes := #[] }, { accessFlags := 2, nameIndex := 70, descriptorIndex := 57, attributes := #[] }, { accessFlags := 2, nameIndex := 38, descriptorIndex := 12, attributes := #[] }, { accessFlags := 2, nameIndex := 41, descriptorIndex := 12, attributes := #[] }, { accessFlags := 2, nameIndex := 44, descriptorIndex := 12, attributes := #[] }, { accessFlags := 2, nameIndex := 73, descriptorIndex := 57, attributes := #[] }, { accessFlags := 2, nameIndex := 47, descriptorIndex := 12, attributes := #[] }, { accessFlags := 2, nameIndex := 50, descriptorIndex := 12, attributes := #[] }, { accessFlags := 2, nameIndex := 53, descriptorIndex := 12, attributes := #[] }, { accessFlags := 2, nameIndex := 76, descriptorIndex := 57, attributes := #[] }])
  fields := #[{ name := "BUY", type := .int, accessFlags := 25, slot := 0, constantValue := 0 }, { name := "SELL", type := .int, accessFlags := 25, slot := 1, constantValue := 0 }, { name := "LIMIT", type := .int, accessFlags := 25, slot := 2, constantValue := 0 }, { name := "IOC", type := .int, accessFlags := 25, slot := 3, constantValue := 0 }, { name := "OK", type := .int, accessFlags := 25, slot := 4, constantValue := 0 }, { name := "ERR_SIDE", type := .int, accessFlags := 25, slot := 5, constantValue := 0 }, { name := "ERR_PRICE", type := .int, accessFlags := 25, slot := 6, constantValue := 0 }, { name := "ERR_QTY", type := .int, accessFlags := 25, slot := 7, constantValue := 0 }, { name := "ERR_KIND", type := .int, accessFlags := 25, slot := 8, constantValue := 0 }, { name := "ERR_NO_IDS", type := .int, accessFlags := 25, slot := 9, constantValue := 0 }, { name := "ERR_UNKNOWN", type := .int, accessFlags := 25, slot := 10, constantValue := 0 }, { name := "STATUS_NONE", type := .int, accessFlags := 25, slot := 11, constantValue := 0 }, { name := "STATUS_RESTING", type := .int, accessFlags := 25, slot := 12, constantValue := 0 }, { name := "STATUS_FILLED", type := .int, accessFlags := 25, slot := 13, constantValue := 0 }, { name := "STATUS_CANCELLED", type := .int, accessFlags := 25, slot := 14, constantValue := 0 }, { name := "STATUS_DISCARDED", type := .int, accessFlags := 25, slot := 15, constantValue := 0 }, { name := "MAX_RESTING", type := .int, accessFlags := 25, slot := 16, constantValue := 0 }, { name := "MAX_IDS", type := .int, accessFlags := 25, slot := 17, constantValue := 0 }, { name := "minAlloc", type := .int, accessFlags := 2, slot := 0, constantValue := 0 }, { name := "topCap", type := .int, accessFlags := 2, slot := 1, constantValue := 0 }, { name := "accepted", type := .int, accessFlags := 2, slot := 2, constantValue := 0 }, { name := "stampCounter", type := .long, accessFlags := 2, slot := 3, constantValue := 0 }, { name := "oSide", type := (.array .int), accessFlags := 2, slot := 4, constantValue := 0 }, { name := "oPrice", type := (.array .int), accessFlags := 2, slot := 5, constantValue := 0 }, { name := "oRem", type := (.array .int), accessFlags := 2, slot := 6, constantValue := 0 }, { name := "oFilled", type := (.array .int), accessFlags := 2, slot := 7, constantValue := 0 }, { name := "oStatus", type := (.array .int), accessFlags := 2, slot := 8, constantValue := 0 }, { name := "oStamp", type := (.array .long), accessFlags := 2, slot := 9, constantValue := 0 }, { name := "oTop", type := (.array .boolean), accessFlags := 2, slot := 10, constantValue := 0 }, { name := "restIds", type := (.array .int), accessFlags := 2, slot := 11, constantValue := 0 }, { name := "restN", type := .int, accessFlags := 2, slot := 12, constantValue := 0 }, { name := "fIds", type := (.array .int), accessFlags := 2, slot := 13, constantValue := 0 }, { name := "fQty", type := (.array .int), accessFlags := 2, slot := 14, constantValue := 0 }, { name := "fPrice", type := (.array .int), accessFlags := 2, slot := 15, constantValue := 0 }, { name := "fN", type := .int, accessFlags := 2, slot := 16, constantValue := 0 }, { name := "lvlIds", type := (.array .int), accessFlags := 2, slot := 17, constantValue := 0 }, { name := "lvlR", type := (.array .int), accessFlags := 2, slot := 18, constantValue := 0 }, { name := "lvlA", type := (.array .int), accessFlags := 2, slot := 19, constantValue := 0 }, { name := "lvlN", type := .int, accessFlags := 2, slot := 20, constantValue := 0 }]
  methods := #[k2m0, k2m1, k2m2, k2m3, k2m4, k2m5, k2m6, k2m7, k2m8, k2m9, k2m10, k2m11, k2m12, k2m13, k2m14, k2m15, k2m16, k2m17, k2m18, k2m19, k2m20, k2m21, k2m22, k2m23, k2m24, k2m25, k2m26, k2m27, k2m28]
  instanceTypes := #[.int, .int, .int, .long, (.array .int), (.array .int), (.array .int), (.array .int), (.array .int), (.array .long), (.array .boolean), (.array .int), .int, (.array .int), (.array .int), (.array .int), .int, (.array .int), (.array .int), (.array .int), .int]
  staticTypes := #[.int, .int, .int, .int, .int, .int, .int, .int, .int, .int, .int, .int, .int, .int, .int, .int, .int, .int]
  resolved := Array.replicate 188 none
  statics := none }

def pool3 : Array CpInfo := pool [(1, u "java/lang/Cloneable"), (0, .class_ 1), (0, u "java/lang/Object"), (0, .class_ 3)] 3

/-- java/lang/Cloneable -/
def k3 : Class := { plain "java/lang/Cloneable" (some 0) with
  accessFlags := 1537
  interfaces := #[]
  cf := some (fileOf pool3 2 #[] #[] 1537 4 #[] #[])
  fields := #[]
  methods := #[]
  instanceTypes := #[]
  staticTypes := #[]
  resolved := Array.replicate 8 none
  statics := none }

def pool4 : Array CpInfo := pool [(1, u "java/io/Serializable"), (0, .class_ 1), (0, u "java/lang/Object"), (0, .class_ 3)] 3

/-- java/io/Serializable -/
def k4 : Class := { plain "java/io/Serializable" (some 0) with
  accessFlags := 1537
  interfaces := #[]
  cf := some (fileOf pool4 2 #[] #[] 1537 4 #[] #[])
  fields := #[]
  methods := #[]
  instanceTypes := #[]
  staticTypes := #[]
  resolved := Array.replicate 8 none
  statics := none }

/-- the primitive boolean -/
def k5 : Class := { plain "boolean" none with kind := .primitive 'Z', accessFlags := 0x411 }
/-- [Z -/
def k6 : Class := { plain "[Z" (some 0) with kind := .array 5 .boolean, interfaces := #[3, 4], accessFlags := 1041 }

/-- the primitive byte -/
def k7 : Class := { plain "byte" none with kind := .primitive 'B', accessFlags := 0x411 }
/-- [B -/
def k8 : Class := { plain "[B" (some 0) with kind := .array 7 .byte, interfaces := #[3, 4], accessFlags := 1041 }

/-- the primitive int -/
def k9 : Class := { plain "int" none with kind := .primitive 'I', accessFlags := 0x411 }
/-- [I -/
def k10 : Class := { plain "[I" (some 0) with kind := .array 9 .int, interfaces := #[3, 4], accessFlags := 1041 }

/-- the primitive long -/
def k11 : Class := { plain "long" none with kind := .primitive 'J', accessFlags := 0x411 }
/-- [J -/
def k12 : Class := { plain "[J" (some 0) with kind := .array 11 .long, interfaces := #[3, 4], accessFlags := 1041 }

def heap : Heap := #[{ cls := 10, slots := #[.int 1, .int 2, .int 3], vm := .none }]
def classes : Array Class := #[k0, k1, k2, k3, k4, k5, k6, k7, k8, k9, k10, k11, k12]
def interned : List (Array UInt16 × Addr) := []
def slotsUsed : Nat := 3
def theMethod : MethodId := ⟨1, 3⟩
def args0 : Array Value := #[.ref 0]
def aboutOver (below : List Frame) : State where
  vm := { classes := classes, interned := interned.toArray }
  heap := heap
  slotsUsed := slotsUsed
  threads := #[{ frames := .invoking theMethod args0 :: below }]
def below0 : List Frame := [.native { method := ⟨0, 0⟩, args := #[] }]
def about1 : State := aboutOver below0
def p0 : Program := .bare "" "" ""
def e0 : Env := launch0.env 0 0 0
theorem w_frames : about1.frames = Frame.invoking theMethod args0 :: below0 := rfl
set_option maxRecDepth 65536 in
theorem w_args : argsFit about1.vm theMethod args0 = true := by decide +kernel
set_option maxRecDepth 65536 in
theorem w_heap : heapFits about1 = true := by decide +kernel
set_option maxRecDepth 65536 in
theorem w_runnable : about1.curStatus? = some .runnable := by decide +kernel
set_option maxRecDepth 65536 in
theorem w_alone : about1.alone = true := by decide +kernel
set_option maxRecDepth 65536 in
theorem w_named : about1.methodNamed? x = some theMethod := by decide +kernel
set_option maxRecDepth 65536 in
theorem w_hears : about1.hears theMethod below0 = true := by decide +kernel
set_option maxRecDepth 65536 in
theorem w_ripe : about1.ripe theMethod args0 below0 = true := by decide +kernel
theorem w_running : about1.status = .running := rfl
set_option maxRecDepth 65536 in
theorem w_room : about1.hasRoom e0.platform room_1 = true :=
  launch0.hasRoom_least _ room_1 (by decide +kernel) (by decide +kernel) (by decide +kernel) (by decide +kernel) (by decide +kernel) (by decide +kernel)
theorem allAtoms_all (ts : List Jvm.Cond) (a : Array Jvm.Value) (st : Jvm.State) : (allAtoms ts).before a st = ts.all (fun c => c.before a st) := by
  induction ts with
  | nil => rfl
  | cons c t ih =>
    show (Jvm.Cond.and c (allAtoms t)).before a st = _
    rw [Jvm.Cond.before_and, ih, List.all_cons]
def words1 : List Jvm.Cond := Jvm.Cond.code x code maxLocals ret :: tables_1
/-- a 'code' word, met by the world's own term for the bytes: nothing is compared byte by byte -/
theorem code_word {y : MethodName} {bytes : ByteArray} {mx : Nat} {rt : Option FieldType} {a : Array Value} {s : State} {m : MethodId} {meth : Method} {c : Code} (h1 : s.methodNamed? y = some m) (h2 : s.vm.method? m = some meth) (h3 : meth.code = some c) (h4 : c.code = bytes)
    (h5 : (c.maxLocals == mx && c.exceptionTable.isEmpty && decide (c.maxStack ≤ mostOperands) && decide (meth.sig.returnType = rt) && !meth.locks && decide (parseMethodDescriptor y.desc = some meth.sig)) = true) : (Jvm.Cond.code y bytes mx rt).before a s = true := by
  simp only [Bool.and_eq_true, beq_iff_eq, Bool.not_eq_true', decide_eq_true_eq] at h5
  obtain ⟨⟨⟨⟨⟨g1, g2⟩, g3⟩, g4⟩, g5⟩, g6⟩ := h5
  simp [Cond.before, Cond.holds, Cond.value, h1, h2, h3, h4, g1, g2, g3, g4, g5, g6]
def isCode : Jvm.Cond → Bool
  | .code _ _ _ _ => true
  | _ => false
theorem all_split {L : List Jvm.Cond} {P : Jvm.Cond → Bool} (h1 : L.all (fun c => isCode c || P c) = true) (h2 : ∀ c ∈ L.filter isCode, P c = true) : L.all P = true := by
  refine List.all_eq_true.mpr fun c hc => ?_
  have h := List.all_eq_true.mp h1 c hc
  rcases Bool.eq_false_or_eq_true (isCode c) with hi | hi
  · exact h2 c (List.mem_filter.mpr ⟨hc, hi⟩)
  · simpa [hi] using h
set_option maxRecDepth 65536 in
theorem w_c0 : (Jvm.Cond.code x code maxLocals ret).before args0 about1 = true := code_word (m := ⟨1, 3⟩) (meth := k1m3) (c := k1c3) (by decide +kernel) rfl rfl rfl (by decide +kernel)
set_option maxRecDepth 65536 in
theorem w_c1 : (Jvm.Cond.code ({ cls := "ProRataBookOwnLaw", name := "cell", desc := "([II)I" } : Jvm.MethodName) method_2_code (2 : Nat) (Option.some Jvm.ClassFile.FieldType.int)).before args0 about1 = true := code_word (m := ⟨1, 1⟩) (meth := k1m1) (c := k1c1) (by decide +kernel) rfl rfl rfl (by decide +kernel)
set_option maxRecDepth 65536 in
theorem w_c2 : (Jvm.Cond.code ({ cls := "ProRataBook", name := "<init>", desc := "(II)V" } : Jvm.MethodName) prog_1_method_1_code (5 : Nat) (Option.none : Option Jvm.ClassFile.FieldType)).before args0 about1 = true := code_word (m := ⟨2, 0⟩) (meth := k2m0) (c := k2c0) (by decide +kernel) rfl rfl rfl (by decide +kernel)
set_option maxRecDepth 65536 in
theorem w_c3 : (Jvm.Cond.code ({ cls := "java/lang/Object", name := "<init>", desc := "()V" } : Jvm.MethodName) object_method_1_code (1 : Nat) (Option.none : Option Jvm.ClassFile.FieldType)).before args0 about1 = true := code_word (m := ⟨0, 0⟩) (meth := k0m0) (c := k0c0) (by decide +kernel) rfl rfl rfl (by decide +kernel)
set_option maxRecDepth 65536 in
theorem w_c4 : (Jvm.Cond.code ({ cls := "ProRataBookOwnLaw", name := "depth", desc := "(LProRataBook;I)J" } : Jvm.MethodName) method_3_code (5 : Nat) (Option.some Jvm.ClassFile.FieldType.long)).before args0 about1 = true := code_word (m := ⟨1, 2⟩) (meth := k1m2) (c := k1c2) (by decide +kernel) rfl rfl rfl (by decide +kernel)
set_option maxRecDepth 65536 in
theorem w_c5 : (Jvm.Cond.code ({ cls := "ProRataBook", name := "depthAt", desc := "(II)I" } : Jvm.MethodName) prog_1_method_27_code (6 : Nat) (Option.some Jvm.ClassFile.FieldType.int)).before args0 about1 = true := code_word (m := ⟨2, 24⟩) (meth := k2m24) (c := k2c24) (by decide +kernel) rfl rfl rfl (by decide +kernel)
set_option maxRecDepth 65536 in
theorem w_c6 : (Jvm.Cond.code ({ cls := "ProRataBook", name := "fillCount", desc := "()I" } : Jvm.MethodName) prog_1_method_30_code (1 : Nat) (Option.some Jvm.ClassFile.FieldType.int)).before args0 about1 = true := code_word (m := ⟨2, 25⟩) (meth := k2m25) (c := k2c25) (by decide +kernel) rfl rfl rfl (by decide +kernel)
set_option maxRecDepth 65536 in
theorem w_c7 : (Jvm.Cond.code ({ cls := "ProRataBook", name := "submit", desc := "(IIII)I" } : Jvm.MethodName) prog_1_method_2_code (7 : Nat) (Option.some Jvm.ClassFile.FieldType.int)).before args0 about1 = true := code_word (m := ⟨2, 1⟩) (meth := k2m1) (c := k2c1) (by decide +kernel) rfl rfl rfl (by decide +kernel)
set_option maxRecDepth 65536 in
theorem w_c8 : (Jvm.Cond.code ({ cls := "ProRataBook", name := "matchIncoming", desc := "(IIII)I" } : Jvm.MethodName) prog_1_method_3_code (10 : Nat) (Option.some Jvm.ClassFile.FieldType.int)).before args0 about1 = true := code_word (m := ⟨2, 2⟩) (meth := k2m2) (c := k2c2) (by decide +kernel) rfl rfl rfl (by decide +kernel)
set_option maxRecDepth 65536 in
theorem w_c9 : (Jvm.Cond.code ({ cls := "ProRataBook", name := "bestOf", desc := "(I)I" } : Jvm.MethodName) prog_1_method_18_code (6 : Nat) (Option.some Jvm.ClassFile.FieldType.int)).before args0 about1 = true := code_word (m := ⟨2, 17⟩) (meth := k2m17) (c := k2c17) (by decide +kernel) rfl rfl rfl (by decide +kernel)
set_option maxRecDepth 65536 in
theorem w_c10 : (Jvm.Cond.code ({ cls := "ProRataBook", name := "finishIncoming", desc := "(IIIII)V" } : Jvm.MethodName) prog_1_method_4_code (8 : Nat) (Option.none : Option Jvm.ClassFile.FieldType)).before args0 about1 = true := code_word (m := ⟨2, 3⟩) (meth := k2m3) (c := k2c3) (by decide +kernel) rfl rfl rfl (by decide +kernel)
set_option maxRecDepth 65536 in
theorem w_c11 : (Jvm.Cond.code ({ cls := "ProRataBook", name := "clearFlags", desc := "(I)V" } : Jvm.MethodName) prog_1_method_5_code (4 : Nat) (Option.none : Option Jvm.ClassFile.FieldType)).before args0 about1 = true := code_word (m := ⟨2, 4⟩) (meth := k2m4) (c := k2c4) (by decide +kernel) rfl rfl rfl (by decide +kernel)
set_option maxRecDepth 65536 in
theorem w_c12 : (Jvm.Cond.code ({ cls := "ProRataBook", name := "filled", desc := "(I)I" } : Jvm.MethodName) prog_1_method_23_code (2 : Nat) (Option.some Jvm.ClassFile.FieldType.int)).before args0 about1 = true := code_word (m := ⟨2, 22⟩) (meth := k2m22) (c := k2c22) (by decide +kernel) rfl rfl rfl (by decide +kernel)
set_option maxRecDepth 65536 in
theorem w_c13 : (Jvm.Cond.code ({ cls := "ProRataBook", name := "status", desc := "(I)I" } : Jvm.MethodName) prog_1_method_21_code (2 : Nat) (Option.some Jvm.ClassFile.FieldType.int)).before args0 about1 = true := code_word (m := ⟨2, 20⟩) (meth := k2m20) (c := k2c20) (by decide +kernel) rfl rfl rfl (by decide +kernel)
set_option maxRecDepth 65536 in
theorem w_c14 : (Jvm.Cond.code ({ cls := "ProRataBook", name := "remaining", desc := "(I)I" } : Jvm.MethodName) prog_1_method_22_code (2 : Nat) (Option.some Jvm.ClassFile.FieldType.int)).before args0 about1 = true := code_word (m := ⟨2, 21⟩) (meth := k2m21) (c := k2c21) (by decide +kernel) rfl rfl rfl (by decide +kernel)
set_option maxRecDepth 65536 in
theorem w_c15 : (Jvm.Cond.code ({ cls := "ProRataBook", name := "isResting", desc := "(I)Z" } : Jvm.MethodName) prog_1_method_17_code (2 : Nat) (Option.some Jvm.ClassFile.FieldType.boolean)).before args0 about1 = true := code_word (m := ⟨2, 16⟩) (meth := k2m16) (c := k2c16) (by decide +kernel) rfl rfl rfl (by decide +kernel)
set_option maxRecDepth 65536 in
theorem w_c16 : (Jvm.Cond.code ({ cls := "ProRataBook", name := "bestPrice", desc := "(I)I" } : Jvm.MethodName) prog_1_method_26_code (2 : Nat) (Option.some Jvm.ClassFile.FieldType.int)).before args0 about1 = true := code_word (m := ⟨2, 23⟩) (meth := k2m23) (c := k2c23) (by decide +kernel) rfl rfl rfl (by decide +kernel)
set_option maxRecDepth 65536 in
theorem w_c17 : (Jvm.Cond.code ({ cls := "ProRataBook", name := "better", desc := "(III)Z" } : Jvm.MethodName) prog_1_method_7_code (4 : Nat) (Option.some Jvm.ClassFile.FieldType.boolean)).before args0 about1 = true := code_word (m := ⟨2, 6⟩) (meth := k2m6) (c := k2c6) (by decide +kernel) rfl rfl rfl (by decide +kernel)
set_option maxRecDepth 65536 in
theorem w_c18 : (Jvm.Cond.code ({ cls := "ProRataBook", name := "crosses", desc := "(III)Z" } : Jvm.MethodName) prog_1_method_6_code (4 : Nat) (Option.some Jvm.ClassFile.FieldType.boolean)).before args0 about1 = true := code_word (m := ⟨2, 5⟩) (meth := k2m5) (c := k2c5) (by decide +kernel) rfl rfl rfl (by decide +kernel)
set_option maxRecDepth 65536 in
theorem w_c19 : (Jvm.Cond.code ({ cls := "ProRataBook", name := "matchLevel", desc := "(III)I" } : Jvm.MethodName) prog_1_method_8_code (6 : Nat) (Option.some Jvm.ClassFile.FieldType.int)).before args0 about1 = true := code_word (m := ⟨2, 7⟩) (meth := k2m7) (c := k2c7) (by decide +kernel) rfl rfl rfl (by decide +kernel)
set_option maxRecDepth 65536 in
theorem w_c20 : (Jvm.Cond.code ({ cls := "ProRataBook", name := "gatherLevel", desc := "(II)V" } : Jvm.MethodName) prog_1_method_9_code (5 : Nat) (Option.none : Option Jvm.ClassFile.FieldType)).before args0 about1 = true := code_word (m := ⟨2, 8⟩) (meth := k2m8) (c := k2c8) (by decide +kernel) rfl rfl rfl (by decide +kernel)
set_option maxRecDepth 65536 in
theorem w_c21 : (Jvm.Cond.code ({ cls := "ProRataBook", name := "sortLevel", desc := "()V" } : Jvm.MethodName) prog_1_method_10_code (6 : Nat) (Option.none : Option Jvm.ClassFile.FieldType)).before args0 about1 = true := code_word (m := ⟨2, 9⟩) (meth := k2m9) (c := k2c9) (by decide +kernel) rfl rfl rfl (by decide +kernel)
set_option maxRecDepth 65536 in
theorem w_c22 : (Jvm.Cond.code ({ cls := "ProRataBook", name := "allocate", desc := "(I)I" } : Jvm.MethodName) prog_1_method_11_code (7 : Nat) (Option.some Jvm.ClassFile.FieldType.int)).before args0 about1 = true := code_word (m := ⟨2, 10⟩) (meth := k2m10) (c := k2c10) (by decide +kernel) rfl rfl rfl (by decide +kernel)
set_option maxRecDepth 65536 in
theorem w_c23 : (Jvm.Cond.code ({ cls := "ProRataBook", name := "topStep", desc := "(I)I" } : Jvm.MethodName) prog_1_method_12_code (5 : Nat) (Option.some Jvm.ClassFile.FieldType.int)).before args0 about1 = true := code_word (m := ⟨2, 11⟩) (meth := k2m11) (c := k2c11) (by decide +kernel) rfl rfl rfl (by decide +kernel)
set_option maxRecDepth 65536 in
theorem w_c24 : (Jvm.Cond.code ({ cls := "ProRataBook", name := "timeStep", desc := "(I)V" } : Jvm.MethodName) prog_1_method_14_code (6 : Nat) (Option.none : Option Jvm.ClassFile.FieldType)).before args0 about1 = true := code_word (m := ⟨2, 13⟩) (meth := k2m13) (c := k2c13) (by decide +kernel) rfl rfl rfl (by decide +kernel)
set_option maxRecDepth 65536 in
theorem w_c25 : (Jvm.Cond.code ({ cls := "ProRataBook", name := "applyLevel", desc := "(I)V" } : Jvm.MethodName) prog_1_method_15_code (5 : Nat) (Option.none : Option Jvm.ClassFile.FieldType)).before args0 about1 = true := code_word (m := ⟨2, 14⟩) (meth := k2m14) (c := k2c14) (by decide +kernel) rfl rfl rfl (by decide +kernel)
set_option maxRecDepth 65536 in
theorem w_c26 : (Jvm.Cond.code ({ cls := "ProRataBook", name := "fillId", desc := "(I)I" } : Jvm.MethodName) prog_1_method_31_code (2 : Nat) (Option.some Jvm.ClassFile.FieldType.int)).before args0 about1 = true := code_word (m := ⟨2, 26⟩) (meth := k2m26) (c := k2c26) (by decide +kernel) rfl rfl rfl (by decide +kernel)
set_option maxRecDepth 65536 in
theorem w_c27 : (Jvm.Cond.code ({ cls := "ProRataBook", name := "fillQty", desc := "(I)I" } : Jvm.MethodName) prog_1_method_32_code (2 : Nat) (Option.some Jvm.ClassFile.FieldType.int)).before args0 about1 = true := code_word (m := ⟨2, 27⟩) (meth := k2m27) (c := k2c27) (by decide +kernel) rfl rfl rfl (by decide +kernel)
set_option maxRecDepth 65536 in
theorem w_c28 : (Jvm.Cond.code ({ cls := "ProRataBook", name := "fillPrice", desc := "(I)I" } : Jvm.MethodName) prog_1_method_33_code (2 : Nat) (Option.some Jvm.ClassFile.FieldType.int)).before args0 about1 = true := code_word (m := ⟨2, 28⟩) (meth := k2m28) (c := k2c28) (by decide +kernel) rfl rfl rfl (by decide +kernel)
set_option maxRecDepth 65536 in
theorem w_c29 : (Jvm.Cond.code ({ cls := "ProRataBook", name := "cancel", desc := "(I)I" } : Jvm.MethodName) prog_1_method_19_code (2 : Nat) (Option.some Jvm.ClassFile.FieldType.int)).before args0 about1 = true := code_word (m := ⟨2, 18⟩) (meth := k2m18) (c := k2c18) (by decide +kernel) rfl rfl rfl (by decide +kernel)
set_option maxRecDepth 65536 in
theorem w_c30 : (Jvm.Cond.code ({ cls := "ProRataBook", name := "removeResting", desc := "(I)V" } : Jvm.MethodName) prog_1_method_16_code (3 : Nat) (Option.none : Option Jvm.ClassFile.FieldType)).before args0 about1 = true := code_word (m := ⟨2, 15⟩) (meth := k2m15) (c := k2c15) (by decide +kernel) rfl rfl rfl (by decide +kernel)
set_option maxRecDepth 65536 in
theorem w_c31 : (Jvm.Cond.code ({ cls := "ProRataBook", name := "proRataStep", desc := "(I)I" } : Jvm.MethodName) prog_1_method_13_code (9 : Nat) (Option.some Jvm.ClassFile.FieldType.int)).before args0 about1 = true := code_word (m := ⟨2, 12⟩) (meth := k2m12) (c := k2c12) (by decide +kernel) rfl rfl rfl (by decide +kernel)
set_option maxRecDepth 65536 in
theorem w_c32 : (Jvm.Cond.code ({ cls := "ProRataBook", name := "amend", desc := "(II)I" } : Jvm.MethodName) prog_1_method_20_code (3 : Nat) (Option.some Jvm.ClassFile.FieldType.int)).before args0 about1 = true := code_word (m := ⟨2, 19⟩) (meth := k2m19) (c := k2c19) (by decide +kernel) rfl rfl rfl (by decide +kernel)
def codes1 : List Jvm.Cond := [Jvm.Cond.code x code maxLocals ret, Jvm.Cond.code ({ cls := "ProRataBookOwnLaw", name := "cell", desc := "([II)I" } : Jvm.MethodName) method_2_code (2 : Nat) (Option.some Jvm.ClassFile.FieldType.int), Jvm.Cond.code ({ cls := "ProRataBook", name := "<init>", desc := "(II)V" } : Jvm.MethodName) prog_1_method_1_code (5 : Nat) (Option.none : Option Jvm.ClassFile.FieldType), Jvm.Cond.code ({ cls := "java/lang/Object", name := "<init>", desc := "()V" } : Jvm.MethodName) object_method_1_code (1 : Nat) (Option.none : Option Jvm.ClassFile.FieldType), Jvm.Cond.code ({ cls := "ProRataBookOwnLaw", name := "depth", desc := "(LProRataBook;I)J" } : Jvm.MethodName) method_3_code (5 : Nat) (Option.some Jvm.ClassFile.FieldType.long), Jvm.Cond.code ({ cls := "ProRataBook", name := "depthAt", desc := "(II)I" } : Jvm.MethodName) prog_1_method_27_code (6 : Nat) (Option.some Jvm.ClassFile.FieldType.int), Jvm.Cond.code ({ cls := "ProRataBook", name := "fillCount", desc := "()I" } : Jvm.MethodName) prog_1_method_30_code (1 : Nat) (Option.some Jvm.ClassFile.FieldType.int), Jvm.Cond.code ({ cls := "ProRataBook", name := "submit", desc := "(IIII)I" } : Jvm.MethodName) prog_1_method_2_code (7 : Nat) (Option.some Jvm.ClassFile.FieldType.int), Jvm.Cond.code ({ cls := "ProRataBook", name := "matchIncoming", desc := "(IIII)I" } : Jvm.MethodName) prog_1_method_3_code (10 : Nat) (Option.some Jvm.ClassFile.FieldType.int), Jvm.Cond.code ({ cls := "ProRataBook", name := "bestOf", desc := "(I)I" } : Jvm.MethodName) prog_1_method_18_code (6 : Nat) (Option.some Jvm.ClassFile.FieldType.int), Jvm.Cond.code ({ cls := "ProRataBook", name := "finishIncoming", desc := "(IIIII)V" } : Jvm.MethodName) prog_1_method_4_code (8 : Nat) (Option.none : Option Jvm.ClassFile.FieldType), Jvm.Cond.code ({ cls := "ProRataBook", name := "clearFlags", desc := "(I)V" } : Jvm.MethodName) prog_1_method_5_code (4 : Nat) (Option.none : Option Jvm.ClassFile.FieldType), Jvm.Cond.code ({ cls := "ProRataBook", name := "filled", desc := "(I)I" } : Jvm.MethodName) prog_1_method_23_code (2 : Nat) (Option.some Jvm.ClassFile.FieldType.int), Jvm.Cond.code ({ cls := "ProRataBook", name := "status", desc := "(I)I" } : Jvm.MethodName) prog_1_method_21_code (2 : Nat) (Option.some Jvm.ClassFile.FieldType.int), Jvm.Cond.code ({ cls := "ProRataBook", name := "remaining", desc := "(I)I" } : Jvm.MethodName) prog_1_method_22_code (2 : Nat) (Option.some Jvm.ClassFile.FieldType.int), Jvm.Cond.code ({ cls := "ProRataBook", name := "isResting", desc := "(I)Z" } : Jvm.MethodName) prog_1_method_17_code (2 : Nat) (Option.some Jvm.ClassFile.FieldType.boolean), Jvm.Cond.code ({ cls := "ProRataBook", name := "bestPrice", desc := "(I)I" } : Jvm.MethodName) prog_1_method_26_code (2 : Nat) (Option.some Jvm.ClassFile.FieldType.int), Jvm.Cond.code ({ cls := "ProRataBook", name := "better", desc := "(III)Z" } : Jvm.MethodName) prog_1_method_7_code (4 : Nat) (Option.some Jvm.ClassFile.FieldType.boolean), Jvm.Cond.code ({ cls := "ProRataBook", name := "crosses", desc := "(III)Z" } : Jvm.MethodName) prog_1_method_6_code (4 : Nat) (Option.some Jvm.ClassFile.FieldType.boolean), Jvm.Cond.code ({ cls := "ProRataBook", name := "matchLevel", desc := "(III)I" } : Jvm.MethodName) prog_1_method_8_code (6 : Nat) (Option.some Jvm.ClassFile.FieldType.int), Jvm.Cond.code ({ cls := "ProRataBook", name := "gatherLevel", desc := "(II)V" } : Jvm.MethodName) prog_1_method_9_code (5 : Nat) (Option.none : Option Jvm.ClassFile.FieldType), Jvm.Cond.code ({ cls := "ProRataBook", name := "sortLevel", desc := "()V" } : Jvm.MethodName) prog_1_method_10_code (6 : Nat) (Option.none : Option Jvm.ClassFile.FieldType), Jvm.Cond.code ({ cls := "ProRataBook", name := "allocate", desc := "(I)I" } : Jvm.MethodName) prog_1_method_11_code (7 : Nat) (Option.some Jvm.ClassFile.FieldType.int), Jvm.Cond.code ({ cls := "ProRataBook", name := "topStep", desc := "(I)I" } : Jvm.MethodName) prog_1_method_12_code (5 : Nat) (Option.some Jvm.ClassFile.FieldType.int), Jvm.Cond.code ({ cls := "ProRataBook", name := "timeStep", desc := "(I)V" } : Jvm.MethodName) prog_1_method_14_code (6 : Nat) (Option.none : Option Jvm.ClassFile.FieldType), Jvm.Cond.code ({ cls := "ProRataBook", name := "applyLevel", desc := "(I)V" } : Jvm.MethodName) prog_1_method_15_code (5 : Nat) (Option.none : Option Jvm.ClassFile.FieldType), Jvm.Cond.code ({ cls := "ProRataBook", name := "fillId", desc := "(I)I" } : Jvm.MethodName) prog_1_method_31_code (2 : Nat) (Option.some Jvm.ClassFile.FieldType.int), Jvm.Cond.code ({ cls := "ProRataBook", name := "fillQty", desc := "(I)I" } : Jvm.MethodName) prog_1_method_32_code (2 : Nat) (Option.some Jvm.ClassFile.FieldType.int), Jvm.Cond.code ({ cls := "ProRataBook", name := "fillPrice", desc := "(I)I" } : Jvm.MethodName) prog_1_method_33_code (2 : Nat) (Option.some Jvm.ClassFile.FieldType.int), Jvm.Cond.code ({ cls := "ProRataBook", name := "cancel", desc := "(I)I" } : Jvm.MethodName) prog_1_method_19_code (2 : Nat) (Option.some Jvm.ClassFile.FieldType.int), Jvm.Cond.code ({ cls := "ProRataBook", name := "removeResting", desc := "(I)V" } : Jvm.MethodName) prog_1_method_16_code (3 : Nat) (Option.none : Option Jvm.ClassFile.FieldType), Jvm.Cond.code ({ cls := "ProRataBook", name := "proRataStep", desc := "(I)I" } : Jvm.MethodName) prog_1_method_13_code (9 : Nat) (Option.some Jvm.ClassFile.FieldType.int), Jvm.Cond.code ({ cls := "ProRataBook", name := "amend", desc := "(II)I" } : Jvm.MethodName) prog_1_method_20_code (3 : Nat) (Option.some Jvm.ClassFile.FieldType.int)]
set_option maxRecDepth 65536 in
theorem codes_eq : words1.filter isCode = codes1 := rfl
theorem w_codes : ∀ c ∈ words1.filter isCode, c.before args0 about1 = true := by
  rw [codes_eq]
  intro c hc
  simp only [codes1, List.mem_cons, List.not_mem_nil, or_false] at hc
  rcases hc with rfl | rfl | rfl | rfl | rfl | rfl | rfl | rfl | rfl | rfl | rfl | rfl | rfl | rfl | rfl | rfl | rfl | rfl | rfl | rfl | rfl | rfl | rfl | rfl | rfl | rfl | rfl | rfl | rfl | rfl | rfl | rfl | rfl
  · exact w_c0
  · exact w_c1
  · exact w_c2
  · exact w_c3
  · exact w_c4
  · exact w_c5
  · exact w_c6
  · exact w_c7
  · exact w_c8
  · exact w_c9
  · exact w_c10
  · exact w_c11
  · exact w_c12
  · exact w_c13
  · exact w_c14
  · exact w_c15
  · exact w_c16
  · exact w_c17
  · exact w_c18
  · exact w_c19
  · exact w_c20
  · exact w_c21
  · exact w_c22
  · exact w_c23
  · exact w_c24
  · exact w_c25
  · exact w_c26
  · exact w_c27
  · exact w_c28
  · exact w_c29
  · exact w_c30
  · exact w_c31
  · exact w_c32
set_option maxRecDepth 65536 in
theorem w_t1 : (words1.take 24).all (fun c => isCode c || c.before args0 about1) = true := by decide +kernel
set_option maxRecDepth 65536 in
theorem w_t2 : ((words1.drop 24).take 24).all (fun c => isCode c || c.before args0 about1) = true := by decide +kernel
set_option maxRecDepth 65536 in
theorem w_t3 : (((words1.drop 24).drop 24).take 24).all (fun c => isCode c || c.before args0 about1) = true := by decide +kernel
set_option maxRecDepth 65536 in
theorem w_t4 : ((((words1.drop 24).drop 24).drop 24).take 24).all (fun c => isCode c || c.before args0 about1) = true := by decide +kernel
set_option maxRecDepth 65536 in
theorem w_t5 : (((((words1.drop 24).drop 24).drop 24).drop 24).take 24).all (fun c => isCode c || c.before args0 about1) = true := by decide +kernel
set_option maxRecDepth 65536 in
theorem w_t6 : ((((((words1.drop 24).drop 24).drop 24).drop 24).drop 24).take 24).all (fun c => isCode c || c.before args0 about1) = true := by decide +kernel
set_option maxRecDepth 65536 in
theorem w_t7 : (((((((words1.drop 24).drop 24).drop 24).drop 24).drop 24).drop 24).take 24).all (fun c => isCode c || c.before args0 about1) = true := by decide +kernel
set_option maxRecDepth 65536 in
theorem w_t8 : (((((((words1.drop 24).drop 24).drop 24).drop 24).drop 24).drop 24).drop 24).all (fun c => isCode c || c.before args0 about1) = true := by decide +kernel
theorem w_tables : (allAtoms (Jvm.Cond.code x code maxLocals ret :: tables_1)).before args0 about1 = true := by
  rw [allAtoms_all]
  show words1.all (fun c => c.before args0 about1) = true
  refine all_split ?_ w_codes
  rw [← List.take_append_drop 24 words1, List.all_append, w_t1, ← List.take_append_drop 24 (words1.drop 24), List.all_append, w_t2, ← List.take_append_drop 24 ((words1.drop 24).drop 24), List.all_append, w_t3, ← List.take_append_drop 24 (((words1.drop 24).drop 24).drop 24), List.all_append, w_t4, ← List.take_append_drop 24 ((((words1.drop 24).drop 24).drop 24).drop 24), List.all_append, w_t5, ← List.take_append_drop 24 (((((words1.drop 24).drop 24).drop 24).drop 24).drop 24), List.all_append, w_t6, ← List.take_append_drop 24 ((((((words1.drop 24).drop 24).drop 24).drop 24).drop 24).drop 24), List.all_append, w_t7, w_t8]
  rfl
set_option maxRecDepth 65536 in
theorem w_rest : rest_1_c.before args0 about1 = true := by decide +kernel
set_option maxRecDepth 65536 in
theorem w_case : (Jvm.Cond.and given_1 narrow_1).before args0 about1 = true := by decide +kernel
theorem w_applies : (headSpec (Jvm.Cond.code x code maxLocals ret :: tables_1) room_1).applies x e0.platform about1 = true :=
  (Spec.applies_iff w_frames).mpr ⟨w_running, w_runnable, w_alone, w_named, w_hears, w_ripe, w_room, w_tables⟩
theorem atStart : AtStart classFile x code maxLocals ret World_1 tables_1 room_1 Calls_1 rest_1 Pre_1 launch0 p0 e0 about1 theMethod args0 below0 :=
  ⟨lists_1, trivial, launch0.admits_env _ _ _, launch0.least_env, fairChoices_fair.cas, fairChoices_fair.clock, w_frames, w_args, w_heap, w_applies, trivial, w_rest, w_case⟩
end start1
theorem witness_1 : WitnessClaimed_1 := ⟨start1.p0, start1.e0, start1.about1, start1.theMethod, start1.args0, start1.below0, start1.atStart⟩
end Jvm.Pilot.@@N@@
