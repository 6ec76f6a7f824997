import JvmDerived
import JvmDerived.Pilot.@@N@@Statement
import JvmDerived.Pilot.@@N@@Code
set_option linter.unusedVariables false
set_option linter.unusedSimpArgs false
namespace Jvm.Own
open Jvm Jvm.ClassFile Sem Op Lib Jvm.Free Jvm.Stand Jvm.LawKit Jvm.RoadKit Bundle

/-! A plain machine: the few instructions that these classes use, over a heap of plain lists. -/
/-- an object (class number, fields in order) | an int array (false) or boolean array (true) | a long array -/
abbrev ACell := (Nat × List Value) ⊕ ((Bool × List Int32) ⊕ List Int64)
abbrev AHeap := List ACell
/-- instruction, length, variables forgotten ahead of it, link number, constant -/
abbrev It := Instr × Nat × List Bool × Nat × Int
/-- a field: name, descriptor, type, final -/
abbrev FD := String × String × FieldType × Bool
/-- a class: name, number of its slots, its fields -/
abbrev CD := String × Nat × List FD
/-- a method: name, bytes, variables, return type; kind (0 static, 1 constructor, 2 private, 3 virtual), parameters, class number, frames, words; code -/
abbrev MD := MethodName × ByteArray × Nat × Option FieldType × Nat × Nat × Nat × Nat × Nat × List (Nat × It)
/-- classes, methods, number of cells that are only read -/
abbrev PD := List CD × List MD × Nat
abbrev PD.cls (P : PD) : List CD := P.1
abbrev PD.mth (P : PD) : List MD := P.2.1
abbrev PD.nr (P : PD) : Nat := P.2.2
abbrev MD.name (d : MD) : MethodName := d.1
abbrev MD.bytes (d : MD) : ByteArray := d.2.1
abbrev MD.maxL (d : MD) : Nat := d.2.2.1
abbrev MD.ret (d : MD) : Option FieldType := d.2.2.2.1
abbrev MD.kind (d : MD) : Nat := d.2.2.2.2.1
abbrev MD.npar (d : MD) : Nat := d.2.2.2.2.2.1
abbrev MD.cid (d : MD) : Nat := d.2.2.2.2.2.2.1
abbrev MD.rf (d : MD) : Nat := d.2.2.2.2.2.2.2.1
abbrev MD.rw (d : MD) : Nat := d.2.2.2.2.2.2.2.2.1
abbrev MD.code (d : MD) : List (Nat × It) := d.2.2.2.2.2.2.2.2.2

def rdA {α : Type} (L : List α) (j : Int32) : Option α := if j < 0 then none else L[j.toNatClampNeg]?
def wrA {α : Type} (L : List α) (j : Int32) (x : α) : Option (List α) := if j < 0 then none else if j.toNatClampNeg < L.length then some (L.set j.toNatClampNeg x) else none
def getL (L : List Slot) (k : Nat) : Option Value := match L[k]? with | some (.val v) => some v | _ => none
def isC2 : Option Slot → Bool | some (.val v) => v.category == 2 | _ => false
def isSec : Option Slot → Bool | some .second => true | _ => false
def free1 : Option Slot → Bool | some .unset => true | some (.val v) => v.category == 1 | _ => false
def st1 (L : List Slot) (k : Nat) (v : Value) : Option (List Slot) :=
  if free1 L[k]? && (k == 0 || !isC2 L[k - 1]?) && !isSec L[k + 1]? then some (L.set k (.val v)) else none
def free2 : Option Slot → Option Slot → Bool | some .unset, some .unset => true | some (.val v), some .second => v.category == 2 | _, _ => false
def st2 (L : List Slot) (k : Nat) (v : Value) : Option (List Slot) :=
  if free2 L[k]? L[k + 1]? && (k == 0 || !isC2 L[k - 1]?) && !isSec L[k + 2]? then some ((L.set k (.val v)).set (k + 1) .second) else none
def forget : List Bool → List Slot → List Slot
  | [], L => L
  | _ :: _, [] => []
  | true :: r, _ :: L => .unset :: forget r L
  | false :: r, s :: L => s :: forget r L
def catSum : List Value → Nat
  | [] => 0
  | v :: r => v.category + catSum r
def entA : List Value → List Slot
  | [] => []
  | v :: r => if v.category = 2 then .val v :: .second :: entA r else .val v :: entA r
def entL (as : List Value) (n : Nat) : List Slot := entA as ++ List.replicate (n - (entA as).length) .unset
def putOk : FieldType → Value → Bool
  | .int, .int _ => true
  | .long, .long _ => true
  | .boolean, .int x => (x == 0) || (x == 1)
  | .array _, .ref _ => true
  | _, _ => false
def dflt : FieldType → Value
  | .long => .long 0
  | .array _ => .null
  | _ => .int 0
def dfOk : FieldType → Bool
  | .int => true
  | .boolean => true
  | .long => true
  | .array _ => true
  | _ => false
def tgt (pc : Nat) (o : Int) : Option Nat := if 0 ≤ (pc : Int) + o then some ((pc : Int) + o).toNat else none
def fetch : List (Nat × It) → Nat → Option It
  | [], _ => none
  | (q, i) :: r, pc => if q = pc then some i else fetch r pc
/-- one instruction that neither branches nor calls nor returns -/
def xI (P : PD) (ini : Bool) (cid : Nat) (i : Instr) (a : Nat) (b : Int) (L : List Slot) (S : List Value) (H : AHeap) : Option (List Slot × List Value × AHeap) :=
  match i with
  | .aload_n k => match getL L k.val with | some (.ref x) => some (L, .ref x :: S, H) | _ => none
  | .aload k => match getL L k with | some (.ref x) => some (L, .ref x :: S, H) | _ => none
  | .iload_n k => match getL L k.val with | some (.int x) => some (L, .int x :: S, H) | _ => none
  | .iload k => match getL L k with | some (.int x) => some (L, .int x :: S, H) | _ => none
  | .lload_n k => match getL L k.val with | some (.long x) => some (L, .long x :: S, H) | _ => none
  | .lload k => match getL L k with | some (.long x) => some (L, .long x :: S, H) | _ => none
  | .istore_n k => match S with | .int x :: S' => (st1 L k.val (.int x)).map fun L' => (L', S', H) | _ => none
  | .istore k => match S with | .int x :: S' => (st1 L k (.int x)).map fun L' => (L', S', H) | _ => none
  | .astore_n k => match S with | .ref x :: S' => (st1 L k.val (.ref x)).map fun L' => (L', S', H) | _ => none
  | .astore k => match S with | .ref x :: S' => (st1 L k (.ref x)).map fun L' => (L', S', H) | _ => none
  | .lstore_n k => match S with | .long x :: S' => (st2 L k.val (.long x)).map fun L' => (L', S', H) | _ => none
  | .lstore k => match S with | .long x :: S' => (st2 L k (.long x)).map fun L' => (L', S', H) | _ => none
  | .iinc k d => match getL L k with | some (.int x) => (st1 L k (.int (x + Int32.ofInt d))).map fun L' => (L', S, H) | _ => none
  | .iconst d => some (L, .int (Int32.ofInt d) :: S, H)
  | .bipush d => some (L, .int (Int8.ofInt d).toInt32 :: S, H)
  | .sipush d => some (L, .int (Int16.ofInt d).toInt32 :: S, H)
  | .lconst k => some (L, .long (Int64.ofNat k) :: S, H)
  | .ldc _ => some (L, .int (Int32.ofInt b) :: S, H)
  | .ldc2_w _ => some (L, .long (Int64.ofInt b) :: S, H)
  | .iadd => match S with | .int y :: .int x :: S' => some (L, .int (x + y) :: S', H) | _ => none
  | .isub => match S with | .int y :: .int x :: S' => some (L, .int (x - y) :: S', H) | _ => none
  | .imul => match S with | .int y :: .int x :: S' => some (L, .int (x * y) :: S', H) | _ => none
  | .iand => match S with | .int y :: .int x :: S' => some (L, .int (x &&& y) :: S', H) | _ => none
  | .ior => match S with | .int y :: .int x :: S' => some (L, .int (x ||| y) :: S', H) | _ => none
  | .ixor => match S with | .int y :: .int x :: S' => some (L, .int (x ^^^ y) :: S', H) | _ => none
  | .ishl => match S with | .int y :: .int x :: S' => some (L, .int (x <<< (y &&& 31)) :: S', H) | _ => none
  | .ishr => match S with | .int y :: .int x :: S' => some (L, .int (x >>> (y &&& 31)) :: S', H) | _ => none
  | .iushr => match S with | .int y :: .int x :: S' => some (L, .int (XT.ushr x y) :: S', H) | _ => none
  | .idiv => match S with | .int y :: .int x :: S' => if y = 0 then none else some (L, .int (x / y) :: S', H) | _ => none
  | .irem => match S with | .int y :: .int x :: S' => if y = 0 then none else some (L, .int (x % y) :: S', H) | _ => none
  | .ladd => match S with | .long y :: .long x :: S' => some (L, .long (x + y) :: S', H) | _ => none
  | .lsub => match S with | .long y :: .long x :: S' => some (L, .long (x - y) :: S', H) | _ => none
  | .lmul => match S with | .long y :: .long x :: S' => some (L, .long (x * y) :: S', H) | _ => none
  | .land => match S with | .long y :: .long x :: S' => some (L, .long (x &&& y) :: S', H) | _ => none
  | .lor => match S with | .long y :: .long x :: S' => some (L, .long (x ||| y) :: S', H) | _ => none
  | .lxor => match S with | .long y :: .long x :: S' => some (L, .long (x ^^^ y) :: S', H) | _ => none
  | .lshl => match S with | .int y :: .long x :: S' => some (L, .long (x <<< (y.toInt64 &&& 63)) :: S', H) | _ => none
  | .lshr => match S with | .int y :: .long x :: S' => some (L, .long (x >>> (y.toInt64 &&& 63)) :: S', H) | _ => none
  | .lushr => match S with | .int y :: .long x :: S' => some (L, .long (XT.ushrL x y) :: S', H) | _ => none
  | .ldiv => match S with | .long y :: .long x :: S' => if y = 0 then none else some (L, .long (x / y) :: S', H) | _ => none
  | .lrem => match S with | .long y :: .long x :: S' => if y = 0 then none else some (L, .long (x % y) :: S', H) | _ => none
  | .lcmp => match S with | .long y :: .long x :: S' => some (L, .int (XT.cmpL x y) :: S', H) | _ => none
  | .i2l => match S with | .int x :: S' => some (L, .long x.toInt64 :: S', H) | _ => none
  | .l2i => match S with | .long x :: S' => some (L, .int x.toInt32 :: S', H) | _ => none
  | .dup => match S with
    | .int x :: S' => some (L, .int x :: .int x :: S', H)
    | .ref x :: S' => some (L, .ref x :: .ref x :: S', H)
    | _ => none
  | .dup2 => match S with
    | .int x :: .ref y :: S' => some (L, .int x :: .ref y :: .int x :: .ref y :: S', H)
    | .long x :: S' => some (L, .long x :: .long x :: S', H)
    | _ => none
  | .pop => match S with | .int _ :: S' => some (L, S', H) | _ => none
  | .getfield _ => match S with
    | .ref o :: S' => match H[o]? with
      | some (.inl (c, fs)) => if c = cid then match fs[a]? with
        | some (.int x) => some (L, .int x :: S', H)
        | some (.long x) => some (L, .long x :: S', H)
        | some (.ref x) => some (L, .ref x :: S', H)
        | _ => none
        else none
      | _ => none
    | _ => none
  | .putfield _ => match S with
    | v :: .ref o :: S' => match H[o]? with
      | some (.inl (c, fs)) => if c = cid ∧ P.nr ≤ o then match (P.cls[c]?).bind fun cd => cd.2.2[a]? with
        | some (_, _, ty, fin) => if putOk ty v && (!fin || ini) then some (L, S', H.set o (.inl (c, fs.set a v))) else none
        | none => none
        else none
      | _ => none
    | _ => none
  | .iaload => match S with
    | .int j :: .ref o :: S' => match H[o]? with
      | some (.inr (.inl (false, A))) => (rdA A j).map fun x => (L, .int x :: S', H)
      | _ => none
    | _ => none
  | .baload => match S with
    | .int j :: .ref o :: S' => match H[o]? with
      | some (.inr (.inl (true, A))) => (rdA A j).map fun x => (L, .int x :: S', H)
      | _ => none
    | _ => none
  | .laload => match S with
    | .int j :: .ref o :: S' => match H[o]? with
      | some (.inr (.inr A)) => (rdA A j).map fun x => (L, .long x :: S', H)
      | _ => none
    | _ => none
  | .iastore => match S with
    | .int x :: .int j :: .ref o :: S' => match H[o]? with
      | some (.inr (.inl (false, A))) => if P.nr ≤ o then (wrA A j x).map fun A' => (L, S', H.set o (.inr (.inl (false, A')))) else none
      | _ => none
    | _ => none
  | .bastore => match S with
    | .int x :: .int j :: .ref o :: S' => match H[o]? with
      | some (.inr (.inl (true, A))) => if P.nr ≤ o then (wrA A j (x &&& 1)).map fun A' => (L, S', H.set o (.inr (.inl (true, A')))) else none
      | _ => none
    | _ => none
  | .lastore => match S with
    | .long x :: .int j :: .ref o :: S' => match H[o]? with
      | some (.inr (.inr A)) => if P.nr ≤ o then (wrA A j x).map fun A' => (L, S', H.set o (.inr (.inr A'))) else none
      | _ => none
    | _ => none
  | .arraylength => match S with
    | .ref o :: S' => match H[o]? with
      | some (.inr (.inl (_, A))) => some (L, .int A.length.toInt32 :: S', H)
      | _ => none
    | _ => none
  | _ => none
/-- one instruction that makes a cell: how many slots it takes stands last -/
def xN (P : PD) (i : Instr) (a : Nat) (S : List Value) (H : AHeap) : Option (List Value × AHeap × Nat) :=
  match i with
  | .new _ => match P.cls[a]? with
    | some cd => some (.ref H.length :: S, H ++ [.inl (a, cd.2.2.map fun f => dflt f.2.2.1)], cd.2.1)
    | none => none
  | .newarray t => match S with
    | .int n :: S' => if n < 0 ∨ 100000 < n.toNatClampNeg then none else match t with
      | .int => some (.ref H.length :: S', H ++ [.inr (.inl (false, List.replicate n.toNatClampNeg 0))], n.toNatClampNeg)
      | .boolean => some (.ref H.length :: S', H ++ [.inr (.inl (true, List.replicate n.toNatClampNeg 0))], n.toNatClampNeg)
      | .long => some (.ref H.length :: S', H ++ [.inr (.inr (List.replicate n.toNatClampNeg 0))], n.toNatClampNeg)
      | _ => none
    | _ => none
  | _ => none
/-- the words that a call from d to y asks -/
def fitsRoom (d y : MD) (rest : List Value) : Bool := decide (y.rf + 1 ≤ d.rf) && decide (catSum rest + (y.maxL + 11) + y.rw ≤ d.rw)
/-- the arguments of a call, first to last, and what lies under them -/
def argsOf (n : Nat) (S : List Value) : Option (List Value × List Value) := if n ≤ S.length then some ((S.take n).reverse, S.drop n) else none
def recvOk (P : PD) (H : AHeap) (y : MD) (as : List Value) : Bool :=
  if y.kind = 0 then true else match as with
    | .ref o :: _ => match H[o]? with
      | some (.inl (c, _)) => decide (c = y.cid)
      | _ => false
    | _ => false
def nargs (y : MD) : Nat := if y.kind = 0 then y.npar else y.npar + 1
def invKind (i : Instr) (k : Nat) : Bool := match i with
  | .invokestatic _ => k == 0
  | .invokespecial _ => k == 1
  | .invokevirtual _ => k == 2 || k == 3
  | _ => false
/-- what a method returns of an int on its stack -/
def retV (r : Option FieldType) (x : Int32) : Option Value := match r with
  | some .int => some (.int x)
  | some .boolean => some (.int (x &&& 1))
  | _ => none
def isInv : Instr → Bool
  | .invokestatic _ => true
  | .invokespecial _ => true
  | .invokevirtual _ => true
  | _ => false
def isNew : Instr → Bool
  | .new _ => true
  | .newarray _ => true
  | _ => false
/-- what a run answers: what it returns, the heap, how many cells and slots it has made -/
abbrev Res := Option Value × AHeap × Nat × Nat
def addR (r : Res) (kc ks : Nat) : Res := (r.1, r.2.1, r.2.2.1 + kc, r.2.2.2 + ks)
/-- n instructions at the most, from pc of method mi to its return -/
def exe (P : PD) : Nat → Nat → Nat → List Slot → List Value → AHeap → Option Res
  | 0, _, _, _, _, _ => none
  | n + 1, mi, pc, L0, S, H => match P.mth[mi]? with
    | none => none
    | some d => match fetch d.code pc with
      | none => none
      | some (i, len, er, a, b) =>
        let L := forget er L0
        match i with
        | .goto o => match tgt pc o with
          | some q => exe P n mi q L S H
          | none => none
        | .if_icmp cd o => match S with
          | .int y :: .int x :: S' => if if_icmp.holds cd x y = true then match tgt pc o with
              | some q => exe P n mi q L S' H
              | none => none
            else exe P n mi (pc + 3) L S' H
          | _ => none
        | .ifCond cd o => match S with
          | .int x :: S' => if ifCond.holds cd x = true then match tgt pc o with
              | some q => exe P n mi q L S' H
              | none => none
            else exe P n mi (pc + 3) L S' H
          | _ => none
        | .ifnonnull o => match S with
          | .ref _ :: S' => match tgt pc o with
            | some q => exe P n mi q L S' H
            | none => none
          | _ => none
        | .ireturn => match S with
          | [.int x] => match retV d.ret x with
            | some v => some (some v, H, 0, 0)
            | none => none
          | _ => none
        | .lreturn => match S with
          | [.long x] => if d.ret = some .long then some (some (.long x), H, 0, 0) else none
          | _ => none
        | .return_ => match S with
          | [] => if d.ret = none then some (none, H, 0, 0) else none
          | _ => none
        | i => if isInv i = true then
            if b = -1 then match i, S with
              | .invokespecial _, .ref _ :: S' => if 1 ≤ d.rf ∧ catSum S' + 12 ≤ d.rw then exe P n mi (pc + 3) L S' H else none
              | _, _ => none
            else match P.mth[a]? with
              | none => none
              | some y => match argsOf (nargs y) S with
                | none => none
                | some (as, rest) =>
                  if decide (0 < a) && invKind i y.kind && recvOk P H y as && fitsRoom d y rest && decide ((entA as).length ≤ y.maxL) then
                    match exe P n a 0 (entL as y.maxL) [] H with
                    | some (v, H1, kc, ks) => (exe P n mi (pc + 3) L (v.toList ++ rest) H1).map fun r => addR r kc ks
                    | none => none
                  else none
          else if isNew i = true then match xN P i a S H with
            | some (S', H', ks) => (exe P n mi (pc + len) L S' H').map fun r => addR r 1 ks
            | none => none
          else match xI P (d.name.name == "<init>") d.cid i a b L S H with
            | some (L', S', H') => exe P n mi (pc + len) L' S' H'
            | none => none
end Jvm.Own
namespace Jvm.Own
open Jvm Jvm.ClassFile Sem Op Lib Jvm.Free Jvm.Stand Jvm.LawKit Jvm.RoadKit Bundle

/-! The words that the machine's program rests on -/
def fWord (C : String) (f : FD) : Jvm.Cond := if f.2.2.2 then .laysFinal C C f.1 f.2.1 else .lays C C f.1 f.2.1
def cWords (cd : CD) : List Jvm.Cond := .instantiable cd.1 cd.2.1 :: .initialized cd.1 :: cd.2.2.map (fWord cd.1)
def mWords (y : MD) : List Jvm.Cond := .code y.name y.bytes y.maxL y.ret :: .initialized y.name.cls ::
  (if y.kind = 0 then [.static y.name] else if y.kind = 1 then [.instanceMethod y.name] else if y.kind = 2 then [.instanceMethod y.name, .privateMethod y.name]
   else [.declares y.name, .selects y.name.cls y.name y.name, .instanceMethod y.name])
def fieldOf (P : PD) (c a : Nat) : Option FD := (P.cls[c]?).bind fun cd => cd.2.2[a]?
def fLink (P : PD) (d : MD) (k a : Nat) : List Jvm.Cond := match fieldOf P d.cid a with | some f => [.fieldLink d.name.cls k d.name.cls f.1 f.2.1] | none => []
def mLink (P : PD) (d : MD) (k a : Nat) (b : Int) : List Jvm.Cond :=
  if b = -1 then [.methodLink d.name.cls k Lib.objectInit, .instanceMethod Lib.objectInit, .code Lib.objectInit ⟨#[0xb1]⟩ 1 none]
  else match P.mth[a]? with | some y => [.methodLink d.name.cls k y.name] | none => []
def iWords (P : PD) (d : MD) (x : Nat × It) : List Jvm.Cond := match x with
  | (_, .getfield k, _, _, a, _) => fLink P d k a
  | (_, .putfield k, _, _, a, _) => fLink P d k a
  | (_, .ldc k, _, _, _, b) => [.constant d.name.cls k (Int32.ofInt b)]
  | (_, .ldc2_w k, _, _, _, b) => [.constantLong d.name.cls k (Int64.ofInt b)]
  | (_, .new k, _, _, a, _) => match P.cls[a]? with | some cd => [.classLink d.name.cls k cd.1] | none => []
  | (_, .newarray t, _, _, _, _) => [.arrayClass (newarray.typeOf t)]
  | (_, .invokestatic k, _, _, a, b) => mLink P d k a b
  | (_, .invokespecial k, _, _, a, b) => mLink P d k a b
  | (_, .invokevirtual k, _, _, a, b) => mLink P d k a b
  | _ => []
def wordsOf (P : PD) : List Jvm.Cond := P.cls.flatMap cWords ++ (P.mth.drop 1).flatMap mWords ++ P.mth.flatMap fun d => d.code.flatMap (iWords P d)
/-! What can be looked up in the program itself -/
def nodup : List String → Bool
  | [] => true
  | x :: r => !r.contains x && nodup r
def fChk (f : FD) : Bool := decide (parseFieldDescriptor f.2.1 = some f.2.2.1) && dfOk f.2.2.1
def cChk (cd : CD) : Bool := nodup (cd.2.2.map fun f => f.1) && cd.2.2.all fChk
def sigChk (y : MD) : Bool := match parseMethodDescriptor y.name.desc with
  | some g => decide (g.parameters.length = y.npar)
  | none => false
def lenOk (i : Instr) (n : Nat) : Bool := match i with
  | .aload _ | .iload _ | .lload _ | .istore _ | .astore _ | .lstore _ | .bipush _ | .ldc _ | .newarray _ => n == 2
  | .iinc _ _ | .sipush _ | .ldc2_w _ | .getfield _ | .putfield _ | .new _ | .goto _ | .if_icmp _ _ | .ifCond _ _ | .ifnonnull _ | .invokestatic _ | .invokespecial _ | .invokevirtual _ => n == 3
  | _ => n == 1
def codeChk (y : MD) : Bool := y.code.all fun x => decide (decode y.bytes x.1 = .ok (x.2.1, x.2.2.1)) && lenOk x.2.1 x.2.2.1
def clsChk (P : PD) (y : MD) : Bool := match P.cls[y.cid]? with | some cd => cd.1 == y.name.cls | none => y.kind == 0
def mChk (P : PD) (y : MD) : Bool := plainName y.name.cls && sigChk y && codeChk y && clsChk P y && decide (y.name.cls ≠ "java/lang/invoke/MethodHandle") && decide (y.name.cls ≠ "java/lang/invoke/VarHandle") && (y.kind != 1 || (y.name.name == "<init>" && decide (y.ret = none)))
def chk (P : PD) : Bool := P.cls.all cChk && P.mth.all (mChk P)

/-! Plain and real values -/
def VR (ρ : List Addr) : Value → Value → Prop
  | .ref k, w => ∃ a, ρ[k]? = some a ∧ w = .ref a
  | v, w => w = v
def SR (ρ : List Addr) : List Value → List Value → Prop
  | [], ws => ws = []
  | v :: vs, ws => ∃ w ws', ws = w :: ws' ∧ VR ρ v w ∧ SR ρ vs ws'
def OV (ρ : List Addr) : Option Value → Option Value → Prop
  | none, w => w = none
  | some v, w => ∃ u, w = some u ∧ VR ρ v u
def WFc (A : Array Slot) : Prop := (∀ (i : Nat) w, A[i]? = some (.val w) → w.category = 2 → A[i + 1]? = some .second) ∧ ∀ (i : Nat), A[i]? = some .second → ∃ j w, i = j + 1 ∧ A[j]? = some (.val w) ∧ w.category = 2
def SlR (ρ : List Addr) : Slot → Option Slot → Prop
  | .unset, _ => True
  | .second, o => o = some .second
  | .val v, o => ∃ w, VR ρ v w ∧ o = some (.val w)
def LR (ρ : List Addr) (L : List Slot) (A : Array Slot) : Prop := A.size = L.length ∧ WFc A ∧ ∀ (i : Nat) s, L[i]? = some s → SlR ρ s A[i]?
theorem VR.mono {ρ t : List Addr} {v w : Value} (h : VR ρ v w) : VR (ρ ++ t) v w := by
  cases v <;> first | exact h | skip
  obtain ⟨a, h1, h2⟩ := h
  exact ⟨a, by rw [List.getElem?_append_left (List.getElem?_eq_some_iff.mp h1).1]; exact h1, h2⟩
theorem SR.mono {ρ t : List Addr} : ∀ {v w : List Value}, SR ρ v w → SR (ρ ++ t) v w
  | [], _, h => h
  | _ :: _, _, ⟨w, ws, h1, h2, h3⟩ => ⟨w, ws, h1, h2.mono, SR.mono h3⟩
theorem SlR.mono {ρ t : List Addr} {s : Slot} {o : Option Slot} (h : SlR ρ s o) : SlR (ρ ++ t) s o := by
  cases s with
  | unset => trivial
  | second => exact h
  | val v => obtain ⟨w, h1, h2⟩ := h; exact ⟨w, h1.mono, h2⟩
theorem LR.mono {ρ t : List Addr} {L : List Slot} {A : Array Slot} (h : LR ρ L A) : LR (ρ ++ t) L A := ⟨h.1, h.2.1, fun i s q => (h.2.2 i s q).mono⟩
theorem VR.cat {ρ : List Addr} {v w : Value} (h : VR ρ v w) : w.category = v.category := by
  cases v <;> first | (obtain ⟨a, -, rfl⟩ := h; rfl) | (cases h; rfl)
theorem SR.cat {ρ : List Addr} : ∀ {v w : List Value}, SR ρ v w → (w.map fun v => v.category).sum = catSum v
  | [], _, h => by cases h; rfl
  | _ :: _, _, ⟨w, ws, h1, h2, h3⟩ => by subst h1; simp [catSum, h2.cat, SR.cat h3]
theorem SR.len {ρ : List Addr} : ∀ {v w : List Value}, SR ρ v w → w.length = v.length
  | [], _, h => by cases h; rfl
  | _ :: _, _, ⟨w, ws, h1, h2, h3⟩ => by subst h1; simp [SR.len h3]
theorem SR.app {ρ : List Addr} : ∀ {v w v' w' : List Value}, SR ρ v w → SR ρ v' w' → SR ρ (v ++ v') (w ++ w')
  | [], _, _, _, h, h' => by cases h; exact h'
  | _ :: _, _, _, _, ⟨w, ws, h1, h2, h3⟩, h' => by subst h1; exact ⟨w, ws ++ _, rfl, h2, SR.app h3 h'⟩
theorem SR.rev {ρ : List Addr} : ∀ {v w : List Value}, SR ρ v w → SR ρ v.reverse w.reverse
  | [], _, h => by cases h; exact rfl
  | _ :: _, _, ⟨w, ws, h1, h2, h3⟩ => by subst h1; simp only [List.reverse_cons]; exact (SR.rev h3).app ⟨w, [], rfl, h2, rfl⟩
theorem SR.take {ρ : List Addr} : ∀ (n : Nat) {v w : List Value}, SR ρ v w → SR ρ (v.take n) (w.take n)
  | 0, _, _, _ => rfl
  | n + 1, [], _, h => by cases h; exact rfl
  | n + 1, _ :: _, _, ⟨w, ws, h1, h2, h3⟩ => by subst h1; exact ⟨w, _, rfl, h2, SR.take n h3⟩
theorem SR.drop {ρ : List Addr} : ∀ (n : Nat) {v w : List Value}, SR ρ v w → SR ρ (v.drop n) (w.drop n)
  | 0, _, _, h => h
  | n + 1, [], _, h => by cases h; exact rfl
  | n + 1, _ :: _, _, ⟨w, ws, h1, h2, h3⟩ => by subst h1; exact SR.drop n h3
theorem OV.list {ρ : List Addr} {v w : Option Value} (h : OV ρ v w) : SR ρ v.toList w.toList := by
  cases v with
  | none => cases h; exact rfl
  | some v => obtain ⟨u, rfl, h⟩ := h; exact ⟨u, [], rfl, h, rfl⟩
theorem LR.get {ρ : List Addr} {L : List Slot} {A : Array Slot} (h : LR ρ L A) {k : Nat} {v : Value} (g : getL L k = some v) : ∃ w, VR ρ v w ∧ A[k]? = some (.val w) := by
  unfold getL at g
  split at g
  · rename_i u q
    cases g
    exact h.2.2 k _ q
  · cases g
theorem forget_get : ∀ (er : List Bool) (L : List Slot) (i : Nat) (s : Slot), (forget er L)[i]? = some s → s = .unset ∨ L[i]? = some s
  | [], L, i, s, h => Or.inr h
  | _ :: _, [], i, s, h => by simp [forget] at h
  | true :: r, t :: L, 0, s, h => by simp [forget] at h; exact Or.inl h.symm
  | false :: r, t :: L, 0, s, h => by simp [forget] at h; exact Or.inr (by simp [h])
  | true :: r, t :: L, i + 1, s, h => by simp [forget] at h; simpa using forget_get r L i s h
  | false :: r, t :: L, i + 1, s, h => by simp [forget] at h; simpa using forget_get r L i s h
theorem forget_len : ∀ (er : List Bool) (L : List Slot), (forget er L).length = L.length
  | [], _ => rfl
  | _ :: _, [] => rfl
  | true :: r, _ :: L => by simp [forget, forget_len r L]
  | false :: r, _ :: L => by simp [forget, forget_len r L]
theorem LR.forget {ρ : List Addr} {A : Array Slot} (er : List Bool) {L : List Slot} (h : LR ρ L A) : LR ρ (forget er L) A :=
  ⟨by rw [forget_len]; exact h.1, h.2.1, fun i s q => by
    rcases forget_get er L i s q with rfl | z
    · trivial
    · exact h.2.2 i s z⟩
/-! Stores -/
theorem setAt_ok {A : Array Slot} {i : Nat} (h : i < A.size) (x : Slot) : setAt A i x = some (A.setIfInBounds i x) := by simp [setAt, h]
theorem get_set (A : Array Slot) (i j : Nat) (x : Slot) : (A.setIfInBounds i x)[j]? = if i = j then (if i < A.size then some x else none) else A[j]? := by
  rw [Array.getElem?_setIfInBounds]
theorem sl_unset {A : Array Slot} {k : Nat} {w : Value} (h : A[k]? = some .unset) : storeLocals A k w = storeSelf A k w := by
  unfold storeLocals; rw [h]; rfl
theorem sl_second {A : Array Slot} {k : Nat} {w : Value} (h : A[k]? = some .second) (hk : k - 1 < A.size) : storeLocals A k w = storeSelf (A.setIfInBounds (k - 1) .unset) k w := by
  unfold storeLocals; rw [h]
  show (setAt A (k - 1) .unset).bind _ = _
  rw [setAt_ok hk]; rfl
theorem sl_val2 {A : Array Slot} {k : Nat} {w u : Value} (h : A[k]? = some (.val u)) (hu : u.category = 2) (hk : k + 1 < A.size) : storeLocals A k w = storeSelf (A.setIfInBounds (k + 1) .unset) k w := by
  unfold storeLocals; rw [h]
  show (if u.category = 2 then (setAt A (k + 1) .unset).bind _ else _) = _
  rw [if_pos hu, setAt_ok hk]; rfl
theorem sl_val1 {A : Array Slot} {k : Nat} {w u : Value} (h : A[k]? = some (.val u)) (hu : ¬ u.category = 2) : storeLocals A k w = storeSelf A k w := by
  unfold storeLocals; rw [h]
  show (if u.category = 2 then (setAt A (k + 1) .unset).bind _ else _) = _
  rw [if_neg hu]
theorem ss_1 {A : Array Slot} {k : Nat} {w : Value} (hk : k < A.size) (hw : ¬ w.category = 2) : storeSelf A k w = some (A.setIfInBounds k (.val w)) := by
  unfold storeSelf; rw [setAt_ok hk]
  show (if w.category = 2 then _ else _) = _
  rw [if_neg hw]
theorem ss_2c {A : Array Slot} {k : Nat} {w u : Value} (hk : k < A.size) (hk1 : k + 1 < A.size) (hk2 : k + 2 < A.size) (hw : w.category = 2) (h : (A.setIfInBounds k (.val w))[k + 1]? = some (.val u)) (hu : u.category = 2) : storeSelf A k w = some (((A.setIfInBounds k (.val w)).setIfInBounds (k + 2) .unset).setIfInBounds (k + 1) .second) := by
  unfold storeSelf; rw [setAt_ok hk]
  show (if w.category = 2 then _ else _) = _
  rw [if_pos hw, h]
  show (if u.category = 2 then (setAt _ (k + 2) .unset).bind _ else _) = _
  rw [if_pos hu, setAt_ok (by simpa using hk2)]
  exact setAt_ok (by simpa using hk1) _
theorem ss_2 {A : Array Slot} {k : Nat} {w : Value} {o : Slot} (hk : k < A.size) (hk1 : k + 1 < A.size) (hw : w.category = 2) (h : (A.setIfInBounds k (.val w))[k + 1]? = some o) (ho : ¬ ∃ u, o = .val u ∧ u.category = 2) : storeSelf A k w = some ((A.setIfInBounds k (.val w)).setIfInBounds (k + 1) .second) := by
  unfold storeSelf; rw [setAt_ok hk]
  show (if w.category = 2 then _ else _) = _
  rw [if_pos hw, h]
  cases o with
  | unset => exact setAt_ok (by simpa using hk1) _
  | second => exact setAt_ok (by simpa using hk1) _
  | val u =>
    show (if u.category = 2 then _ else _) = _
    rw [if_neg fun z => ho ⟨u, rfl, z⟩]
    exact setAt_ok (by simpa using hk1) _
theorem store1_sim {ρ : List Addr} {L : List Slot} {A : Array Slot} (h : LR ρ L A) {k : Nat} {v w : Value} {L' : List Slot} (hs : st1 L k v = some L') (hv : VR ρ v w) (hc : w.category = 1) : ∃ A', storeLocals A k w = some A' ∧ LR ρ L' A' := by
  unfold st1 at hs
  split at hs
  · rename_i q
    cases hs
    simp only [Bool.and_eq_true] at q
    obtain ⟨⟨q1, q2⟩, q3⟩ := q
    obtain ⟨hA, ⟨w1, w2⟩, hl⟩ := h
    have hk : k < L.length := by
      rcases Nat.lt_or_ge k L.length with z | z
      · exact z
      · rw [List.getElem?_eq_none z] at q1; cases q1
    have hkA : k < A.size := hA ▸ hk
    obtain ⟨sl, hsl⟩ : ∃ sl, A[k]? = some sl := ⟨A[k], Array.getElem?_eq_getElem hkA⟩
    have hc2 : ¬ w.category = 2 := by rw [hc]; decide
    classical
    have key : ∃ A', storeLocals A k w = some A' ∧ A'.size = A.size ∧ (∀ j, A'[j]? = if j = k then some (.val w) else if (sl = .second ∧ j + 1 = k) ∨ ((∃ u, sl = .val u ∧ u.category = 2) ∧ j = k + 1) then some .unset else A[j]?) := by
      cases sl with
      | unset =>
        refine ⟨A.setIfInBounds k (.val w), by rw [sl_unset hsl]; exact ss_1 hkA hc2, by simp, fun j => ?_⟩
        rw [get_set]
        by_cases e : k = j
        · subst e; simp [hkA]
        · have e' : ¬ j = k := fun z => e z.symm
          simp [e, e']
      | second =>
        obtain ⟨j0, u, rfl, g1, g2⟩ := w2 k hsl
        refine ⟨(A.setIfInBounds j0 .unset).setIfInBounds (j0 + 1) (.val w), by rw [sl_second hsl (show j0 + 1 - 1 < A.size by omega)]; exact ss_1 (by simpa using hkA) hc2, by simp, fun j => ?_⟩
        rw [get_set, get_set]
        by_cases e : j0 + 1 = j
        · subst e; simp [hkA]
        · by_cases e2 : j0 = j
          · subst e2; simp; omega
          · have e' : ¬ j = j0 + 1 := fun z => e z.symm
            have e2' : ¬ j = j0 := fun z => e2 z.symm
            simp [e, e', e2, e2']
      | val u =>
        by_cases hu : u.category = 2
        · have g := w1 k u hsl hu
          have hk1 : k + 1 < A.size := (Array.getElem?_eq_some_iff.mp g).1
          refine ⟨(A.setIfInBounds (k + 1) .unset).setIfInBounds k (.val w), by rw [sl_val2 hsl hu hk1]; exact ss_1 (by simpa using hkA) hc2, by simp, fun j => ?_⟩
          rw [get_set, get_set]
          by_cases e : k = j
          · subst e; simp [hkA]
          · have e' : ¬ j = k := fun z => e z.symm
            by_cases e2 : k + 1 = j
            · subst e2; simp [hk1, hu]
            · have e2' : ¬ j = k + 1 := fun z => e2 z.symm
              simp [e, e', e2, e2']
        · refine ⟨A.setIfInBounds k (.val w), by rw [sl_val1 hsl hu]; exact ss_1 hkA hc2, by simp, fun j => ?_⟩
          rw [get_set]
          by_cases e : k = j
          · subst e; simp [hkA]
          · have e' : ¬ j = k := fun z => e z.symm
            simp [e, e', hu]
    obtain ⟨A', k1, k2, k3⟩ := key
    refine ⟨A', k1, by rw [k2, hA]; simp, ⟨fun i u g1 g2 => ?_, fun i g1 => ?_⟩, fun i s g => ?_⟩
    · rw [k3] at g1
      split at g1
      · cases g1; exact absurd g2 hc2
      · rename_i e1
        split at g1
        · cases g1
        · rename_i e2
          have g3 := w1 i u g1 g2
          rw [k3]
          split
          · rename_i e3
            have : sl = .second := by rw [← e3] at hsl; exact Option.some.inj (hsl.symm.trans g3)
            exact absurd (Or.inl ⟨this, e3⟩) e2
          · rename_i e3
            split
            · rename_i e4
              rcases e4 with ⟨z1, z2⟩ | ⟨⟨u', z1, z2⟩, z3⟩
              · exfalso
                have : k = i + 1 + 1 := z2.symm
                subst this
                rw [z1] at hsl
                obtain ⟨j0, u0, y1, y2, y3⟩ := w2 _ hsl
                have : j0 = i + 1 := by omega
                subst this
                rw [g3] at y2; cases y2
              · exact absurd (by omega) e1
            · exact g3
    · rw [k3] at g1
      split at g1
      · cases g1
      · rename_i e1
        split at g1
        · cases g1
        · rename_i e2
          obtain ⟨j, u, z1, z2, z3⟩ := w2 i g1
          refine ⟨j, u, z1, ?_, z3⟩
          rw [k3]
          split
          · rename_i e3
            subst e3
            have : sl = .val u := Option.some.inj (hsl.symm.trans z2)
            exact absurd (Or.inr ⟨⟨u, this, z3⟩, z1⟩) e2
          · split
            · rename_i e3 e4
              rcases e4 with ⟨y1, y2⟩ | ⟨⟨u', y1, y2⟩, y3⟩
              · exact absurd (z1.trans y2) e1
              · subst y3
                have g5 := w1 k u' (y1 ▸ hsl) y2
                rw [z2] at g5; cases g5
            · exact z2
    · rw [List.getElem?_set] at g
      split at g
      · rename_i e
        subst e
        cases g
        exact ⟨w, hv, by rw [k3]; simp⟩
      · rename_i e
        have e' : ¬ i = k := fun z => e z.symm
        have g2 := hl i s g
        rw [k3, if_neg e']
        split
        · rename_i e4
          cases s with
          | unset => trivial
          | second =>
            exfalso
            have g2' : A[i]? = some .second := g2
            rcases e4 with ⟨y1, y2⟩ | ⟨⟨u', y1, y2⟩, y3⟩
            · obtain ⟨j0, u0, x1, x2, x3⟩ := w2 k (y1 ▸ hsl)
              have : i = j0 := by omega
              subst this
              rw [x2] at g2'; cases g2'
            · subst y3
              rw [g] at q3
              simp [isSec] at q3
          | val v0 =>
            exfalso
            obtain ⟨w0, x1, x2⟩ := g2
            rcases e4 with ⟨y1, y2⟩ | ⟨⟨u', y1, y2⟩, y3⟩
            · obtain ⟨j0, u0, z1, z2, z3⟩ := w2 k (y1 ▸ hsl)
              have : i = j0 := by omega
              subst this
              have hw0 : w0 = u0 := by rw [x2] at z2; cases z2; rfl
              have hcat : v0.category = 2 := by rw [← x1.cat, hw0]; exact z3
              subst y2
              have : L[i + 1 - 1]? = some (.val v0) := g
              rw [this] at q2
              simp [isC2, hcat] at q2
            · subst y3
              have g5 := w1 k u' (y1 ▸ hsl) y2
              rw [x2] at g5; cases g5
        · exact g2
  · cases hs
end Jvm.Own
namespace Jvm.Own
open Jvm Jvm.ClassFile Sem Op Lib Jvm.Free Jvm.Stand Jvm.LawKit Jvm.RoadKit Bundle
theorem store2_sim {ρ : List Addr} {L : List Slot} {A : Array Slot} (h : LR ρ L A) {k : Nat} {v w : Value} {L' : List Slot} (hs : st2 L k v = some L') (hv : VR ρ v w) (hc : w.category = 2) : ∃ A', storeLocals A k w = some A' ∧ LR ρ L' A' := by
  unfold st2 at hs
  split at hs
  · rename_i q
    cases hs
    simp only [Bool.and_eq_true] at q
    obtain ⟨⟨q1, q2⟩, q3⟩ := q
    obtain ⟨hA, ⟨w1, w2⟩, hl⟩ := h
    have hk1 : k + 1 < L.length := by
      rcases Nat.lt_or_ge (k + 1) L.length with z | z
      · exact z
      · rw [List.getElem?_eq_none z] at q1
        cases h0 : L[k]? with
        | none => rw [h0] at q1; cases q1
        | some s0 => rw [h0] at q1; cases s0 <;> cases q1
    have hk : k < L.length := by omega
    have hkA : k < A.size := hA ▸ hk
    have hkA1 : k + 1 < A.size := hA ▸ hk1
    obtain ⟨sl, hsl⟩ : ∃ sl, A[k]? = some sl := ⟨A[k], Array.getElem?_eq_getElem hkA⟩
    obtain ⟨sm, hsm⟩ : ∃ sm, A[k + 1]? = some sm := ⟨A[k + 1], Array.getElem?_eq_getElem hkA1⟩
    have n1 : ¬ k = k + 1 := by omega
    have n2 : ¬ k + 2 = k + 1 := by omega
    have n3 : ¬ k + 2 = k := by omega
    classical
    have key : ∃ A', storeLocals A k w = some A' ∧ A'.size = A.size ∧ (∀ j, A'[j]? = if j = k then some (.val w) else if j = k + 1 then some .second else if (sl = .second ∧ j + 1 = k) ∨ ((∃ u, sm = .val u ∧ u.category = 2) ∧ j = k + 2) then some .unset else A[j]?) := by
      by_cases hm : ∃ u, sm = .val u ∧ u.category = 2
      · obtain ⟨u, rfl, hu⟩ := hm
        have g := w1 (k + 1) u hsm hu
        have hk2 : k + 2 < A.size := (Array.getElem?_eq_some_iff.mp g).1
        cases sl with
        | unset =>
          refine ⟨((A.setIfInBounds k (.val w)).setIfInBounds (k + 2) .unset).setIfInBounds (k + 1) .second, ?_, by simp, fun j => ?_⟩
          · rw [sl_unset hsl]; exact ss_2c hkA hkA1 hk2 hc (by rw [get_set, if_neg n1]; exact hsm) hu
          · rw [get_set, get_set, get_set]
            by_cases e0 : j = k
            · subst e0; simp [hkA]
            · by_cases e1 : j = k + 1
              · subst e1; simp [hkA1]
              · by_cases e2 : j = k + 2
                · subst e2; simp [hk2, hu]
                · have e0' : ¬ k = j := fun z => e0 z.symm
                  have e1' : ¬ k + 1 = j := fun z => e1 z.symm
                  have e2' : ¬ k + 2 = j := fun z => e2 z.symm
                  simp [e0, e1, e2, e0', e1', e2']
        | second =>
          obtain ⟨j0, u0, rfl, g1, g2⟩ := w2 k hsl
          have hj0 : j0 < A.size := by omega
          refine ⟨(((A.setIfInBounds j0 .unset).setIfInBounds (j0 + 1) (.val w)).setIfInBounds (j0 + 1 + 2) .unset).setIfInBounds (j0 + 1 + 1) .second, ?_, by simp, fun j => ?_⟩
          · have m1 : ¬ j0 + 1 = j0 + 1 + 1 := by omega
            have m2 : ¬ j0 = j0 + 1 + 1 := by omega
            rw [sl_second hsl (show j0 + 1 - 1 < A.size by omega)]
            exact ss_2c (by simpa using hkA) (by simpa using hkA1) (by simpa using hk2) hc (by rw [get_set, if_neg m1, get_set, if_neg (by omega)]; exact hsm) hu
          · rw [get_set, get_set, get_set, get_set]
            by_cases e0 : j = j0 + 1
            · subst e0; simp [hkA]
            · by_cases e1 : j = j0 + 1 + 1
              · subst e1; simp [hkA1]
              · by_cases e2 : j = j0 + 1 + 2
                · subst e2; simp [hk2, hu]
                · by_cases e3 : j = j0
                  · subst e3
                    rw [if_neg (by omega), if_neg (by omega), if_neg (by omega), if_pos rfl, if_pos hj0, if_neg (by omega), if_neg (by omega), if_pos (Or.inl ⟨rfl, rfl⟩)]
                  · have e0' : ¬ j0 + 1 = j := fun z => e0 z.symm
                    have e1' : ¬ j0 + 1 + 1 = j := fun z => e1 z.symm
                    have e2' : ¬ j0 + 1 + 2 = j := fun z => e2 z.symm
                    have e3' : ¬ j0 = j := fun z => e3 z.symm
                    simp [e0, e1, e2, e3, e0', e1', e2', e3']
        | val u1 =>
          have hu1 : ¬ u1.category = 2 := fun z => by have := w1 k u1 hsl z; rw [hsm] at this; cases this
          refine ⟨((A.setIfInBounds k (.val w)).setIfInBounds (k + 2) .unset).setIfInBounds (k + 1) .second, ?_, by simp, fun j => ?_⟩
          · rw [sl_val1 hsl hu1]; exact ss_2c hkA hkA1 hk2 hc (by rw [get_set, if_neg n1]; exact hsm) hu
          · rw [get_set, get_set, get_set]
            by_cases e0 : j = k
            · subst e0; simp [hkA]
            · by_cases e1 : j = k + 1
              · subst e1; simp [hkA1]
              · by_cases e2 : j = k + 2
                · subst e2; simp [hk2, hu]
                · have e0' : ¬ k = j := fun z => e0 z.symm
                  have e1' : ¬ k + 1 = j := fun z => e1 z.symm
                  have e2' : ¬ k + 2 = j := fun z => e2 z.symm
                  simp [e0, e1, e2, e0', e1', e2']
      · cases sl with
        | unset =>
          refine ⟨(A.setIfInBounds k (.val w)).setIfInBounds (k + 1) .second, ?_, by simp, fun j => ?_⟩
          · rw [sl_unset hsl]; exact ss_2 hkA hkA1 hc (by rw [get_set, if_neg n1]; exact hsm) hm
          · rw [get_set, get_set]
            by_cases e0 : j = k
            · subst e0; simp [hkA]
            · by_cases e1 : j = k + 1
              · subst e1; simp [hkA1]
              · have e0' : ¬ k = j := fun z => e0 z.symm
                have e1' : ¬ k + 1 = j := fun z => e1 z.symm
                simp [e0, e1, e0', e1', hm]
        | second =>
          obtain ⟨j0, u0, rfl, g1, g2⟩ := w2 k hsl
          have hj0 : j0 < A.size := by omega
          have m1 : ¬ j0 + 1 = j0 + 1 + 1 := by omega
          have m2 : ¬ j0 = j0 + 1 + 1 := by omega
          refine ⟨((A.setIfInBounds j0 .unset).setIfInBounds (j0 + 1) (.val w)).setIfInBounds (j0 + 1 + 1) .second, ?_, by simp, fun j => ?_⟩
          · rw [sl_second hsl (show j0 + 1 - 1 < A.size by omega)]
            exact ss_2 (by simpa using hkA) (by simpa using hkA1) hc (by rw [get_set, if_neg m1, get_set, if_neg (by omega)]; exact hsm) hm
          · rw [get_set, get_set, get_set]
            by_cases e0 : j = j0 + 1
            · subst e0; simp [hkA]
            · by_cases e1 : j = j0 + 1 + 1
              · subst e1; simp [hkA1]
              · by_cases e3 : j = j0
                · subst e3
                  rw [if_neg (by omega), if_neg (by omega), if_pos rfl, if_pos hj0, if_neg (by omega), if_neg (by omega), if_pos (Or.inl ⟨rfl, rfl⟩)]
                · have e0' : ¬ j0 + 1 = j := fun z => e0 z.symm
                  have e1' : ¬ j0 + 1 + 1 = j := fun z => e1 z.symm
                  have e3' : ¬ j0 = j := fun z => e3 z.symm
                  simp [e0, e1, e3, e0', e1', e3', hm]
        | val u1 =>
          by_cases hu1 : u1.category = 2
          · refine ⟨((A.setIfInBounds (k + 1) .unset).setIfInBounds k (.val w)).setIfInBounds (k + 1) .second, ?_, by simp, fun j => ?_⟩
            · rw [sl_val2 hsl hu1 hkA1]
              exact ss_2 (o := .unset) (by simpa using hkA) (by simpa using hkA1) hc (by rw [get_set, if_neg n1, get_set, if_pos rfl, if_pos hkA1]) (by rintro ⟨u, z, -⟩; cases z)
            · rw [get_set, get_set, get_set]
              by_cases e0 : j = k
              · subst e0; simp [hkA]
              · by_cases e1 : j = k + 1
                · subst e1; simp [hkA1]
                · have e0' : ¬ k = j := fun z => e0 z.symm
                  have e1' : ¬ k + 1 = j := fun z => e1 z.symm
                  simp [e0, e1, e0', e1', hm]
          · refine ⟨(A.setIfInBounds k (.val w)).setIfInBounds (k + 1) .second, ?_, by simp, fun j => ?_⟩
            · rw [sl_val1 hsl hu1]; exact ss_2 hkA hkA1 hc (by rw [get_set, if_neg n1]; exact hsm) hm
            · rw [get_set, get_set]
              by_cases e0 : j = k
              · subst e0; simp [hkA]
              · by_cases e1 : j = k + 1
                · subst e1; simp [hkA1]
                · have e0' : ¬ k = j := fun z => e0 z.symm
                  have e1' : ¬ k + 1 = j := fun z => e1 z.symm
                  simp [e0, e1, e0', e1', hm]
    obtain ⟨A', k1, k2, k3⟩ := key
    refine ⟨A', k1, by rw [k2, hA]; simp, ⟨fun i u g1 g2 => ?_, fun i g1 => ?_⟩, fun i s g => ?_⟩
    · by_cases e1 : i = k
      · subst e1; rw [k3]; simp
      · have g1' := g1
        rw [k3, if_neg e1] at g1'
        split at g1'
        · cases g1'
        · rename_i e2
          split at g1'
          · cases g1'
          · rename_i e4
            have g3 := w1 i u g1' g2
            rw [k3]
            have c1 : ¬ i + 1 = k := fun e3 => by
              have : sl = .second := by rw [← e3] at hsl; exact Option.some.inj (hsl.symm.trans g3)
              exact e4 (Or.inl ⟨this, e3⟩)
            have c2 : ¬ i + 1 = k + 1 := by omega
            have c3 : ¬ ((sl = .second ∧ i + 1 + 1 = k) ∨ ((∃ u, sm = .val u ∧ u.category = 2) ∧ i + 1 = k + 2)) := fun z => by
              rcases z with ⟨z1, z2⟩ | ⟨z1, z2⟩
              · subst z2
                rw [z1] at hsl
                obtain ⟨j0, u0, y1, y2, y3⟩ := w2 _ hsl
                have : j0 = i + 1 := by omega
                subst this
                rw [g3] at y2; cases y2
              · omega
            rw [if_neg c1, if_neg c2, if_neg c3]
            exact g3
    · rw [k3] at g1
      split at g1
      · cases g1
      · rename_i e1
        split at g1
        · rename_i e2
          exact ⟨k, w, e2, by rw [k3]; simp, hc⟩
        · rename_i e2
          split at g1
          · cases g1
          · rename_i e4
            obtain ⟨j, u, z1, z2, z3⟩ := w2 i g1
            refine ⟨j, u, z1, ?_, z3⟩
            rw [k3]
            have c1 : ¬ j = k := by omega
            have c2 : ¬ j = k + 1 := fun e => by
              subst e
              exact e4 (Or.inr ⟨⟨u, Option.some.inj (hsm.symm.trans z2), z3⟩, by omega⟩)
            have c3 : ¬ ((sl = .second ∧ j + 1 = k) ∨ ((∃ u, sm = .val u ∧ u.category = 2) ∧ j = k + 2)) := fun z => by
              rcases z with ⟨y1, y2⟩ | ⟨⟨u', y1, y2⟩, y3⟩
              · exact e1 (z1.trans y2)
              · subst y3
                have g5 := w1 (k + 1) u' (y1 ▸ hsm) y2
                rw [z2] at g5; cases g5
            rw [if_neg c1, if_neg c2, if_neg c3]
            exact z2
    · rw [List.getElem?_set] at g
      split at g
      · rename_i e
        subst e
        have : k + 1 < (L.set k (.val v)).length := by simp [hk1]
        rw [if_pos this] at g
        cases g
        show A'[k + 1]? = some .second
        rw [k3]; simp
      · rename_i e
        have e' : ¬ i = k + 1 := fun z => e z.symm
        rw [List.getElem?_set] at g
        split at g
        · rename_i e0
          subst e0
          cases g
          exact ⟨w, hv, by rw [k3]; simp⟩
        · rename_i e0
          have e0' : ¬ i = k := fun z => e0 z.symm
          have g2 := hl i s g
          rw [k3, if_neg e0', if_neg e']
          split
          · rename_i e4
            cases s with
            | unset => trivial
            | second =>
              exfalso
              have g2' : A[i]? = some .second := g2
              rcases e4 with ⟨y1, y2⟩ | ⟨⟨u', y1, y2⟩, y3⟩
              · obtain ⟨j0, u0, x1, x2, x3⟩ := w2 k (y1 ▸ hsl)
                have : i = j0 := by omega
                subst this
                rw [x2] at g2'; cases g2'
              · subst y3
                rw [g] at q3
                simp [isSec] at q3
            | val v0 =>
              exfalso
              obtain ⟨w0, x1, x2⟩ := g2
              rcases e4 with ⟨y1, y2⟩ | ⟨⟨u', y1, y2⟩, y3⟩
              · obtain ⟨j0, u0, z1, z2, z3⟩ := w2 k (y1 ▸ hsl)
                have : i = j0 := by omega
                subst this
                have hw0 : w0 = u0 := by rw [x2] at z2; cases z2; rfl
                have hcat : v0.category = 2 := by rw [← x1.cat, hw0]; exact z3
                subst y2
                have : L[i + 1 - 1]? = some (.val v0) := g
                rw [this] at q2
                simp [isC2, hcat] at q2
              · subst y3
                have g5 := w1 (k + 1) u' (y1 ▸ hsm) y2
                rw [x2] at g5; cases g5
          · exact g2
  · cases hs
/-! The frame with which a method is entered -/
theorem entA_app (ws : List Value) : ∀ acc : Array Slot, ws.foldl (fun acc v => if v.category = 2 then (acc.push (.val v)).push .second else acc.push (.val v)) acc = acc ++ (entA ws).toArray := by
  induction ws with
  | nil => intro acc; simp [entA]
  | cons v r ih =>
    intro acc
    rw [List.foldl_cons, ih]
    show _ = acc ++ (if v.category = 2 then .val v :: .second :: entA r else .val v :: entA r).toArray
    by_cases h : v.category = 2
    · rw [if_pos h, if_pos h]; simp
    · rw [if_neg h, if_neg h]; simp
theorem argsToLocals_eq (ws : List Value) (n : Nat) : argsToLocals ws.toArray n = (entL ws n).toArray := by
  unfold argsToLocals entL
  have h := entA_app ws #[]
  simp only [List.foldl_toArray', List.size_toArray] at *
  simp [h]
theorem entA_len {ρ : List Addr} : ∀ {v w : List Value}, SR ρ v w → (entA w).length = (entA v).length
  | [], _, h => by cases h; rfl
  | _ :: _, _, ⟨w, ws, h1, h2, h3⟩ => by
    subst h1
    unfold entA
    rw [h2.cat]
    split <;> simp [entA_len h3]
theorem entA_rel {ρ : List Addr} : ∀ {v w : List Value}, SR ρ v w → ∀ (m i : Nat) (s : Slot), (entA v ++ List.replicate m .unset)[i]? = some s → SlR ρ s (entA w ++ List.replicate m .unset)[i]?
  | [], _, h, m, i, s, q => by
    cases h
    simp only [entA, List.nil_append] at q ⊢
    rw [List.getElem?_replicate] at q
    split at q
    · cases q; trivial
    · cases q
  | v :: vs, _, ⟨w, ws, h1, h2, h3⟩, m, i, s, q => by
    subst h1
    unfold entA at q ⊢
    rw [h2.cat]
    split
    · rename_i c
      rw [if_pos c] at q
      match i, q with
      | 0, q => simp at q; subst q; exact ⟨w, h2, by simp⟩
      | 1, q => simp at q; subst q; simp [SlR]
      | i + 2, q => simp at q ⊢; exact entA_rel h3 m i s q
    · rename_i c
      rw [if_neg c] at q
      match i, q with
      | 0, q => simp at q; subst q; exact ⟨w, h2, by simp⟩
      | i + 1, q => simp at q ⊢; exact entA_rel h3 m i s q
theorem entA_wf : ∀ (ws : List Value) (m : Nat), (∀ (i : Nat) w, (entA ws ++ List.replicate m .unset)[i]? = some (.val w) → w.category = 2 → (entA ws ++ List.replicate m .unset)[i + 1]? = some .second) ∧
    ∀ (i : Nat), (entA ws ++ List.replicate m .unset)[i]? = some .second → ∃ j w, i = j + 1 ∧ (entA ws ++ List.replicate m .unset)[j]? = some (.val w) ∧ w.category = 2
  | [], m => by
    constructor
    · intro i w q
      simp only [entA, List.nil_append, List.getElem?_replicate] at q
      split at q <;> cases q
    · intro i q
      simp only [entA, List.nil_append, List.getElem?_replicate] at q
      split at q <;> cases q
  | v :: vs, m => by
    obtain ⟨h1, h2⟩ := entA_wf vs m
    unfold entA
    split
    · rename_i c
      constructor
      · intro i w q
        match i, q with
        | 0, q => intro _; simp
        | 1, q => simp at q
        | i + 2, q => simp at q ⊢; exact h1 i w q
      · intro i q
        match i, q with
        | 0, q => simp at q
        | 1, q => exact ⟨0, v, rfl, by simp, c⟩
        | i + 2, q =>
          simp at q
          obtain ⟨j, w, e, g1, g2⟩ := h2 i q
          exact ⟨j + 2, w, by omega, by simpa using g1, g2⟩
    · rename_i c
      constructor
      · intro i w q
        match i, q with
        | 0, q => intro z; simp at q; subst q; exact absurd z c
        | i + 1, q => simp at q ⊢; exact h1 i w q
      · intro i q
        match i, q with
        | 0, q => simp at q
        | i + 1, q =>
          simp at q
          obtain ⟨j, w, e, g1, g2⟩ := h2 i q
          exact ⟨j + 1, w, by omega, by simpa using g1, g2⟩
theorem LR.enter {ρ : List Addr} {v w : List Value} (h : SR ρ v w) {n : Nat} (hn : (entA v).length ≤ n) : LR ρ (entL v n) (argsToLocals w.toArray n) ∧ (argsToLocals w.toArray n).size = n := by
  rw [argsToLocals_eq]
  have hl := entA_len h
  refine ⟨⟨by simp [entL, hl], ?_, fun i s q => ?_⟩, by simp [entL, hl]; omega⟩
  · obtain ⟨h1, h2⟩ := entA_wf w (n - (entA w).length)
    exact ⟨fun i u q c => by simpa [entL] using h1 i u (by simpa [entL] using q) c, fun i q => by
      obtain ⟨j, u, e, g1, g2⟩ := h2 i (by simpa [entL] using q)
      exact ⟨j, u, e, by simpa [entL] using g1, g2⟩⟩
  · unfold entL at q ⊢
    rw [hl]
    simpa using entA_rel h _ i s q
end Jvm.Own
namespace Jvm.RoadKit
open Sem ClassFile Op Lib Jvm.Stand Jvm.Free Jvm.LawKit
section New
variable {p : Program} {l : Launch} {e : Env} {R : Room} {s : State} {m : MethodId} {args : Array Value} {below : List Frame} {meth : Method} {c : Code} {T : State} {locs : List Loc} {cells slots : Nat}
theorem retI (X : Stand p l e R s m args below meth c T locs cells slots) (hx : p.tables.exec = Jvm.exec) {pc : Nat} {Ls : Array Slot} {z : Int32} {rest : List Value} (hret : meth.sig.returnType = some .int) (hd : decode c.code pc = .ok (.ireturn, 1)) {fs : List Frame}
    (hl : ∀ (f : JFrame) (acts : List Action), f.method = m → f.locked = none → f.entered = [] → (doReturn e (T.setTop f) acts (some (.int z))).1 = T.setFrames fs) : Steps p.tables e below (T.setTop (mkF m pc Ls (.int z :: rest))) (T.setFrames fs) := by
  have hm' : T.vm.method? m = some meth := X.method'
  have hn : narrow .int (.int z) = .int z := rfl
  show Steps p.tables e below (T.setTop { method := m, pc := pc, locals := Ls, stack := _ :: rest, locked := none }) _
  jvm_step X.here [X.here.top, hx, hd, hm', hret, hn]
  first | (intro acts; rw [hl _ acts rfl rfl rfl]) | rw [hl _ _ rfl rfl rfl]
  exact Steps.refl _
end New
end Jvm.RoadKit
namespace Jvm.Own
open Jvm Jvm.ClassFile Sem Op Lib Jvm.Free Jvm.Stand Jvm.LawKit Jvm.RoadKit Bundle
/-! The plain heap and the real one -/
def tyA (b : Bool) : FieldType := if b then .boolean else .int
def CR (P : PD) (Z : State) (h : Heap) (ρ : List Addr) (a : Addr) : ACell → Prop
  | .inl (c, fs) => ∃ cd, P.cls[c]? = some cd ∧ Exa Z h a cd.1 ∧ fs.length = cd.2.2.length ∧ ∀ (i : Nat) v fd, fs[i]? = some v → cd.2.2[i]? = some fd → ∃ w, VR ρ v w ∧ Fld Z h a cd.1 fd.1 fd.2.1 w
  | .inr (.inl (b, L)) => ∃ cl, Arr Z h a cl (tyA b) ∧ cl.slots.size = L.length ∧ L.length < 2 ^ 31 ∧ ∀ (i : Nat) x, L[i]? = some x → cl.slots[i]? = some (.int x)
  | .inr (.inr L) => ∃ cl, Arr Z h a cl .long ∧ cl.slots.size = L.length ∧ L.length < 2 ^ 31 ∧ ∀ (i : Nat) x, L[i]? = some x → cl.slots[i]? = some (.long x)
def HR (P : PD) (Z : State) (n0 : Nat) (h : Heap) (ρ : List Addr) (H : AHeap) : Prop :=
  n0 ≤ h.size ∧ ρ.length = H.length ∧ (∀ (i j : Nat) a, ρ[i]? = some a → ρ[j]? = some a → i = j) ∧ (∀ (k : Nat) a, ρ[k]? = some a → P.nr ≤ k → n0 ≤ a) ∧ ∀ (k : Nat) a c, ρ[k]? = some a → H[k]? = some c → CR P Z h ρ a c
section Heaps
variable {P : PD} {Z : State} {n0 : Nat} {h h' : Heap} {ρ : List Addr} {H : AHeap} {a : Addr} {k : Nat} {a0 : Array Value}
theorem CR.lt {c : ACell} (q : CR P Z h ρ a c) : a < h.size := by
  match c, q with
  | .inl (_, _), q => obtain ⟨cd, -, E, -⟩ := q; exact E.lt
  | .inr (.inl (_, _)), q => obtain ⟨cl, A, -⟩ := q; exact A.lt
  | .inr (.inr _), q => obtain ⟨cl, A, -⟩ := q; exact A.lt
theorem HR.at (q : HR P Z n0 h ρ H) {c : ACell} (hc : H[k]? = some c) : ∃ a, ρ[k]? = some a ∧ CR P Z h ρ a c := by
  obtain ⟨-, q1, -, -, q4⟩ := q
  have hk : k < ρ.length := by rw [q1]; exact (List.getElem?_eq_some_iff.mp hc).1
  exact ⟨ρ[k], List.getElem?_eq_getElem hk, q4 k _ c (List.getElem?_eq_getElem hk) hc⟩
theorem HR.lt (q : HR P Z n0 h ρ H) (hk : ρ[k]? = some a) : a < h.size := by
  obtain ⟨-, q1, -, -, q4⟩ := q
  have hk' : k < H.length := by rw [← q1]; exact (List.getElem?_eq_some_iff.mp hk).1
  exact (q4 k a _ hk (List.getElem?_eq_getElem hk')).lt
theorem CR.grow {t : List Addr} {c : ACell} (E : Ext h h') (q : CR P Z h ρ a c) : CR P Z h' (ρ ++ t) a c := by
  match c, q with
  | .inl (_, _), ⟨cd, q1, q2, q3, q4⟩ => exact ⟨cd, q1, q2.ext E, q3, fun i v fd g1 g2 => by obtain ⟨w, z1, z2⟩ := q4 i v fd g1 g2; exact ⟨w, z1.mono, z2.ext E⟩⟩
  | .inr (.inl (_, _)), ⟨cl, q1, q2⟩ => exact ⟨cl, q1.ext E, q2⟩
  | .inr (.inr _), ⟨cl, q1, q2⟩ => exact ⟨cl, q1.ext E, q2⟩
theorem HR.push {c : ACell} (q : HR P Z n0 h ρ H) (E : Ext h h') (hc : CR P Z h' (ρ ++ [h.size]) h.size c) : HR P Z n0 h' (ρ ++ [h.size]) (H ++ [c]) := by
  have q0 := q
  obtain ⟨q1, q2, q3, q4, q5⟩ := q
  have old : ∀ (i : Nat) b, (ρ ++ [h.size])[i]? = some b → (ρ[i]? = some b ∧ b < h.size) ∨ (i = ρ.length ∧ b = h.size) := fun i b g => by
    rw [List.getElem?_append] at g
    split at g
    · exact Or.inl ⟨g, q0.lt g⟩
    · rename_i z
      right
      have : i - ρ.length = 0 := by
        rcases Nat.eq_zero_or_pos (i - ρ.length) with y | y
        · exact y
        · rw [List.getElem?_eq_none (by simp; omega)] at g; cases g
      rw [this] at g
      simp at g
      exact ⟨by omega, g.symm⟩
  refine ⟨Nat.le_trans q1 E.1, by simp [q2], fun i j b g1 g2 => ?_, fun i b g1 g2 => ?_, fun i b c' g1 g2 => ?_⟩
  · rcases old i b g1 with ⟨y1, y2⟩ | ⟨y1, y2⟩ <;> rcases old j b g2 with ⟨z1, z2⟩ | ⟨z1, z2⟩
    · exact q3 i j b y1 z1
    · exact absurd (z2 ▸ y2) (Nat.lt_irrefl _)
    · exact absurd (y2 ▸ z2) (Nat.lt_irrefl _)
    · rw [y1, z1]
  · rcases old i b g1 with ⟨y1, y2⟩ | ⟨y1, y2⟩
    · exact q4 i b y1 g2
    · rw [y2]; exact q1
  · rcases old i b g1 with ⟨y1, y2⟩ | ⟨y1, y2⟩
    · have hi : i < H.length := by rw [← q2]; exact (List.getElem?_eq_some_iff.mp y1).1
      rw [List.getElem?_append_left hi] at g2
      exact (q5 i b c' y1 g2).grow E
    · subst y1 y2
      rw [q2] at g2
      simp at g2
      subst g2
      exact hc
theorem CR.other {v : Value} {sl : Nat} {b : Addr} {c : ACell} (W : Wr h h' a sl v) (ne : b ≠ a) (q : CR P Z h ρ b c) : CR P Z h' ρ b c := by
  match c, q with
  | .inl (_, _), ⟨cd, q1, q2, q3, q4⟩ => exact ⟨cd, q1, q2.wr W, q3, fun i v fd g1 g2 => by obtain ⟨w, z1, z2⟩ := q4 i v fd g1 g2; exact ⟨w, z1, z2.other W (Or.inl ne)⟩⟩
  | .inr (.inl (_, _)), ⟨cl, q1, q2⟩ => exact ⟨cl, q1.other W ne, q2⟩
  | .inr (.inr _), ⟨cl, q1, q2⟩ => exact ⟨cl, q1.other W ne, q2⟩
theorem HR.set {v : Value} {sl : Nat} {c : ACell} (q : HR P Z n0 h ρ H) (hk : ρ[k]? = some a) (W : Wr h h' a sl v) (hc : CR P Z h' ρ a c) : HR P Z n0 h' ρ (H.set k c) := by
  obtain ⟨q1, q2, q3, q4, q5⟩ := q
  refine ⟨by rw [W.size]; exact q1, by simp [q2], q3, q4, fun i b c' g1 g2 => ?_⟩
  rw [List.getElem?_set] at g2
  split at g2
  · rename_i e
    subst e
    split at g2
    · cases g2
      rw [hk] at g1; cases g1
      exact hc
    · cases g2
  · rename_i e
    exact (q5 i b c' g1 g2).other W fun z => e (q3 k i a hk (z ▸ g1))
theorem nodup_ne : ∀ {l : List String}, nodup l = true → ∀ {i j : Nat} {x y : String}, l[i]? = some x → l[j]? = some y → i ≠ j → x ≠ y
  | [], _, i, j, x, y, h1, _, _ => by simp at h1
  | z :: r, hn, i, j, x, y, h1, h2, ne => by
    simp only [nodup, Bool.and_eq_true, Bool.not_eq_true', List.contains_eq_mem, decide_eq_false_iff_not] at hn
    match i, j, h1, h2, ne with
    | 0, 0, _, _, ne => exact absurd rfl ne
    | 0, j + 1, h1, h2, _ => simp at h1 h2; subst h1; exact fun e => hn.1 (e ▸ List.mem_of_getElem? h2)
    | i + 1, 0, h1, h2, _ => simp at h1 h2; subst h2; exact fun e => hn.1 (e ▸ List.mem_of_getElem? h1)
    | i + 1, j + 1, h1, h2, ne => simp at h1 h2; exact nodup_ne hn.2 h1 h2 (fun e => ne (by rw [e]))
theorem laid_of {C : String} {f : FD} (w : (fWord C f).before a0 Z = true) : Laid Z a0 C C f.1 f.2.1 := by
  unfold fWord at w
  split at w
  · exact Or.inr w
  · exact Or.inl w
theorem HR.putF {c j : Nat} {fs : List Value} {cd : CD} {fd : FD} {v w : Value} (q : HR P Z n0 h ρ H) (hk : ρ[k]? = some a) (hc : H[k]? = some (.inl (c, fs))) (hcd : P.cls[c]? = some cd) (hfd : cd.2.2[j]? = some fd)
    (hck : cChk cd = true) (hl : ∀ f ∈ cd.2.2, (fWord cd.1 f).before a0 Z = true) (W : Wr h h' a (RoadKit.slotOf Z cd.1 fd.1 fd.2.1) w) (hv : VR ρ v w) : HR P Z n0 h' ρ (H.set k (.inl (c, fs.set j v))) := by
  obtain ⟨a', ha, cr⟩ := q.at hc
  rw [hk] at ha; cases ha
  obtain ⟨cd', q1, q2, q3, q4⟩ := cr
  rw [hcd] at q1; cases q1
  refine q.set hk W ⟨cd, hcd, q2.wr W, by simp [q3], fun i v0 fd' g1 g2 => ?_⟩
  simp only [cChk, Bool.and_eq_true, List.all_eq_true] at hck
  obtain ⟨n1, n2⟩ := hck
  by_cases e : j = i
  · subst e
    rw [hfd] at g2; cases g2
    rw [List.getElem?_set] at g1
    split at g1
    · split at g1
      · cases g1
        rename_i z
        obtain ⟨w0, -, F⟩ := q4 j _ fd (List.getElem?_eq_getElem z) hfd
        exact ⟨w, hv, F.same W⟩
      · cases g1
    · rename_i z; exact absurd rfl z
  · rw [List.getElem?_set_ne e] at g1
    obtain ⟨w0, z1, F⟩ := q4 i v0 fd' g1 g2
    refine ⟨w0, z1, F.other W (Or.inr ?_)⟩
    have m1 := List.mem_of_getElem? hfd
    have m2 := List.mem_of_getElem? g2
    have f1 := n2 fd m1
    have f2 := n2 fd' m2
    simp only [fChk, Bool.and_eq_true, decide_eq_true_eq] at f1 f2
    refine slot_ne (laid_of (hl fd' m2)) (laid_of (hl fd m1)) ?_ f2.1 f1.1
    exact nodup_ne n1 (i := i) (j := j) (by simp [g2]) (by simp [hfd]) (fun z => e z.symm)
theorem HR.wrI {b : Bool} {L : List Int32} {i : Nat} {x : Int32} (q : HR P Z n0 h ρ H) (hk : ρ[k]? = some a) (hc : H[k]? = some (.inr (.inl (b, L)))) (W : Wr h h' a i (.int x)) : HR P Z n0 h' ρ (H.set k (.inr (.inl (b, L.set i x)))) := by
  obtain ⟨a', ha, cr⟩ := q.at hc
  rw [hk] at ha; cases ha
  obtain ⟨cl, A, q2, q3, q4⟩ := cr
  have lt : i < cl.slots.size := by
    obtain ⟨cl', z1, -, z3, -⟩ := W
    rw [A.1] at z1; cases z1
    exact z3
  refine q.set hk W ⟨_, A.same W, by simp [sz_set, q2], by simpa using q3, fun j y g => ?_⟩
  rw [List.getElem?_set] at g
  split at g
  · rename_i e
    subst e
    split at g
    · cases g; simp [Cell.setSlot, lt]
    · cases g
  · rename_i e
    have := q4 j y g
    simp [Cell.setSlot, Array.getElem?_setIfInBounds, e, this]
theorem HR.wrJ {L : List Int64} {i : Nat} {x : Int64} (q : HR P Z n0 h ρ H) (hk : ρ[k]? = some a) (hc : H[k]? = some (.inr (.inr L))) (W : Wr h h' a i (.long x)) : HR P Z n0 h' ρ (H.set k (.inr (.inr (L.set i x)))) := by
  obtain ⟨a', ha, cr⟩ := q.at hc
  rw [hk] at ha; cases ha
  obtain ⟨cl, A, q2, q3, q4⟩ := cr
  have lt : i < cl.slots.size := by
    obtain ⟨cl', z1, -, z3, -⟩ := W
    rw [A.1] at z1; cases z1
    exact z3
  refine q.set hk W ⟨_, A.same W, by simp [sz_set, q2], by simpa using q3, fun j y g => ?_⟩
  rw [List.getElem?_set] at g
  split at g
  · rename_i e
    subst e
    split at g
    · cases g; simp [Cell.setSlot, lt]
    · cases g
  · rename_i e
    have := q4 j y g
    simp [Cell.setSlot, Array.getElem?_setIfInBounds, e, this]
end Heaps
theorem SR.int {ρ : List Addr} {x : Int32} {S Sc : List Value} (h : SR ρ (.int x :: S) Sc) : ∃ Sc', Sc = .int x :: Sc' ∧ SR ρ S Sc' := by
  obtain ⟨w, ws, h1, h2, h3⟩ := h
  exact ⟨ws, by rw [h1, show w = .int x from h2], h3⟩
theorem SR.long {ρ : List Addr} {x : Int64} {S Sc : List Value} (h : SR ρ (.long x :: S) Sc) : ∃ Sc', Sc = .long x :: Sc' ∧ SR ρ S Sc' := by
  obtain ⟨w, ws, h1, h2, h3⟩ := h
  exact ⟨ws, by rw [h1, show w = .long x from h2], h3⟩
theorem SR.ref {ρ : List Addr} {x : Nat} {S Sc : List Value} (h : SR ρ (.ref x :: S) Sc) : ∃ a Sc', ρ[x]? = some a ∧ Sc = .ref a :: Sc' ∧ SR ρ S Sc' := by
  obtain ⟨w, ws, h1, ⟨a, h2, h4⟩, h3⟩ := h
  exact ⟨a, ws, h2, by rw [h1, h4], h3⟩
theorem rdA_spec {α : Type} {L : List α} {j : Int32} {x : α} (h : rdA L j = some x) : ¬ j < 0 ∧ L[j.toNatClampNeg]? = some x := by
  unfold rdA at h
  split at h
  · cases h
  · rename_i q; exact ⟨q, h⟩
theorem wrA_spec {α : Type} {L L' : List α} {j : Int32} {x : α} (h : wrA L j x = some L') : ¬ j < 0 ∧ j.toNatClampNeg < L.length ∧ L' = L.set j.toNatClampNeg x := by
  unfold wrA at h
  split at h
  · cases h
  · rename_i q
    split at h
    · rename_i z; cases h; exact ⟨q, z, rfl⟩
    · cases h
end Jvm.Own
namespace Jvm.Own
open Jvm Jvm.ClassFile Sem Op Lib Jvm.Free Jvm.Stand Jvm.LawKit Jvm.RoadKit Bundle
theorem st1_len {L L' : List Slot} {k : Nat} {v : Value} (h : st1 L k v = some L') : L'.length = L.length := by
  unfold st1 at h
  split at h
  · cases h; simp
  · cases h
theorem st2_len {L L' : List Slot} {k : Nat} {v : Value} (h : st2 L k v = some L') : L'.length = L.length := by
  unfold st2 at h
  split at h
  · cases h; simp
  · cases h
theorem lrem_mod (x y : Int64) : x - (x / y) * y = x % y := by
  apply Int64.toInt_inj.mp
  have h1 := Int64.le_toInt (x % y)
  have h2 := Int64.toInt_lt (x % y)
  rw [Int64.toInt_sub, Int64.toInt_mul, Int64.toInt_div, Int.bmod_mul_bmod, Int.sub_bmod_bmod, Int.mul_comm (x.toInt.tdiv y.toInt), ← Int.tmod_def, ← Int64.toInt_mod]
  exact Int.bmod_eq_of_le_mul_two (by omega) (by omega)
theorem putOk_sim {ρ : List Addr} {ty : FieldType} {v w : Value} (h : putOk ty v = true) (hv : VR ρ v w) : narrow ty w = w ∧ fits ty w = true := by
  cases ty <;> cases v <;> first | (simp [putOk] at h; done) | skip
  · cases hv; exact ⟨rfl, rfl⟩
  · cases hv; exact ⟨rfl, rfl⟩
  · rename_i x
    cases hv
    simp only [putOk, Bool.or_eq_true, beq_iff_eq] at h
    rcases h with rfl | rfl
    · exact ⟨rfl, rfl⟩
    · exact ⟨rfl, rfl⟩
  · obtain ⟨a, -, rfl⟩ := hv; exact ⟨rfl, rfl⟩
theorem dflt_sim {ρ : List Addr} {ty : FieldType} (h : dfOk ty = true) : VR ρ (dflt ty) (defaultValue ty) := by
  cases ty <;> first | (simp [dfOk] at h; done) | exact rfl
theorem fieldOf_spec {P : PD} {c a : Nat} {cd : CD} {f : FD} (h1 : P.cls[c]? = some cd) (h2 : cd.2.2[a]? = some f) : fieldOf P c a = some f := by simp [fieldOf, h1, h2]
theorem in_wordsOf {P : PD} {d : MD} {x : Nat × It} {w : Jvm.Cond} (hd : d ∈ P.mth) (hx : x ∈ d.code) (hw : w ∈ iWords P d x) : w ∈ wordsOf P :=
  List.mem_append_right _ (List.mem_flatMap.mpr ⟨d, hd, List.mem_flatMap.mpr ⟨x, hx, hw⟩⟩)
theorem in_wordsC {P : PD} {cd : CD} {w : Jvm.Cond} (hd : cd ∈ P.cls) (hw : w ∈ cWords cd) : w ∈ wordsOf P :=
  List.mem_append_left _ (List.mem_append_left _ (List.mem_flatMap.mpr ⟨cd, hd, hw⟩))
theorem in_wordsM {P : PD} {y : MD} {j : Nat} {w : Jvm.Cond} (hd : P.mth[j]? = some y) (hj : 0 < j) (hw : w ∈ mWords y) : w ∈ wordsOf P := by
  refine List.mem_append_left _ (List.mem_append_right _ (List.mem_flatMap.mpr ⟨y, ?_, hw⟩))
  have : (P.mth.drop 1)[j - 1]? = some y := by rw [List.getElem?_drop]; rw [show 1 + (j - 1) = j by omega]; exact hd
  exact List.mem_of_getElem? this
theorem fWord_in {cd : CD} {f : FD} (h : f ∈ cd.2.2) : fWord cd.1 f ∈ cWords cd := List.mem_cons_of_mem _ (List.mem_cons_of_mem _ (List.mem_map.mpr ⟨f, h, rfl⟩))
theorem cChk_of {P : PD} (hP : chk P = true) {cd : CD} (h : cd ∈ P.cls) : cChk cd = true := by
  simp only [chk, Bool.and_eq_true, List.all_eq_true] at hP
  exact hP.1 cd h
theorem mChk_of {P : PD} (hP : chk P = true) {d : MD} (h : d ∈ P.mth) : mChk P d = true := by
  simp only [chk, Bool.and_eq_true, List.all_eq_true] at hP
  exact hP.2 d h
theorem cid_of {P : PD} (hP : chk P = true) {d : MD} (h : d ∈ P.mth) {cd : CD} (hc : P.cls[d.cid]? = some cd) : cd.1 = d.name.cls := by
  have := mChk_of hP h
  simp only [mChk, Bool.and_eq_true] at this
  have h4 := this.1.1.1.2
  unfold clsChk at h4
  rw [hc] at h4
  simpa using h4
section Step
variable {P : PD} {Z : State} {n0 : Nat} {a0 : Array Value} {l : Launch} {p : Program} {e : Env} {R : Room} {s : State} {m : MethodId} {args : Array Value} {below : List Frame} {meth : Method} {c : Code} {T : State} {locs : List Loc} {cells slots : Nat} {d : MD}
def Nxt (P : PD) (Z : State) (n0 : Nat) (l : Launch) (p : Program) (e : Env) (R : Room) (s : State) (m : MethodId) (args : Array Value) (below : List Frame) (meth : Method) (c : Code) (T : State) (cells slots : Nat) (ρ : List Addr) (g : JFrame) (pc' : Nat) (L L' : List Slot) (S' : List Value) (H1 : AHeap) : Prop :=
  ∃ T' locs' A' Sc', Stand p l e R s m args below meth c T' locs' cells slots ∧ L'.length = L.length ∧ LR ρ L' A' ∧ SR ρ S' Sc' ∧ HR P Z n0 T'.heap ρ H1 ∧ Fr n0 locs' ∧
    ∀ target, Steps p.tables e below (T'.setTop (mkF m pc' A' Sc')) target → Steps p.tables e below (T.setTop g) target
theorem Nxt.pure {ρ : List Addr} {H : AHeap} {g : JFrame} {pc' : Nat} {L L' : List Slot} {S' Sc' : List Value} {A' : Array Slot} (X : Stand p l e R s m args below meth c T locs cells slots) (hl : L'.length = L.length) (hL : LR ρ L' A') (hS : SR ρ S' Sc') (hH : HR P Z n0 T.heap ρ H) (hF : Fr n0 locs)
    (k : ∀ target, Steps p.tables e below (T.setTop (mkF m pc' A' Sc')) target → Steps p.tables e below (T.setTop g) target) : Nxt P Z n0 l p e R s m args below meth c T cells slots ρ g pc' L L' S' H :=
  ⟨T, locs, A', Sc', X, hl, hL, hS, hH, hF, k⟩
theorem Nxt.mem {ρ : List Addr} {H1 : AHeap} {g : JFrame} {pc' : Nat} {L L' : List Slot} {S' Sc' : List Value} {A' : Array Slot} {T' : State} {locs' : List Loc} (X : Stand p l e R s m args below meth c T' locs' cells slots) (hl : L'.length = L.length) (hL : LR ρ L' A') (hS : SR ρ S' Sc') (hH : HR P Z n0 T'.heap ρ H1) (hF : Fr n0 locs')
    (k : ∀ target, Steps p.tables e below (T'.setTop (mkF m pc' A' Sc')) target → Steps p.tables e below (T.setTop g) target) : Nxt P Z n0 l p e R s m args below meth c T cells slots ρ g pc' L L' S' H1 :=
  ⟨T', locs', A', Sc', X, hl, hL, hS, hH, hF, k⟩
set_option maxHeartbeats 4000000 in
theorem stepX (X : Stand p l e R s m args below meth c T locs cells slots) (hx : p.tables.exec = Jvm.exec) (hZ : Z.Warmed39 s.vm) (hown : s.vm.findClass d.name.cls = some m.cls) (hnm : meth.name = d.name.name) (hP : chk P = true) (hW : ∀ w ∈ wordsOf P, w.before a0 Z = true) (hdm : d ∈ P.mth)
    {pc len a : Nat} {er : List Bool} {b : Int} {i : Instr} (hit : (pc, i, len, er, a, b) ∈ d.code) (hd : decode c.code pc = .ok (i, len)) (hlen : lenOk i len = true) {ρ : List Addr} {L L' : List Slot} {S S' Sc : List Value} {H H1 : AHeap} {A : Array Slot}
    (hL : LR ρ L A) (hS : SR ρ S Sc) (hH : HR P Z n0 T.heap ρ H) (hF : Fr n0 locs) (h : xI P (d.name.name == "<init>") d.cid i a b L S H = some (L', S', H1)) :
    Nxt P Z n0 l p e R s m args below meth c T cells slots ρ (mkF m pc A Sc) (pc + len) L L' S' H1 := by
  have hWi : ∀ w ∈ iWords P d (pc, i, len, er, a, b), w.before a0 Z = true := fun w q => hW w (in_wordsOf hdm hit q)
  cases i with
  | aload_n k =>
    obtain rfl : len = 1 := by simpa [lenOk] using hlen
    simp only [xI] at h
    split at h
    · rename_i x q
      cases h
      obtain ⟨w, hv, hg⟩ := hL.get q
      obtain ⟨ad, h1, rfl⟩ := hv
      exact Nxt.pure X rfl hL ⟨_, _, rfl, ⟨ad, h1, rfl⟩, hS⟩ hH hF (fun t z => XS.aloadN (g := mkF m pc A Sc) X.here hx rfl hd hg rfl z)
    · cases h
  | aload k =>
    obtain rfl : len = 2 := by simpa [lenOk] using hlen
    simp only [xI] at h
    split at h
    · rename_i x q
      cases h
      obtain ⟨w, hv, hg⟩ := hL.get q
      obtain ⟨ad, h1, rfl⟩ := hv
      exact Nxt.pure X rfl hL ⟨_, _, rfl, ⟨ad, h1, rfl⟩, hS⟩ hH hF (fun t z => XS.aload (g := mkF m pc A Sc) X.here hx rfl hd hg rfl z)
    · cases h
  | iload_n k =>
    obtain rfl : len = 1 := by simpa [lenOk] using hlen
    simp only [xI] at h
    split at h
    · rename_i x q
      cases h
      obtain ⟨w, hv, hg⟩ := hL.get q
      obtain rfl : w = .int _ := hv
      exact Nxt.pure X rfl hL ⟨_, _, rfl, rfl, hS⟩ hH hF (fun t z => XS.iloadN (g := mkF m pc A Sc) X.here hx rfl hd hg z)
    · cases h
  | iload k =>
    obtain rfl : len = 2 := by simpa [lenOk] using hlen
    simp only [xI] at h
    split at h
    · rename_i x q
      cases h
      obtain ⟨w, hv, hg⟩ := hL.get q
      obtain rfl : w = .int _ := hv
      exact Nxt.pure X rfl hL ⟨_, _, rfl, rfl, hS⟩ hH hF (fun t z => XS.iload (g := mkF m pc A Sc) X.here hx rfl hd hg z)
    · cases h
  | lload_n k =>
    obtain rfl : len = 1 := by simpa [lenOk] using hlen
    simp only [xI] at h
    split at h
    · rename_i x q
      cases h
      obtain ⟨w, hv, hg⟩ := hL.get q
      obtain rfl : w = .long _ := hv
      exact Nxt.pure X rfl hL ⟨_, _, rfl, rfl, hS⟩ hH hF (fun t z => XT.lloadN (g := mkF m pc A Sc) X.here hx rfl hd hg z)
    · cases h
  | lload k =>
    obtain rfl : len = 2 := by simpa [lenOk] using hlen
    simp only [xI] at h
    split at h
    · rename_i x q
      cases h
      obtain ⟨w, hv, hg⟩ := hL.get q
      obtain rfl : w = .long _ := hv
      exact Nxt.pure X rfl hL ⟨_, _, rfl, rfl, hS⟩ hH hF (fun t z => XT.lload (g := mkF m pc A Sc) X.here hx rfl hd hg z)
    · cases h
  | istore_n k =>
    obtain rfl : len = 1 := by simpa [lenOk] using hlen
    simp only [xI] at h
    split at h
    · rename_i x S0
      obtain ⟨L1, q, e1⟩ := Option.map_eq_some_iff.mp h
      cases e1
      obtain ⟨S2, rfl, h2⟩ := hS.int
      obtain ⟨A', z1, z2⟩ := store1_sim hL q (show VR ρ (.int x) (.int x) from rfl) rfl
      exact Nxt.pure X (st1_len q) z2 h2 hH hF (fun t z => XS.istoreN (g := mkF m pc A _) X.here hx rfl hd rfl z1 z)
    · cases h
  | istore k =>
    obtain rfl : len = 2 := by simpa [lenOk] using hlen
    simp only [xI] at h
    split at h
    · rename_i x S0
      obtain ⟨L1, q, e1⟩ := Option.map_eq_some_iff.mp h
      cases e1
      obtain ⟨S2, rfl, h2⟩ := hS.int
      obtain ⟨A', z1, z2⟩ := store1_sim hL q (show VR ρ (.int x) (.int x) from rfl) rfl
      exact Nxt.pure X (st1_len q) z2 h2 hH hF (fun t z => XS.istore (g := mkF m pc A _) X.here hx rfl hd rfl z1 z)
    · cases h
  | astore_n k =>
    obtain rfl : len = 1 := by simpa [lenOk] using hlen
    simp only [xI] at h
    split at h
    · rename_i x S0
      obtain ⟨L1, q, e1⟩ := Option.map_eq_some_iff.mp h
      cases e1
      obtain ⟨ad, S2, h1, rfl, h2⟩ := hS.ref
      obtain ⟨A', z1, z2⟩ := store1_sim hL q (show VR ρ (.ref x) (.ref ad) from ⟨ad, h1, rfl⟩) rfl
      exact Nxt.pure X (st1_len q) z2 h2 hH hF (fun t z => XS.astoreN (g := mkF m pc A _) X.here hx rfl hd rfl rfl z1 z)
    · cases h
  | astore k =>
    obtain rfl : len = 2 := by simpa [lenOk] using hlen
    simp only [xI] at h
    split at h
    · rename_i x S0
      obtain ⟨L1, q, e1⟩ := Option.map_eq_some_iff.mp h
      cases e1
      obtain ⟨ad, S2, h1, rfl, h2⟩ := hS.ref
      obtain ⟨A', z1, z2⟩ := store1_sim hL q (show VR ρ (.ref x) (.ref ad) from ⟨ad, h1, rfl⟩) rfl
      exact Nxt.pure X (st1_len q) z2 h2 hH hF (fun t z => XS.astore (g := mkF m pc A _) X.here hx rfl hd rfl rfl z1 z)
    · cases h
  | lstore_n k =>
    obtain rfl : len = 1 := by simpa [lenOk] using hlen
    simp only [xI] at h
    split at h
    · rename_i x S0
      obtain ⟨L1, q, e1⟩ := Option.map_eq_some_iff.mp h
      cases e1
      obtain ⟨S2, rfl, h2⟩ := hS.long
      obtain ⟨A', z1, z2⟩ := store2_sim hL q (show VR ρ (.long x) (.long x) from rfl) rfl
      exact Nxt.pure X (st2_len q) z2 h2 hH hF (fun t z => XT.lstoreN (g := mkF m pc A _) X.here hx rfl hd rfl z1 z)
    · cases h
  | lstore k =>
    obtain rfl : len = 2 := by simpa [lenOk] using hlen
    simp only [xI] at h
    split at h
    · rename_i x S0
      obtain ⟨L1, q, e1⟩ := Option.map_eq_some_iff.mp h
      cases e1
      obtain ⟨S2, rfl, h2⟩ := hS.long
      obtain ⟨A', z1, z2⟩ := store2_sim hL q (show VR ρ (.long x) (.long x) from rfl) rfl
      exact Nxt.pure X (st2_len q) z2 h2 hH hF (fun t z => XT.lstore (g := mkF m pc A _) X.here hx rfl hd rfl z1 z)
    · cases h
  | iinc k dd =>
    obtain rfl : len = 3 := by simpa [lenOk] using hlen
    simp only [xI] at h
    split at h
    · rename_i x q0
      obtain ⟨L1, q, e1⟩ := Option.map_eq_some_iff.mp h
      cases e1
      obtain ⟨w, hv, hg⟩ := hL.get q0
      obtain rfl : w = .int _ := hv
      obtain ⟨A', z1, z2⟩ := store1_sim hL q (show VR ρ (.int (x + Int32.ofInt dd)) (.int (x + Int32.ofInt dd)) from rfl) rfl
      exact Nxt.pure X (st1_len q) z2 hS hH hF (fun t z => XS.iinc (g := mkF m pc A Sc) X.here hx rfl hd hg z1 z)
    · cases h
  | iconst v =>
    obtain rfl : len = 1 := by simpa [lenOk] using hlen
    simp only [xI] at h
    cases h
    exact Nxt.pure X rfl hL ⟨_, _, rfl, rfl, hS⟩ hH hF (fun t z => XS.iconst (g := mkF m pc A Sc) X.here hx rfl hd z)
  | bipush v =>
    obtain rfl : len = 2 := by simpa [lenOk] using hlen
    simp only [xI] at h
    cases h
    exact Nxt.pure X rfl hL ⟨_, _, rfl, rfl, hS⟩ hH hF (fun t z => XS.bipush (g := mkF m pc A Sc) X.here hx rfl hd z)
  | sipush v =>
    obtain rfl : len = 3 := by simpa [lenOk] using hlen
    simp only [xI] at h
    cases h
    exact Nxt.pure X rfl hL ⟨_, _, rfl, rfl, hS⟩ hH hF (fun t z => XS.sipush (g := mkF m pc A Sc) X.here hx rfl hd z)
  | lconst v =>
    obtain rfl : len = 1 := by simpa [lenOk] using hlen
    simp only [xI] at h
    cases h
    exact Nxt.pure X rfl hL ⟨_, _, rfl, rfl, hS⟩ hH hF (fun t z => XT.lconst (g := mkF m pc A Sc) X.here hx rfl hd z)
  | ldc k =>
    obtain rfl : len = 2 := by simpa [lenOk] using hlen
    simp only [xI] at h
    cases h
    have w1 := hWi (.constant d.name.cls k (Int32.ofInt b)) (List.mem_singleton.mpr rfl)
    exact Nxt.pure X rfl hL ⟨_, _, rfl, rfl, hS⟩ hH hF (fun t z => X.ldcInt hx hown (mvT hZ w1) (g := mkF m pc A Sc) rfl hd t z)
  | ldc2_w k =>
    obtain rfl : len = 3 := by simpa [lenOk] using hlen
    simp only [xI] at h
    cases h
    have w1 := hWi (.constantLong d.name.cls k (Int64.ofInt b)) (List.mem_singleton.mpr rfl)
    exact Nxt.pure X rfl hL ⟨_, _, rfl, rfl, hS⟩ hH hF (fun t z => X.ldc2Long hx hown (mvT hZ w1) (g := mkF m pc A Sc) rfl hd t z)
  | iadd =>
    obtain rfl : len = 1 := by simpa [lenOk] using hlen
    simp only [xI] at h
    split at h
    · rename_i y x S0
      cases h
      obtain ⟨S1, rfl, h1⟩ := hS.int
      obtain ⟨S2, rfl, h2⟩ := h1.int
      exact Nxt.pure X rfl hL ⟨_, _, rfl, rfl, h2⟩ hH hF (fun t z => XS.iadd (g := mkF m pc A _) X.here hx rfl hd rfl z)
    · cases h
  | isub =>
    obtain rfl : len = 1 := by simpa [lenOk] using hlen
    simp only [xI] at h
    split at h
    · rename_i y x S0
      cases h
      obtain ⟨S1, rfl, h1⟩ := hS.int
      obtain ⟨S2, rfl, h2⟩ := h1.int
      exact Nxt.pure X rfl hL ⟨_, _, rfl, rfl, h2⟩ hH hF (fun t z => XS.isub (g := mkF m pc A _) X.here hx rfl hd rfl z)
    · cases h
  | imul =>
    obtain rfl : len = 1 := by simpa [lenOk] using hlen
    simp only [xI] at h
    split at h
    · rename_i y x S0
      cases h
      obtain ⟨S1, rfl, h1⟩ := hS.int
      obtain ⟨S2, rfl, h2⟩ := h1.int
      exact Nxt.pure X rfl hL ⟨_, _, rfl, rfl, h2⟩ hH hF (fun t z => XS.imul (g := mkF m pc A _) X.here hx rfl hd rfl z)
    · cases h
  | iand =>
    obtain rfl : len = 1 := by simpa [lenOk] using hlen
    simp only [xI] at h
    split at h
    · rename_i y x S0
      cases h
      obtain ⟨S1, rfl, h1⟩ := hS.int
      obtain ⟨S2, rfl, h2⟩ := h1.int
      exact Nxt.pure X rfl hL ⟨_, _, rfl, rfl, h2⟩ hH hF (fun t z => XS.iand (g := mkF m pc A _) X.here hx rfl hd rfl z)
    · cases h
  | ior =>
    obtain rfl : len = 1 := by simpa [lenOk] using hlen
    simp only [xI] at h
    split at h
    · rename_i y x S0
      cases h
      obtain ⟨S1, rfl, h1⟩ := hS.int
      obtain ⟨S2, rfl, h2⟩ := h1.int
      exact Nxt.pure X rfl hL ⟨_, _, rfl, rfl, h2⟩ hH hF (fun t z => XT.ior (g := mkF m pc A _) X.here hx rfl hd rfl z)
    · cases h
  | ixor =>
    obtain rfl : len = 1 := by simpa [lenOk] using hlen
    simp only [xI] at h
    split at h
    · rename_i y x S0
      cases h
      obtain ⟨S1, rfl, h1⟩ := hS.int
      obtain ⟨S2, rfl, h2⟩ := h1.int
      exact Nxt.pure X rfl hL ⟨_, _, rfl, rfl, h2⟩ hH hF (fun t z => XT.ixor (g := mkF m pc A _) X.here hx rfl hd rfl z)
    · cases h
  | ishl =>
    obtain rfl : len = 1 := by simpa [lenOk] using hlen
    simp only [xI] at h
    split at h
    · rename_i y x S0
      cases h
      obtain ⟨S1, rfl, h1⟩ := hS.int
      obtain ⟨S2, rfl, h2⟩ := h1.int
      exact Nxt.pure X rfl hL ⟨_, _, rfl, rfl, h2⟩ hH hF (fun t z => XT.ishl (g := mkF m pc A _) X.here hx rfl hd rfl z)
    · cases h
  | ishr =>
    obtain rfl : len = 1 := by simpa [lenOk] using hlen
    simp only [xI] at h
    split at h
    · rename_i y x S0
      cases h
      obtain ⟨S1, rfl, h1⟩ := hS.int
      obtain ⟨S2, rfl, h2⟩ := h1.int
      exact Nxt.pure X rfl hL ⟨_, _, rfl, rfl, h2⟩ hH hF (fun t z => XT.ishr (g := mkF m pc A _) X.here hx rfl hd rfl z)
    · cases h
  | iushr =>
    obtain rfl : len = 1 := by simpa [lenOk] using hlen
    simp only [xI] at h
    split at h
    · rename_i y x S0
      cases h
      obtain ⟨S1, rfl, h1⟩ := hS.int
      obtain ⟨S2, rfl, h2⟩ := h1.int
      exact Nxt.pure X rfl hL ⟨_, _, rfl, rfl, h2⟩ hH hF (fun t z => XT.iushr (g := mkF m pc A _) X.here hx rfl hd rfl z)
    · cases h
  | ladd =>
    obtain rfl : len = 1 := by simpa [lenOk] using hlen
    simp only [xI] at h
    split at h
    · rename_i y x S0
      cases h
      obtain ⟨S1, rfl, h1⟩ := hS.long
      obtain ⟨S2, rfl, h2⟩ := h1.long
      exact Nxt.pure X rfl hL ⟨_, _, rfl, rfl, h2⟩ hH hF (fun t z => XT.ladd (g := mkF m pc A _) X.here hx rfl hd rfl z)
    · cases h
  | lsub =>
    obtain rfl : len = 1 := by simpa [lenOk] using hlen
    simp only [xI] at h
    split at h
    · rename_i y x S0
      cases h
      obtain ⟨S1, rfl, h1⟩ := hS.long
      obtain ⟨S2, rfl, h2⟩ := h1.long
      exact Nxt.pure X rfl hL ⟨_, _, rfl, rfl, h2⟩ hH hF (fun t z => XT.lsub (g := mkF m pc A _) X.here hx rfl hd rfl z)
    · cases h
  | lmul =>
    obtain rfl : len = 1 := by simpa [lenOk] using hlen
    simp only [xI] at h
    split at h
    · rename_i y x S0
      cases h
      obtain ⟨S1, rfl, h1⟩ := hS.long
      obtain ⟨S2, rfl, h2⟩ := h1.long
      exact Nxt.pure X rfl hL ⟨_, _, rfl, rfl, h2⟩ hH hF (fun t z => XT.lmul (g := mkF m pc A _) X.here hx rfl hd rfl z)
    · cases h
  | land =>
    obtain rfl : len = 1 := by simpa [lenOk] using hlen
    simp only [xI] at h
    split at h
    · rename_i y x S0
      cases h
      obtain ⟨S1, rfl, h1⟩ := hS.long
      obtain ⟨S2, rfl, h2⟩ := h1.long
      exact Nxt.pure X rfl hL ⟨_, _, rfl, rfl, h2⟩ hH hF (fun t z => XT.land (g := mkF m pc A _) X.here hx rfl hd rfl z)
    · cases h
  | lor =>
    obtain rfl : len = 1 := by simpa [lenOk] using hlen
    simp only [xI] at h
    split at h
    · rename_i y x S0
      cases h
      obtain ⟨S1, rfl, h1⟩ := hS.long
      obtain ⟨S2, rfl, h2⟩ := h1.long
      exact Nxt.pure X rfl hL ⟨_, _, rfl, rfl, h2⟩ hH hF (fun t z => XT.lor (g := mkF m pc A _) X.here hx rfl hd rfl z)
    · cases h
  | lxor =>
    obtain rfl : len = 1 := by simpa [lenOk] using hlen
    simp only [xI] at h
    split at h
    · rename_i y x S0
      cases h
      obtain ⟨S1, rfl, h1⟩ := hS.long
      obtain ⟨S2, rfl, h2⟩ := h1.long
      exact Nxt.pure X rfl hL ⟨_, _, rfl, rfl, h2⟩ hH hF (fun t z => XT.lxor (g := mkF m pc A _) X.here hx rfl hd rfl z)
    · cases h
  | lcmp =>
    obtain rfl : len = 1 := by simpa [lenOk] using hlen
    simp only [xI] at h
    split at h
    · rename_i y x S0
      cases h
      obtain ⟨S1, rfl, h1⟩ := hS.long
      obtain ⟨S2, rfl, h2⟩ := h1.long
      exact Nxt.pure X rfl hL ⟨_, _, rfl, rfl, h2⟩ hH hF (fun t z => XT.lcmp (g := mkF m pc A _) X.here hx rfl hd rfl z)
    · cases h
  | lshl =>
    obtain rfl : len = 1 := by simpa [lenOk] using hlen
    simp only [xI] at h
    split at h
    · rename_i y x S0
      cases h
      obtain ⟨S1, rfl, h1⟩ := hS.int
      obtain ⟨S2, rfl, h2⟩ := h1.long
      exact Nxt.pure X rfl hL ⟨_, _, rfl, rfl, h2⟩ hH hF (fun t z => XT.lshl (g := mkF m pc A _) X.here hx rfl hd rfl z)
    · cases h
  | lshr =>
    obtain rfl : len = 1 := by simpa [lenOk] using hlen
    simp only [xI] at h
    split at h
    · rename_i y x S0
      cases h
      obtain ⟨S1, rfl, h1⟩ := hS.int
      obtain ⟨S2, rfl, h2⟩ := h1.long
      exact Nxt.pure X rfl hL ⟨_, _, rfl, rfl, h2⟩ hH hF (fun t z => XT.lshr (g := mkF m pc A _) X.here hx rfl hd rfl z)
    · cases h
  | lushr =>
    obtain rfl : len = 1 := by simpa [lenOk] using hlen
    simp only [xI] at h
    split at h
    · rename_i y x S0
      cases h
      obtain ⟨S1, rfl, h1⟩ := hS.int
      obtain ⟨S2, rfl, h2⟩ := h1.long
      exact Nxt.pure X rfl hL ⟨_, _, rfl, rfl, h2⟩ hH hF (fun t z => XT.lushr (g := mkF m pc A _) X.here hx rfl hd rfl z)
    · cases h
  | idiv =>
    obtain rfl : len = 1 := by simpa [lenOk] using hlen
    simp only [xI] at h
    split at h
    · rename_i y x S0
      split at h
      · cases h
      · rename_i hy
        cases h
        obtain ⟨S1, rfl, h1⟩ := hS.int
        obtain ⟨S2, rfl, h2⟩ := h1.int
        exact Nxt.pure X rfl hL ⟨_, _, rfl, rfl, h2⟩ hH hF (fun t z => XS.idiv (g := mkF m pc A _) X.here hx rfl hd rfl hy z)
    · cases h
  | irem =>
    obtain rfl : len = 1 := by simpa [lenOk] using hlen
    simp only [xI] at h
    split at h
    · rename_i y x S0
      split at h
      · cases h
      · rename_i hy
        cases h
        obtain ⟨S1, rfl, h1⟩ := hS.int
        obtain ⟨S2, rfl, h2⟩ := h1.int
        exact Nxt.pure X rfl hL ⟨_, _, rfl, rfl, h2⟩ hH hF (fun t z => iremM (g := mkF m pc A _) X hx rfl hd rfl hy z)
    · cases h
  | ldiv =>
    obtain rfl : len = 1 := by simpa [lenOk] using hlen
    simp only [xI] at h
    split at h
    · rename_i y x S0
      split at h
      · cases h
      · rename_i hy
        cases h
        obtain ⟨S1, rfl, h1⟩ := hS.long
        obtain ⟨S2, rfl, h2⟩ := h1.long
        exact Nxt.pure X rfl hL ⟨_, _, rfl, rfl, h2⟩ hH hF (fun t z => XT.ldiv (g := mkF m pc A _) X.here hx rfl hd rfl hy z)
    · cases h
  | lrem =>
    obtain rfl : len = 1 := by simpa [lenOk] using hlen
    simp only [xI] at h
    split at h
    · rename_i y x S0
      split at h
      · cases h
      · rename_i hy
        cases h
        obtain ⟨S1, rfl, h1⟩ := hS.long
        obtain ⟨S2, rfl, h2⟩ := h1.long
        exact Nxt.pure X rfl hL ⟨_, _, rfl, rfl, h2⟩ hH hF (fun t z => XT.lrem (g := mkF m pc A _) X.here hx rfl hd rfl hy (by rw [lrem_mod]; exact z))
    · cases h
  | i2l =>
    obtain rfl : len = 1 := by simpa [lenOk] using hlen
    simp only [xI] at h
    split at h
    · rename_i x S0
      cases h
      obtain ⟨S1, rfl, h1⟩ := hS.int
      exact Nxt.pure X rfl hL ⟨_, _, rfl, rfl, h1⟩ hH hF (fun t z => XT.i2l (g := mkF m pc A _) X.here hx rfl hd rfl z)
    · cases h
  | l2i =>
    obtain rfl : len = 1 := by simpa [lenOk] using hlen
    simp only [xI] at h
    split at h
    · rename_i x S0
      cases h
      obtain ⟨S1, rfl, h1⟩ := hS.long
      exact Nxt.pure X rfl hL ⟨_, _, rfl, rfl, h1⟩ hH hF (fun t z => XT.l2i (g := mkF m pc A _) X.here hx rfl hd rfl z)
    · cases h
  | dup =>
    obtain rfl : len = 1 := by simpa [lenOk] using hlen
    simp only [xI] at h
    split at h
    · rename_i x S0
      cases h
      obtain ⟨S1, rfl, h1⟩ := hS.int
      exact Nxt.pure X rfl hL ⟨_, _, rfl, rfl, _, _, rfl, rfl, h1⟩ hH hF (fun t z => XS.dup (g := mkF m pc A _) X.here hx rfl hd rfl rfl z)
    · rename_i x S0
      cases h
      obtain ⟨ad, S1, g1, rfl, h1⟩ := hS.ref
      exact Nxt.pure X rfl hL ⟨_, _, rfl, ⟨ad, g1, rfl⟩, _, _, rfl, ⟨ad, g1, rfl⟩, h1⟩ hH hF (fun t z => XS.dup (g := mkF m pc A _) X.here hx rfl hd rfl rfl z)
    · cases h
  | dup2 =>
    obtain rfl : len = 1 := by simpa [lenOk] using hlen
    simp only [xI] at h
    split at h
    · rename_i x y S0
      cases h
      obtain ⟨S1, rfl, h1⟩ := hS.int
      obtain ⟨ad, S2, g1, rfl, h2⟩ := h1.ref
      exact Nxt.pure X rfl hL ⟨_, _, rfl, rfl, _, _, rfl, ⟨ad, g1, rfl⟩, _, _, rfl, rfl, _, _, rfl, ⟨ad, g1, rfl⟩, h2⟩ hH hF (fun t z => XT.dup2 (g := mkF m pc A _) X.here hx rfl hd rfl rfl rfl z)
    · rename_i x S0
      cases h
      obtain ⟨S1, rfl, h1⟩ := hS.long
      exact Nxt.pure X rfl hL ⟨_, _, rfl, rfl, _, _, rfl, rfl, h1⟩ hH hF (fun t z => XT.dup2L (g := mkF m pc A _) X.here hx rfl hd rfl z)
    · cases h
  | pop =>
    obtain rfl : len = 1 := by simpa [lenOk] using hlen
    simp only [xI] at h
    split at h
    · rename_i x S0
      cases h
      obtain ⟨S1, rfl, h1⟩ := hS.int
      exact Nxt.pure X rfl hL h1 hH hF (fun t z => XT.pop (g := mkF m pc A _) X.here hx rfl hd rfl rfl z)
    · cases h
  | getfield k =>
    obtain rfl : len = 3 := by simpa [lenOk] using hlen
    simp only [xI] at h
    split at h
    · rename_i o S0
      obtain ⟨ad, S1, g1, rfl, h1⟩ := hS.ref
      split at h
      · rename_i c0 fs hc0
        split at h
        · rename_i ec
          subst ec
          obtain ⟨ad', g2, cd, q1, q2, q3, q4⟩ := hH.at hc0
          rw [g1] at g2; cases g2
          have hcd := cid_of hP hdm q1
          have core : ∀ v, fs[a]? = some v → ∃ w T2, VR ρ v w ∧ Stand p l e R s m args below meth c T2 locs cells slots ∧ T2.heap = T.heap ∧ ∀ target, Steps p.tables e below (T2.setTop (mkF m (pc + 3) A (w :: S1))) target → Steps p.tables e below (T.setTop (mkF m pc A (.ref ad :: S1))) target := fun v hv => by
            have ha : a < cd.2.2.length := by rw [← q3]; exact (List.getElem?_eq_some_iff.mp hv).1
            obtain ⟨w, hvw, F⟩ := q4 a v _ hv (List.getElem?_eq_getElem ha)
            have w1 := hWi (.fieldLink d.name.cls k d.name.cls cd.2.2[a].1 cd.2.2[a].2.1) (by
              show _ ∈ fLink P d k a
              unfold fLink
              rw [fieldOf_spec q1 (List.getElem?_eq_getElem ha)]
              exact List.mem_singleton.mpr rfl)
            rw [hcd] at F
            obtain ⟨T2, X2, e2, st2⟩ := getF X hx hZ hown (host := "") (Or.inl w1) Via.refl rfl F (g := mkF m pc A (.ref ad :: S1)) rfl rfl hd
            exact ⟨w, T2, hvw, X2, e2, st2⟩
          split at h
          · rename_i x hv
            cases h
            obtain ⟨w, T2, hvw, X2, e2, st2⟩ := core _ hv
            exact Nxt.mem X2 rfl hL ⟨_, _, rfl, hvw, h1⟩ (by rw [e2]; exact hH) hF st2
          · rename_i x hv
            cases h
            obtain ⟨w, T2, hvw, X2, e2, st2⟩ := core _ hv
            exact Nxt.mem X2 rfl hL ⟨_, _, rfl, hvw, h1⟩ (by rw [e2]; exact hH) hF st2
          · rename_i x hv
            cases h
            obtain ⟨w, T2, hvw, X2, e2, st2⟩ := core _ hv
            exact Nxt.mem X2 rfl hL ⟨_, _, rfl, hvw, h1⟩ (by rw [e2]; exact hH) hF st2
          · cases h
        · cases h
      · cases h
    · cases h
  | putfield k =>
    obtain rfl : len = 3 := by simpa [lenOk] using hlen
    simp only [xI] at h
    split at h
    · rename_i v o S0
      obtain ⟨w, Sx, rfl, hvw, hS1⟩ := hS
      obtain ⟨ad, S1, g1, rfl, h1⟩ := hS1.ref
      split at h
      · rename_i c0 fs hc0
        split at h
        · rename_i ec
          obtain ⟨ec, enr⟩ := ec
          subst ec
          split at h
          · rename_i nm ds ty fin hf
            split at h
            · rename_i hok
              cases h
              simp only [Bool.and_eq_true] at hok
              obtain ⟨hok, hfin⟩ := hok
              obtain ⟨ad', g2, cd, q1, q2, q3, q4⟩ := hH.at hc0
              rw [g1] at g2; cases g2
              have hcd := cid_of hP hdm q1
              rw [q1] at hf
              have hf' : cd.2.2[a]? = some (nm, ds, ty, fin) := hf
              have ha : a < fs.length := by rw [q3]; exact (List.getElem?_eq_some_iff.mp hf').1
              obtain ⟨w0, -, F⟩ := q4 a _ _ (List.getElem?_eq_getElem ha) hf'
              have w1 := hWi (.fieldLink d.name.cls k d.name.cls nm ds) (by
                show _ ∈ fLink P d k a
                unfold fLink
                rw [fieldOf_spec q1 hf']
                exact List.mem_singleton.mpr rfl)
              have hcm : cd ∈ P.cls := List.mem_of_getElem? q1
              have w2 := hW _ (in_wordsC hcm (fWord_in (List.mem_of_getElem? hf')))
              have w3 := hW (.instantiable cd.1 cd.2.1) (in_wordsC hcm (List.mem_cons_self ..))
              have hck := cChk_of hP hcm
              have hck' := hck
              simp only [cChk, Bool.and_eq_true, List.all_eq_true] at hck'
              have f1 := hck'.2 _ (List.mem_of_getElem? hf')
              simp only [fChk, Bool.and_eq_true, decide_eq_true_eq] at f1
              obtain ⟨p1, p2⟩ := putOk_sim hok hvw
              have Ly : (Jvm.Cond.lays cd.1 cd.1 nm ds).before a0 Z = true ∨ ((Jvm.Cond.laysFinal cd.1 cd.1 nm ds).before a0 Z = true ∧ d.name.cls = cd.1 ∧ meth.name = "<init>") := by
                unfold fWord at w2
                cases fin with
                | false => exact Or.inl w2
                | true => exact Or.inr ⟨w2, hcd.symm, by rw [hnm]; simpa using hfin⟩
              obtain ⟨T2, h2, X2, e2, W2, st2⟩ := putF X hx hZ hown (host := "") (R0 := d.name.cls) (O := cd.1) (Or.inl w1) (by rw [hcd]; exact Via.refl) rfl F q2 Ly w3 f1.1 p1 p2 (g := mkF m pc A (w :: .ref ad :: S1)) rfl rfl hd
              have hH2 := hH.putF (a0 := a0) g1 hc0 q1 hf' hck (fun f hfm => hW _ (in_wordsC hcm (fWord_in hfm))) W2 hvw
              exact Nxt.mem X2 rfl hL h1 (by rw [e2]; exact hH2) (Fr.snoc X2 hF (hH.2.2.2.1 _ _ g1 enr)) st2
            · cases h
          · cases h
        · cases h
      · cases h
    · cases h
  | iaload =>
    obtain rfl : len = 1 := by simpa [lenOk] using hlen
    simp only [xI] at h
    split at h
    · rename_i j o S0
      obtain ⟨S1, rfl, h1⟩ := hS.int
      obtain ⟨ad, S2, g1, rfl, h2⟩ := h1.ref
      split at h
      · rename_i B hc0
        obtain ⟨x, q, e1⟩ := Option.map_eq_some_iff.mp h
        cases e1
        obtain ⟨hj, hat⟩ := rdA_spec q
        obtain ⟨ad', g2, cl, Ar, z1, z2, z3⟩ := hH.at hc0
        rw [g1] at g2; cases g2
        have hin : ¬ (j < 0 ∨ cl.slots.size ≤ j.toNatClampNeg) := by
          have := (List.getElem?_eq_some_iff.mp hat).1
          rintro (y | y)
          · exact hj y
          · omega
        exact Nxt.pure X rfl hL ⟨_, _, rfl, rfl, h2⟩ hH hF (fun t z => X.iaload hx (j := j) (v := .int x) Ar.1 (State.isArrayOf_alike hZ.alike Ar.2.1) Ar.2.2 hin (z3 _ _ hat) (g := mkF m pc A _) rfl rfl hd t z)
      · cases h
    · cases h
  | baload =>
    obtain rfl : len = 1 := by simpa [lenOk] using hlen
    simp only [xI] at h
    split at h
    · rename_i j o S0
      obtain ⟨S1, rfl, h1⟩ := hS.int
      obtain ⟨ad, S2, g1, rfl, h2⟩ := h1.ref
      split at h
      · rename_i B hc0
        obtain ⟨x, q, e1⟩ := Option.map_eq_some_iff.mp h
        cases e1
        obtain ⟨hj, hat⟩ := rdA_spec q
        obtain ⟨ad', g2, cl, Ar, z1, z2, z3⟩ := hH.at hc0
        rw [g1] at g2; cases g2
        have hin : ¬ (j < 0 ∨ cl.slots.size ≤ j.toNatClampNeg) := by
          have := (List.getElem?_eq_some_iff.mp hat).1
          rintro (y | y)
          · exact hj y
          · omega
        exact Nxt.pure X rfl hL ⟨_, _, rfl, rfl, h2⟩ hH hF (fun t z => X.baloadBooleans hx (j := j) (v := .int x) Ar.1 (State.isArrayOf_alike hZ.alike Ar.2.1) Ar.2.2 hin (z3 _ _ hat) (g := mkF m pc A _) rfl rfl hd t z)
      · cases h
    · cases h
  | laload =>
    obtain rfl : len = 1 := by simpa [lenOk] using hlen
    simp only [xI] at h
    split at h
    · rename_i j o S0
      obtain ⟨S1, rfl, h1⟩ := hS.int
      obtain ⟨ad, S2, g1, rfl, h2⟩ := h1.ref
      split at h
      · rename_i B hc0
        obtain ⟨x, q, e1⟩ := Option.map_eq_some_iff.mp h
        cases e1
        obtain ⟨hj, hat⟩ := rdA_spec q
        obtain ⟨ad', g2, cl, Ar, z1, z2, z3⟩ := hH.at hc0
        rw [g1] at g2; cases g2
        have hin : ¬ (j < 0 ∨ cl.slots.size ≤ j.toNatClampNeg) := by
          have := (List.getElem?_eq_some_iff.mp hat).1
          rintro (y | y)
          · exact hj y
          · omega
        exact Nxt.pure X rfl hL ⟨_, _, rfl, rfl, h2⟩ hH hF (fun t z => X.laload hx (j := j) (v := .long x) Ar.1 (State.isArrayOf_alike hZ.alike Ar.2.1) Ar.2.2 hin (z3 _ _ hat) (g := mkF m pc A _) rfl rfl hd t z)
      · cases h
    · cases h
  | iastore =>
    obtain rfl : len = 1 := by simpa [lenOk] using hlen
    simp only [xI] at h
    split at h
    · rename_i x j o S0
      obtain ⟨S1, rfl, h1⟩ := hS.int
      obtain ⟨S2, rfl, h2⟩ := h1.int
      obtain ⟨ad, S3, g1, rfl, h3⟩ := h2.ref
      split at h
      · rename_i B hc0
        split at h
        · rename_i enr
          obtain ⟨B', q, e1⟩ := Option.map_eq_some_iff.mp h
          cases e1
          obtain ⟨hj, hlt, rfl⟩ := wrA_spec q
          obtain ⟨ad', g2, cl, Ar, z1, z2, z3⟩ := hH.at hc0
          rw [g1] at g2; cases g2
          have hin : ¬ (j < 0 ∨ cl.slots.size ≤ j.toNatClampNeg) := by
            rintro (y | y)
            · exact hj y
            · omega
          obtain ⟨T2, h2', X2, e2, W2, st2⟩ := stI X hx hZ rfl Ar (j := j) (x := x) hin (g := mkF m pc A _) rfl rfl hd
          exact Nxt.mem X2 rfl hL h3 (by rw [e2]; exact hH.wrI g1 hc0 W2) (Fr.snoc X2 hF (hH.2.2.2.1 _ _ g1 enr)) st2
        · cases h
      · cases h
    · cases h
  | bastore =>
    obtain rfl : len = 1 := by simpa [lenOk] using hlen
    simp only [xI] at h
    split at h
    · rename_i x j o S0
      obtain ⟨S1, rfl, h1⟩ := hS.int
      obtain ⟨S2, rfl, h2⟩ := h1.int
      obtain ⟨ad, S3, g1, rfl, h3⟩ := h2.ref
      split at h
      · rename_i B hc0
        split at h
        · rename_i enr
          obtain ⟨B', q, e1⟩ := Option.map_eq_some_iff.mp h
          cases e1
          obtain ⟨hj, hlt, rfl⟩ := wrA_spec q
          obtain ⟨ad', g2, cl, Ar, z1, z2, z3⟩ := hH.at hc0
          rw [g1] at g2; cases g2
          have hin : ¬ (j < 0 ∨ cl.slots.size ≤ j.toNatClampNeg) := by
            rintro (y | y)
            · exact hj y
            · omega
          obtain ⟨T2, h2', X2, e2, W2, st2⟩ := stZ X hx hZ rfl Ar (j := j) (x := x) hin (g := mkF m pc A _) rfl rfl hd
          exact Nxt.mem X2 rfl hL h3 (by rw [e2]; exact hH.wrI g1 hc0 W2) (Fr.snoc X2 hF (hH.2.2.2.1 _ _ g1 enr)) st2
        · cases h
      · cases h
    · cases h
  | lastore =>
    obtain rfl : len = 1 := by simpa [lenOk] using hlen
    simp only [xI] at h
    split at h
    · rename_i x j o S0
      obtain ⟨S1, rfl, h1⟩ := hS.long
      obtain ⟨S2, rfl, h2⟩ := h1.int
      obtain ⟨ad, S3, g1, rfl, h3⟩ := h2.ref
      split at h
      · rename_i B hc0
        split at h
        · rename_i enr
          obtain ⟨B', q, e1⟩ := Option.map_eq_some_iff.mp h
          cases e1
          obtain ⟨hj, hlt, rfl⟩ := wrA_spec q
          obtain ⟨ad', g2, cl, Ar, z1, z2, z3⟩ := hH.at hc0
          rw [g1] at g2; cases g2
          have hin : ¬ (j < 0 ∨ cl.slots.size ≤ j.toNatClampNeg) := by
            rintro (y | y)
            · exact hj y
            · omega
          obtain ⟨T2, h2', X2, e2, W2, st2⟩ := stJ X hx hZ rfl Ar (j := j) (x := x) hin (g := mkF m pc A _) rfl rfl hd
          exact Nxt.mem X2 rfl hL h3 (by rw [e2]; exact hH.wrJ g1 hc0 W2) (Fr.snoc X2 hF (hH.2.2.2.1 _ _ g1 enr)) st2
        · cases h
      · cases h
    · cases h
  | arraylength =>
    obtain rfl : len = 1 := by simpa [lenOk] using hlen
    simp only [xI] at h
    split at h
    · rename_i o S0
      obtain ⟨ad, S1, g1, rfl, h1⟩ := hS.ref
      split at h
      · rename_i bb B hc0
        cases h
        obtain ⟨ad', g2, cl, Ar, z1, z2, z3⟩ := hH.at hc0
        rw [g1] at g2; cases g2
        exact Nxt.pure X rfl hL ⟨_, _, rfl, rfl, h1⟩ hH hF (fun t z => X.arraylength hx (cell := cl) Ar.1 (State.isArrayOf_alike hZ.alike Ar.2.1) (g := mkF m pc A _) rfl rfl hd t (by rw [z1]; exact z))
      · cases h
    · cases h
  | _ => simp [xI] at h
set_option maxHeartbeats 4000000 in
theorem stepN (X : Stand p l e R s m args below meth c T locs cells slots) (hx : p.tables.exec = Jvm.exec) (hZ : Z.Warmed39 s.vm) (hown : s.vm.findClass d.name.cls = some m.cls) (hP : chk P = true) (hW : ∀ w ∈ wordsOf P, w.before a0 Z = true) (hdm : d ∈ P.mth)
    {pc len a ks : Nat} {er : List Bool} {b : Int} {i : Instr} (hit : (pc, i, len, er, a, b) ∈ d.code) (hd : decode c.code pc = .ok (i, len)) (hlen : lenOk i len = true) {ρ : List Addr} {S S' Sc : List Value} {H H1 : AHeap} {A : Array Slot}
    (hS : SR ρ S Sc) (hH : HR P Z n0 T.heap ρ H) (h : xN P i a S H = some (S', H1, ks)) (hc : cells + 1 ≤ R.cells) (hl : slots + ks ≤ R.slots) :
    ∃ T' ad Sc', Stand p l e R s m args below meth c T' locs (cells + 1) (slots + ks) ∧ SR (ρ ++ [ad]) S' Sc' ∧ HR P Z n0 T'.heap (ρ ++ [ad]) H1 ∧
      ∀ target, Steps p.tables e below (T'.setTop (mkF m (pc + len) A Sc')) target → Steps p.tables e below (T.setTop (mkF m pc A Sc)) target := by
  have hWi : ∀ w ∈ iWords P d (pc, i, len, er, a, b), w.before a0 Z = true := fun w q => hW w (in_wordsOf hdm hit q)
  cases i with
  | new k =>
    obtain rfl : len = 3 := by simpa [lenOk] using hlen
    simp only [xN] at h
    split at h
    · rename_i cd q1
      cases h
      have hcm : cd ∈ P.cls := List.mem_of_getElem? q1
      have w1 := hWi (.classLink d.name.cls k cd.1) (by simp only [iWords, q1]; exact List.mem_singleton.mpr rfl)
      have w2 := hW (.instantiable cd.1 cd.2.1) (in_wordsC hcm (List.mem_cons_self ..))
      have w3 := hW (.initialized cd.1) (in_wordsC hcm (List.mem_cons_of_mem _ (List.mem_cons_self ..)))
      obtain ⟨T2, h2, X2, e2, E2, A2, D2, -, st2⟩ := newO X hx hZ hown w1 w2 w3 rfl (g := mkF m pc A Sc) rfl hd hc hl
      have hck := cChk_of hP hcm
      simp only [cChk, Bool.and_eq_true, List.all_eq_true] at hck
      have hcr : CR P Z h2 (ρ ++ [T.heap.size]) T.heap.size (.inl (a, cd.2.2.map fun f => dflt f.2.2.1)) := by
        refine ⟨cd, q1, A2, by simp, fun j v fd y1 y2 => ?_⟩
        rw [List.getElem?_map, y2] at y1
        cases y1
        have f1 := hck.2 _ (List.mem_of_getElem? y2)
        simp only [fChk, Bool.and_eq_true, decide_eq_true_eq] at f1
        exact ⟨_, dflt_sim f1.2, D2 (laid_of (hW _ (in_wordsC hcm (fWord_in (List.mem_of_getElem? y2))))) f1.1⟩
      refine ⟨T2, T.heap.size, _, X2, ⟨_, _, rfl, ⟨T.heap.size, ?_, rfl⟩, hS.mono⟩, (by rw [e2]; exact hH.push E2 hcr), st2⟩
      rw [← hH.2.1]; simp
    · cases h
  | newarray t =>
    obtain rfl : len = 2 := by simpa [lenOk] using hlen
    simp only [xN] at h
    split at h
    · rename_i n S0
      obtain ⟨S1, rfl, h1⟩ := hS.int
      split at h
      · cases h
      · rename_i hn
        have hn1 : ¬ n < 0 := fun z => hn (Or.inl z)
        have hn2 : n.toNatClampNeg ≤ 100000 := Nat.le_of_not_lt fun z => hn (Or.inr z)
        have w1 := hWi (.arrayClass (newarray.typeOf t)) (List.mem_singleton.mpr rfl)
        have top : (ρ ++ [T.heap.size])[H.length]? = some T.heap.size := by rw [← hH.2.1]; simp
        split at h
        · cases h
          obtain ⟨T2, h2, cA, X2, e2, E2, A2, st2⟩ := newP X hx hZ w1 rfl (g := mkF m pc A _) rfl hd rfl hn1 (cap := n.toNatClampNeg) (Nat.le_refl _) (by omega) hc hl
          have hcr : CR P Z h2 (ρ ++ [T.heap.size]) T.heap.size ((.inr (.inl (false, List.replicate n.toNatClampNeg 0)) : ACell)) := by
            refine ⟨_, A2, by simp [sz_new], by simp; omega, fun j x y => ?_⟩
            rw [List.getElem?_replicate] at y
            split at y
            · rename_i lt
              cases y
              simp [newA, lt, newarray.typeOf, defaultValue]
            · cases y
          exact ⟨T2, T.heap.size, _, X2, ⟨_, _, rfl, ⟨T.heap.size, top, rfl⟩, h1.mono⟩, (by rw [e2]; exact hH.push E2 hcr), st2⟩
        · cases h
          obtain ⟨T2, h2, cA, X2, e2, E2, A2, st2⟩ := newP X hx hZ w1 rfl (g := mkF m pc A _) rfl hd rfl hn1 (cap := n.toNatClampNeg) (Nat.le_refl _) (by omega) hc hl
          have hcr : CR P Z h2 (ρ ++ [T.heap.size]) T.heap.size ((.inr (.inl (true, List.replicate n.toNatClampNeg 0)) : ACell)) := by
            refine ⟨_, A2, by simp [sz_new], by simp; omega, fun j x y => ?_⟩
            rw [List.getElem?_replicate] at y
            split at y
            · rename_i lt
              cases y
              simp [newA, lt, newarray.typeOf, defaultValue]
            · cases y
          exact ⟨T2, T.heap.size, _, X2, ⟨_, _, rfl, ⟨T.heap.size, top, rfl⟩, h1.mono⟩, (by rw [e2]; exact hH.push E2 hcr), st2⟩
        · cases h
          obtain ⟨T2, h2, cA, X2, e2, E2, A2, st2⟩ := newP X hx hZ w1 rfl (g := mkF m pc A _) rfl hd rfl hn1 (cap := n.toNatClampNeg) (Nat.le_refl _) (by omega) hc hl
          have hcr : CR P Z h2 (ρ ++ [T.heap.size]) T.heap.size ((.inr (.inr (List.replicate n.toNatClampNeg 0)) : ACell)) := by
            refine ⟨_, A2, by simp [sz_new], by simp; omega, fun j x y => ?_⟩
            rw [List.getElem?_replicate] at y
            split at y
            · rename_i lt
              cases y
              simp [newA, lt, newarray.typeOf, defaultValue]
            · cases y
          exact ⟨T2, T.heap.size, _, X2, ⟨_, _, rfl, ⟨T.heap.size, top, rfl⟩, h1.mono⟩, (by rw [e2]; exact hH.push E2 hcr), st2⟩
        · cases h
    · cases h
  | _ => simp [xN] at h
end Step
end Jvm.Own
namespace Jvm.Own
open Jvm Jvm.ClassFile Sem Op Lib Jvm.Free Jvm.Stand Jvm.LawKit Jvm.RoadKit Bundle
theorem fetch_mem : ∀ {l : List (Nat × It)} {pc : Nat} {i : It}, fetch l pc = some i → (pc, i) ∈ l
  | [], _, _, h => by simp [fetch] at h
  | (q, j) :: r, pc, i, h => by
    unfold fetch at h
    split at h
    · rename_i e; cases h; subst e; exact List.mem_cons_self ..
    · exact List.mem_cons_of_mem _ (fetch_mem h)
theorem tgt_spec {pc q : Nat} {o : Int} (h : tgt pc o = some q) : 0 ≤ (pc : Int) + o ∧ ((pc : Int) + o).toNat = q := by
  unfold tgt at h
  split at h
  · rename_i z; cases h; exact ⟨z, rfl⟩
  · cases h
/-- the end of a method's run -/
def Done (P : PD) (Z : State) (n0 : Nat) (p : Program) (e : Env) (below : List Frame) (s : State) (ρ : List Addr) (v : Option Value) (H' : AHeap) (kc ks : Nat) (t0 : State) : Prop :=
  ∃ s₂ v' L' t, Steps p.tables e below t0 s₂ ∧ s₂.status = .running ∧ Ended s₂ below (.returned v') ∧ OV (ρ ++ t) v v' ∧ HR P Z n0 s₂.heap (ρ ++ t) H' ∧ Fr n0 L' ∧ FrameEnd s (.returned v') s₂ L' kc ks
def Cx (P : PD) (Z : State) (p : Program) (R : Room) (s : State) (m : MethodId) (meth : Method) (c : Code) (d : MD) : Prop :=
  p.tables.exec = Jvm.exec ∧ Z.Warmed39 s.vm ∧ c.code = d.bytes ∧ c.maxLocals = d.maxL ∧ s.vm.findClass d.name.cls = some m.cls ∧ meth.name = d.name.name ∧ meth.sig.returnType = d.ret ∧ meth.locks = false ∧ d.rf ≤ R.frames ∧ d.rw ≤ R.locals
/-- what the machine says of a run that has come to pc is what the model does -/
def Says (P : PD) (Z : State) (n0 : Nat) (l : Launch) (n : Nat) : Prop :=
  ∀ (mi pc : Nat) (L : List Slot) (S : List Value) (H : AHeap) (v : Option Value) (H' : AHeap) (kc ks : Nat), exe P n mi pc L S H = some (v, H', kc, ks) → ∀ d, P.mth[mi]? = some d →
    ∀ (p : Program) (e : Env) (R : Room) (s : State) (m : MethodId) (args : Array Value) (below : List Frame) (meth : Method) (c : Code) (T : State) (locs : List Loc) (cells slots : Nat),
      Stand p l e R s m args below meth c T locs cells slots → Cx P Z p R s m meth c d → cells + kc ≤ R.cells → slots + ks ≤ R.slots →
      ∀ (ρ : List Addr) (A : Array Slot) (Sc : List Value), LR ρ L A → L.length = d.maxL → SR ρ S Sc → HR P Z n0 T.heap ρ H → Fr n0 locs →
        Done P Z n0 p e below s ρ v H' (cells + kc) (slots + ks) (T.setTop (mkF m pc A Sc))
def QQ (P : PD) (Z : State) (n0 : Nat) (ρ : List Addr) (v : Option Value) (H1 : AHeap) (v' : Option Value) (h' : Heap) (L : List Loc) : Prop := Fr n0 L ∧ ∃ t, OV (ρ ++ t) v v' ∧ HR P Z n0 h' (ρ ++ t) H1
theorem met_of {P : PD} {Z : State} {n0 : Nat} {l : Launch} {n : Nat} (ih : Says P Z n0 l n) {j : Nat} {y : MD} (hy : P.mth[j]? = some y) (hpn : plainName y.name.cls = true) {as ws : List Value} {H H1 : AHeap} {v : Option Value} {kc ks : Nat} (he : exe P n j 0 (entL as y.maxL) [] H = some (v, H1, kc, ks)) {ρ : List Addr} (hS : SR ρ as ws) (hlen : (entA as).length ≤ y.maxL) {h : Heap} (hH : HR P Z n0 h ρ H) (w0 : List Jvm.Cond) (rm : Room) (r1 : y.rf ≤ rm.frames) (r2 : y.rw ≤ rm.locals) (r3 : kc ≤ rm.cells) (r4 : ks ≤ rm.slots) :
    MetFree l y.name (head1 (Jvm.Cond.code y.name y.bytes y.maxL y.ret :: w0) rm) (fun a U => a = ws.toArray ∧ Z.Warmed39 U.vm ∧ U.heap = h) (fun _ _ _ _ _ => True)
      (fun _ U o U' => ∃ v' L, o = .returned v' ∧ QQ P Z n0 ρ v H1 v' U'.heap L ∧ FrameEnd U o U' L kc ks) := by
  refine MetFree.of_bodySF (plainFor_of_name hpn) hisR ?_
  intro p e s m args below meth c s₁ Bd hml0 hP hK
  obtain ⟨rfl, hZ, hh⟩ := hP
  have X0 : Stand p l e rm s m ws.toArray below meth c s₁ [] 0 0 := Stand.of_body Bd
  have e0 : s₁.heap = h := by rw [← hh, Bd.state]; rfl
  obtain ⟨hL, hsz⟩ := LR.enter hS hlen
  have hLl : (entL as y.maxL).length = y.maxL := by rw [← hL.1]; exact hsz
  obtain ⟨s₂, v', L', t, h1, h2, h3, h4, h5, h6, h7⟩ := ih j 0 _ [] H v H1 kc ks he y hy p e _ s m ws.toArray below meth c s₁ [] 0 0 X0
    ⟨Bd.exec, hZ, Bd.bytes, hml0, findClass_of_methodNamed Bd.named, (name_of_methodNamed Bd.named Bd.method).1, Bd.returns, BodyLoose.notSynchronized Bd, r1, r2⟩
    (by rw [Nat.zero_add]; exact r3) (by rw [Nat.zero_add]; exact r4) ρ _ [] hL hLl rfl (by rw [e0]; exact hH) (Fr.nil n0)
  refine ⟨s₂, _, h1, h2, h3, v', L', rfl, ⟨h6, t, h4, h5⟩, ?_⟩
  rw [Nat.zero_add, Nat.zero_add] at h7
  exact h7
section Sound
variable {P : PD} {Z : State} {n0 : Nat} {a0 : Array Value} {l : Launch}
theorem Done.step {p : Program} {e : Env} {below : List Frame} {s : State} {ρ t : List Addr} {v : Option Value} {H' : AHeap} {kc ks : Nat} {t0 t1 : State} (h : Done P Z n0 p e below s (ρ ++ t) v H' kc ks t1) (k : ∀ target, Steps p.tables e below t1 target → Steps p.tables e below t0 target) : Done P Z n0 p e below s ρ v H' kc ks t0 := by
  obtain ⟨s₂, v', L', t', h1, h2, h3, h4, h5, h6, h7⟩ := h
  exact ⟨s₂, v', L', t ++ t', k _ h1, h2, h3, by rw [← List.append_assoc]; exact h4, by rw [← List.append_assoc]; exact h5, h6, h7⟩
theorem argsOf_spec {n : Nat} {S as rest : List Value} (h : argsOf n S = some (as, rest)) : n ≤ S.length ∧ as = (S.take n).reverse ∧ rest = S.drop n := by
  unfold argsOf at h
  split at h
  · rename_i z; cases h; exact ⟨z, rfl, rfl⟩
  · cases h
theorem res_ext {α : Type} {o : Option Res} {v : Option Value} {H' : AHeap} {kc ks c1 s1 : Nat} (h : (o.map fun r => addR r c1 s1) = some (v, H', kc, ks)) : ∃ kc' ks', o = some (v, H', kc', ks') ∧ kc = kc' + c1 ∧ ks = ks' + s1 := by
  obtain ⟨⟨v0, H0, c0, s0⟩, h1, h2⟩ := Option.map_eq_some_iff.mp h
  simp only [addR] at h2
  cases h2
  exact ⟨c0, s0, h1, rfl, rfl⟩
set_option maxHeartbeats 4000000 in
theorem sound (hP : chk P = true) (hW : ∀ w ∈ wordsOf P, w.before a0 Z = true) : ∀ n, Says P Z n0 l n
  | 0 => fun mi pc L S H v H' kc ks h => by simp [exe] at h
  | n + 1 => by
    have ih := sound hP hW n
    intro mi pc L S H v H' kc ks h d hmi
    unfold exe at h
    rw [hmi] at h
    simp only at h
    have hdm : d ∈ P.mth := List.mem_of_getElem? hmi
    split at h
    · cases h
    rename_i it i len er a b hft
    have hit := fetch_mem hft
    have hmc := mChk_of hP hdm
    simp only [mChk, Bool.and_eq_true] at hmc
    obtain ⟨⟨⟨⟨⟨⟨mc1, mc2⟩, mc3⟩, mc4⟩, mc5⟩, mc6⟩, mc7⟩ := hmc
    unfold codeChk at mc3
    rw [List.all_eq_true] at mc3
    have hci := mc3 _ hit
    simp only [Bool.and_eq_true, decide_eq_true_eq] at hci
    obtain ⟨hdec, hlenOk⟩ := hci
    -- a jump, or a fall through
    have jump : ∀ (q : Nat) (S1 : List Value) (h1 : exe P n mi q (forget er L) S1 H = some (v, H', kc, ks)),
        (∀ (p : Program) (e : Env) (R : Room) (s : State) (m : MethodId) (args : Array Value) (below : List Frame) (meth : Method) (c : Code) (T : State) (locs : List Loc) (cells slots : Nat),
          Stand p l e R s m args below meth c T locs cells slots → Cx P Z p R s m meth c d → ∀ (ρ : List Addr) (A : Array Slot) (Sc : List Value), LR ρ L A → SR ρ S Sc → ∃ Sc1, SR ρ S1 Sc1 ∧ ∀ target, Steps p.tables e below (T.setTop (mkF m q A Sc1)) target → Steps p.tables e below (T.setTop (mkF m pc A Sc)) target) →
        ∀ (p : Program) (e : Env) (R : Room) (s : State) (m : MethodId) (args : Array Value) (below : List Frame) (meth : Method) (c : Code) (T : State) (locs : List Loc) (cells slots : Nat),
          Stand p l e R s m args below meth c T locs cells slots → Cx P Z p R s m meth c d → cells + kc ≤ R.cells → slots + ks ≤ R.slots →
          ∀ (ρ : List Addr) (A : Array Slot) (Sc : List Value), LR ρ L A → L.length = d.maxL → SR ρ S Sc → HR P Z n0 T.heap ρ H → Fr n0 locs →
            Done P Z n0 p e below s ρ v H' (cells + kc) (slots + ks) (T.setTop (mkF m pc A Sc)) := by
      intro q S1 h1 st p e R s m args below meth c T locs cells slots X cx k1 k2 ρ A Sc hL hLl hS hH hF
      obtain ⟨Sc1, hS1, st1⟩ := st p e R s m args below meth c T locs cells slots X cx ρ A Sc hL hS
      have := ih mi q _ S1 H v H' kc ks h1 d hmi p e R s m args below meth c T locs cells slots X cx k1 k2 ρ A Sc1 (hL.forget er) (by rw [forget_len]; exact hLl) hS1 hH hF
      exact Done.step (t := []) (by rw [List.append_nil]; exact this) st1
    have dec : ∀ {c : Code}, c.code = d.bytes → decode c.code pc = .ok (i, len) := fun hc => by rw [hc]; exact hdec
    split at h
    · -- goto
      rename_i o
      split at h
      · rename_i q hq
        obtain ⟨t1, t2⟩ := tgt_spec hq
        have m3 := jump q S h
        obtain rfl : len = 3 := by simpa [lenOk] using hlenOk
        exact m3 fun p e R s m args below meth c T locs cells slots X cx ρ A Sc hL hS => ⟨Sc, hS, fun t z => XS.goto (g := mkF m pc A Sc) X.here cx.1 rfl (pc0 := pc) (pc' := q) rfl (dec cx.2.2.1) t1 t2 z⟩
      · cases h
    · -- if_icmp
      rename_i cd o
      split at h
      · rename_i y x S1
        obtain rfl : len = 3 := by simpa [lenOk] using hlenOk
        split at h
        · rename_i hc
          split at h
          · rename_i q hq
            obtain ⟨t1, t2⟩ := tgt_spec hq
            have m3 := jump q S1 h
            exact m3 fun p e R s m args below meth c T locs cells slots X cx ρ A Sc hL hS => by
              obtain ⟨Sa, rfl, ha⟩ := hS.int
              obtain ⟨Sb, rfl, hb⟩ := ha.int
              exact ⟨Sb, hb, fun t z => XS.icmpYes (g := mkF m pc A _) X.here cx.1 rfl (pc0 := pc) (pc' := q) rfl (dec cx.2.2.1) rfl hc t1 t2 z⟩
          · cases h
        · rename_i hc
          have m3 := jump (pc + 3) S1 h
          exact m3 fun p e R s m args below meth c T locs cells slots X cx ρ A Sc hL hS => by
            obtain ⟨Sa, rfl, ha⟩ := hS.int
            obtain ⟨Sb, rfl, hb⟩ := ha.int
            exact ⟨Sb, hb, fun t z => XS.icmpNo (g := mkF m pc A _) X.here cx.1 rfl (dec cx.2.2.1) rfl (by simpa using hc) z⟩
      · cases h
    · -- ifCond
      rename_i cd o
      split at h
      · rename_i x S1
        obtain rfl : len = 3 := by simpa [lenOk] using hlenOk
        split at h
        · rename_i hc
          split at h
          · rename_i q hq
            obtain ⟨t1, t2⟩ := tgt_spec hq
            have m3 := jump q S1 h
            exact m3 fun p e R s m args below meth c T locs cells slots X cx ρ A Sc hL hS => by
              obtain ⟨Sa, rfl, ha⟩ := hS.int
              exact ⟨Sa, ha, fun t z => XS.ifYes (g := mkF m pc A _) X.here cx.1 rfl (pc0 := pc) (pc' := q) rfl (dec cx.2.2.1) rfl hc t1 t2 z⟩
          · cases h
        · rename_i hc
          have m3 := jump (pc + 3) S1 h
          exact m3 fun p e R s m args below meth c T locs cells slots X cx ρ A Sc hL hS => by
            obtain ⟨Sa, rfl, ha⟩ := hS.int
            exact ⟨Sa, ha, fun t z => XS.ifNo (g := mkF m pc A _) X.here cx.1 rfl (dec cx.2.2.1) rfl (by simpa using hc) z⟩
      · cases h
    · -- ifnonnull
      rename_i o
      split at h
      · rename_i x S1
        split at h
        · rename_i q hq
          obtain ⟨t1, t2⟩ := tgt_spec hq
          have m3 := jump q S1 h
          obtain rfl : len = 3 := by simpa [lenOk] using hlenOk
          exact m3 fun p e R s m args below meth c T locs cells slots X cx ρ A Sc hL hS => by
            obtain ⟨ad, Sa, -, rfl, ha⟩ := hS.ref
            exact ⟨Sa, ha, fun t z => XT.ifnonnullYes (g := mkF m pc A _) X.here cx.1 rfl (pc0 := pc) (pc' := q) rfl (dec cx.2.2.1) rfl t1 t2 z⟩
        · cases h
      · cases h
    · -- ireturn
      split at h
      · rename_i x
        split at h
        · rename_i v0 hv0
          cases h
          obtain rfl : len = 1 := by simpa [lenOk] using hlenOk
          intro p e R s m args below meth c T locs cells slots X cx k1 k2 ρ A Sc hL hLl hS hH hF
          obtain ⟨hx, hZ, hby, hml, hown, hnm, hret, hlk, -, -⟩ := cx
          obtain ⟨Sa, rfl, ha⟩ := hS.int
          unfold retV at hv0
          split at hv0
          · rename_i hr0
            cases hv0
            obtain ⟨fs, hr, hrun, hended, hWm, hsame⟩ := X.leave (v := some (.int x)) (fun q => by rw [hret, hr0] at q; cases q) hlk
            exact ⟨_, _, locs, [], retI X hx (by rw [hret, hr0]) (dec hby) hr, hrun, hended, ⟨_, rfl, rfl⟩, by rw [List.append_nil]; exact hH, hF, ⟨_, rfl⟩, hWm, hsame⟩
          · rename_i hr0
            cases hv0
            obtain ⟨fs, hr, hrun, hended, hWm, hsame⟩ := X.leave (v := some (.int (x &&& 1))) (fun q => by rw [hret, hr0] at q; cases q) hlk
            exact ⟨_, _, locs, [], retN X hx (t := .boolean) (by rw [hret, hr0]) (by simp) (dec hby) hr, hrun, hended, ⟨_, rfl, rfl⟩, by rw [List.append_nil]; exact hH, hF, ⟨_, rfl⟩, hWm, hsame⟩
          · cases hv0
        · cases h
      · cases h
    · -- lreturn
      split at h
      · rename_i x
        split at h
        · rename_i hr0
          cases h
          obtain rfl : len = 1 := by simpa [lenOk] using hlenOk
          intro p e R s m args below meth c T locs cells slots X cx k1 k2 ρ A Sc hL hLl hS hH hF
          obtain ⟨hx, hZ, hby, hml, hown, hnm, hret, hlk, -, -⟩ := cx
          obtain ⟨Sa, rfl, ha⟩ := hS.long
          obtain rfl : Sa = [] := ha
          obtain ⟨fs, hr, hrun, hended, hWm, hsame⟩ := X.leave (v := some (.long x)) (fun q => by rw [hret, hr0] at q; cases q) hlk
          exact ⟨_, _, locs, [], X.lreturnOut hx (by rw [hret, hr0]) (dec hby) hr, hrun, hended, ⟨_, rfl, rfl⟩, by rw [List.append_nil]; exact hH, hF, ⟨_, rfl⟩, hWm, hsame⟩
        · cases h
      · cases h
    · -- return
      split at h
      · split at h
        · rename_i hr0
          cases h
          obtain rfl : len = 1 := by simpa [lenOk] using hlenOk
          intro p e R s m args below meth c T locs cells slots X cx k1 k2 ρ A Sc hL hLl hS hH hF
          obtain ⟨hx, hZ, hby, hml, hown, hnm, hret, hlk, -, -⟩ := cx
          obtain rfl : Sc = [] := hS
          obtain ⟨fs, hr, hrun, hended, hWm, hsame⟩ := X.leave (v := none) (fun _ => rfl) hlk
          exact ⟨_, _, locs, [], X.returnOut hx (by rw [hret, hr0]) (dec hby) hr, hrun, hended, rfl, by rw [List.append_nil]; exact hH, hF, ⟨_, rfl⟩, hWm, hsame⟩
        · cases h
      · cases h
    · -- a call, or a plain step
      split at h
      · rename_i hinv
        split at h
        · -- Object.<init>
          rename_i hb1
          subst hb1
          have hk : ∃ k x S1, i = .invokespecial k ∧ S = .ref x :: S1 ∧ (if 1 ≤ d.rf ∧ catSum S1 + 12 ≤ d.rw then exe P n mi (pc + 3) (forget er L) S1 H else none) = some (v, H', kc, ks) := by
            split at h
            · exact ⟨_, _, _, rfl, rfl, h⟩
            · cases h
          clear h
          obtain ⟨k, x, S1, rfl, rfl, h⟩ := hk
          · split at h
            · rename_i hroom
              have m3 := ih mi (pc + 3) _ S1 H v H' kc ks h d hmi
              obtain rfl : len = 3 := by simpa [lenOk] using hlenOk
              have hWi : ∀ w ∈ iWords P d (pc, .invokespecial k, 3, er, a, -1), w.before a0 Z = true := fun w q => hW w (in_wordsOf hdm hit q)
              have hWi' : ∀ w ∈ [Jvm.Cond.methodLink d.name.cls k Lib.objectInit, .instanceMethod Lib.objectInit, .code Lib.objectInit ⟨#[0xb1]⟩ 1 none], w.before a0 Z = true := hWi
              intro p e R s m args below meth c T locs cells slots X cx k1 k2 ρ A Sc hL hLl hS hH hF
              have cx0 := cx
              obtain ⟨hx, hZ, hby, hml, hown, hnm, hret, hlk, hrf, hrw⟩ := cx
              obtain ⟨ad, Sa, -, rfl, ha⟩ := hS.ref
              obtain ⟨T2, X2, e2, st2⟩ := initO X hx hZ hown (hWi' _ (by simp)) (hWi' _ (by simp)) (hWi' _ (by simp)) rfl (g := mkF m pc A (.ref ad :: Sa)) rfl (by rw [hml]; exact hL.1.trans hLl) rfl (dec hby) (by omega) (W := catSum S1) (by show 2 * 0 + _ ≤ _; rw [ha.cat]; omega) (by omega)
              have := m3 p e R s m args below meth c T2 locs cells slots X2 cx0 k1 k2 ρ A Sa (hL.forget er) (by rw [forget_len]; exact hLl) ha (by rw [e2]; exact hH) hF
              exact Done.step (t := []) (by rw [List.append_nil]; exact this) st2
            · cases h
        · rename_i hb1
          split at h
          · cases h
          rename_i y hy
          split at h
          · cases h
          rename_i as rest hao
          split at h
          · rename_i hcond
            simp only [Bool.and_eq_true, decide_eq_true_eq] at hcond
            obtain ⟨⟨⟨⟨hj, hik⟩, hrecv⟩, hroom⟩, hent⟩ := hcond
            split at h
            · rename_i v1 H1 c1 s1 hcal
              obtain ⟨c0, s0, hcon, rfl, rfl⟩ := res_ext (α := Unit) h
              have m3 := ih mi (pc + 3) _ _ H1 v H' c0 s0 hcon d hmi
              intro p e R s m args below meth c T locs cells slots X cx k1 k2 ρ A Sc hL hLl hS hH hF
              have cx0 := cx
              obtain ⟨hx, hZ, hby, hml, hown, hnm, hret, hlk, hrf, hrw⟩ := cx
              have hym : y ∈ P.mth := List.mem_of_getElem? hy
              have hyc := mChk_of hP hym
              simp only [mChk, Bool.and_eq_true, decide_eq_true_eq] at hyc
              obtain ⟨⟨⟨⟨⟨⟨yc1, yc2⟩, yc3⟩, yc4⟩, yc5⟩, yc6⟩, yc7⟩ := hyc
              simp only [fitsRoom, Bool.and_eq_true, decide_eq_true_eq] at hroom
              obtain ⟨hn, has, hrest⟩ := argsOf_spec hao
              have hnc : nargs y ≤ Sc.length := by rw [hS.len]; exact hn
              have hSa : SR ρ as (Sc.take (nargs y)).reverse := by rw [has]; exact (hS.take _).rev
              have hSr : SR ρ rest (Sc.drop (nargs y)) := by rw [hrest]; exact hS.drop _
              have hsplit : Sc = (Sc.take (nargs y)).reverse.reverse ++ Sc.drop (nargs y) := by rw [List.reverse_reverse, List.take_append_drop]
              obtain ⟨ws, hws⟩ : ∃ ws, ws = (Sc.take (nargs y)).reverse := ⟨_, rfl⟩
              obtain ⟨rc, hrc⟩ : ∃ rc, rc = Sc.drop (nargs y) := ⟨_, rfl⟩
              have hwl : ws.length = nargs y := by rw [hws]; simp; omega
              rw [← hws] at hSa hsplit
              rw [← hrc] at hSr hsplit
              have wcode := hW (.code y.name y.bytes y.maxL y.ret) (in_wordsM hy hj (List.mem_cons_self ..))
              have winit := hW (.initialized y.name.cls) (in_wordsM hy hj (List.mem_cons_of_mem _ (List.mem_cons_self ..)))
              have wmore : ∀ w ∈ (if y.kind = 0 then [Jvm.Cond.static y.name] else if y.kind = 1 then [.instanceMethod y.name] else if y.kind = 2 then [.instanceMethod y.name, .privateMethod y.name] else [.declares y.name, .selects y.name.cls y.name y.name, .instanceMethod y.name]), w.before a0 Z = true := fun w q => hW w (in_wordsM hy hj (List.mem_cons_of_mem _ (List.mem_cons_of_mem _ q)))
              have hMH : y.name.cls ≠ "java/lang/invoke/MethodHandle" ∧ y.name.cls ≠ "java/lang/invoke/VarHandle" := ⟨yc5, yc6⟩
              have back := backOf (W := catSum rest) (len := 3) (R := R) (p := p) (e := e) (below := below) (s := s) (args := args) (met_of ih hy yc1 hcal hSa hent hH [] ({ frames := y.rf, cells := c1, slots := s1, locals := y.rw } : Room) (Nat.le_refl _) (Nat.le_refl _) (Nat.le_refl _) (Nat.le_refl _)) hZ wcode winit (by show y.rf + 1 ≤ _; omega) (by show _ + y.rw ≤ _; omega)
              have hWW : 2 * (mkF m pc A Sc).monitorRoom + (rc.map fun v => v.category).sum ≤ catSum rest := by show 2 * 0 + _ ≤ _; rw [hSr.cat]; omega
              have hpar : ∀ sig, parseMethodDescriptor y.name.desc = some sig → sig.parameters.length = y.npar := fun sig q => by
                unfold sigChk at yc2
                rw [q] at yc2
                simpa using yc2
              have fin : ∀ (v1' : Option Value) (T2 : State) (Lc : List Loc), Stand p l e R s m args below meth c T2 (locs ++ Lc) (cells + c1) (slots + s1) → QQ P Z n0 ρ v1 H1 v1' T2.heap Lc →
                  (∀ target, Steps p.tables e below (T2.setTop (mkF m (pc + 3) A (v1'.toList ++ rc))) target → Steps p.tables e below (T.setTop (mkF m pc A Sc)) target) →
                  Done P Z n0 p e below s ρ v H' (cells + (c0 + c1)) (slots + (s0 + s1)) (T.setTop (mkF m pc A Sc)) := by
                intro v1' T2 Lc X2 hq st2
                obtain ⟨hF2, t, hov, hH2⟩ := hq
                have := m3 p e R s m args below meth c T2 (locs ++ Lc) _ _ X2 cx0 (by omega) (by omega) (ρ ++ t) A (v1'.toList ++ rc) (hL.forget er).mono (by rw [forget_len]; exact hLl) (hov.list.app hSr.mono) hH2 (hF.app hF2)
                have q1 : cells + c1 + c0 = cells + (c0 + c1) := by omega
                have q2 : slots + s1 + s0 = slots + (s0 + s1) := by omega
                rw [q1, q2] at this
                exact this.step st2
              have hcR : cells + c1 ≤ R.cells := by omega
              have hsR : slots + s1 ≤ R.slots := by omega
              cases i with
              | invokestatic k =>
                obtain rfl : len = 3 := by simpa [lenOk] using hlenOk
                have hk0 : y.kind = 0 := by simpa [invKind] using hik
                have wl := hW (.methodLink d.name.cls k y.name) (in_wordsOf hdm hit (by show _ ∈ mLink P d k a b; unfold mLink; rw [if_neg hb1, hy]; exact List.mem_singleton.mpr rfl))
                have wst := wmore (.static y.name) (by rw [if_pos hk0]; exact List.mem_singleton.mpr rfl)
                have hna : nargs y = y.npar := by simp [nargs, hk0]
                obtain ⟨v1', _, ⟨T2, L2, k2', n2⟩, -, X2, ⟨Lc, hQ, l2, y2, z2⟩, st2⟩ := Jvm.LawKit.callS X hx (y := y.name) hown (mvT hZ wl) (mvT hZ wst) (mvT hZ winit) (mvT hZ wcode) hMH back (g := mkF m pc A Sc) rfl (by rw [hml]; exact hL.1.trans hLl) (argsL := ws) (rest := rc) (fun sig q => by rw [hpar sig q, hwl, hna]) hsplit hWW (dec hby) (fun _ _ => ⟨rfl, rfl, hcR, hsR⟩)
                dsimp only [Pt.U, Pt.locs, Pt.cells, Pt.slots] at X2 l2 y2 z2 st2 hQ
                subst l2 y2 z2
                exact fin v1' T2 Lc X2 hQ st2
              | invokespecial k =>
                obtain rfl : len = 3 := by simpa [lenOk] using hlenOk
                have hk1 : y.kind = 1 := by simpa [invKind] using hik
                have wl := hW (.methodLink d.name.cls k y.name) (in_wordsOf hdm hit (by show _ ∈ mLink P d k a b; unfold mLink; rw [if_neg hb1, hy]; exact List.mem_singleton.mpr rfl))
                have wst := wmore (.instanceMethod y.name) (by rw [if_neg (by omega), if_pos hk1]; exact List.mem_singleton.mpr rfl)
                have hna : nargs y = y.npar + 1 := by simp [nargs, hk1]
                simp [hk1] at yc7
                have wcode' : (Jvm.Cond.code y.name y.bytes y.maxL none).before a0 Z = true := by rw [← yc7.2]; exact wcode
                unfold recvOk at hrecv
                rw [if_neg (by omega)] at hrecv
                split at hrecv
                · rename_i o as'
                  obtain ⟨ad, ws', g1, rfl, ha'⟩ := hSa.ref
                  have hst : Sc = ws'.reverse ++ .ref ad :: rc := by rw [hsplit]; simp
                  obtain ⟨v1', _, ⟨T2, L2, k2', n2⟩, -, X2, ⟨Lc, hQ, l2, y2, z2⟩, st2⟩ := X.specialBack hx (y := y.name) yc7.1 hown (mvT hZ wl) (mvT hZ wst) (mvT hZ wcode') hMH back (g := mkF m pc A Sc) rfl (by rw [hml]; exact hL.1.trans hLl) (Steps.refl _) (a := ad) (argsL := ws') (rest := rc) (fun sig q => by rw [hpar sig q]; simp [hna] at hwl; omega) hst hWW (dec hby) (fun _ _ => ⟨rfl, rfl, hcR, hsR⟩)
                  dsimp only [Pt.U, Pt.locs, Pt.cells, Pt.slots] at X2 l2 y2 z2 st2 hQ
                  subst l2 y2 z2
                  exact fin v1' T2 Lc X2 hQ fun t z => st2.trans z
                · cases hrecv
              | invokevirtual k =>
                obtain rfl : len = 3 := by simpa [lenOk] using hlenOk
                have wl := hW (.methodLink d.name.cls k y.name) (in_wordsOf hdm hit (by show _ ∈ mLink P d k a b; unfold mLink; rw [if_neg hb1, hy]; exact List.mem_singleton.mpr rfl))
                have hk23 : y.kind = 2 ∨ y.kind = 3 := by simpa [invKind] using hik
                have hk0 : ¬ y.kind = 0 := by omega
                have hk1 : ¬ y.kind = 1 := by omega
                have hna : nargs y = y.npar + 1 := by simp [nargs, hk0]
                unfold recvOk at hrecv
                rw [if_neg hk0] at hrecv
                split at hrecv
                · rename_i o as'
                  obtain ⟨ad, ws', g1, rfl, ha'⟩ := hSa.ref
                  have hst : Sc = ws'.reverse ++ .ref ad :: rc := by rw [hsplit]; simp
                  split at hrecv
                  · rename_i c0 fs hc0
                    obtain rfl : c0 = y.cid := by simpa using hrecv
                    obtain ⟨ad', g2, cd, q1, q2, q3, q4⟩ := hH.at hc0
                    rw [g1] at g2; cases g2
                    have hcd := cid_of hP hym q1
                    have hcm : cd ∈ P.cls := List.mem_of_getElem? q1
                    rw [hcd] at q2
                    by_cases hk2 : y.kind = 2
                    · have w1 := wmore (.instanceMethod y.name) (by rw [if_neg hk0, if_neg hk1, if_pos hk2]; simp)
                      have w2 := wmore (.privateMethod y.name) (by rw [if_neg hk0, if_neg hk1, if_pos hk2]; simp)
                      have w3 := hW (.instantiable cd.1 cd.2.1) (in_wordsC hcm (List.mem_cons_self ..))
                      rw [hcd] at w3
                      obtain ⟨cI, kI, i1, i2, i3, i4, -⟩ := Cond.instantiable_spec (mvT hZ w3 (args := args) : (Jvm.Cond.instantiable y.name.cls cd.2.1).before args s = true)
                      have hsel := selects_self_of_private (args := args) i1 i2 (by simp at i4; exact i4.1) (Cond.privateMethod_at (mvP hZ w2 (args := #[]))) (mvT hZ w1) hMH
                      obtain ⟨cq, hq1, hq2⟩ := q2.cell
                      obtain ⟨v1', _, ⟨T2, L2, k2', n2⟩, -, X2, ⟨Lc, hQ, l2, y2, z2⟩, st2⟩ := X.privateBack hx (y := y.name) hown (mvT hZ wl) (mvT hZ w1) hsel (Cond.privateMethod_at (mvP hZ w2 (args := #[]))) (mvT hZ wcode) hMH back (g := mkF m pc A Sc) rfl (by rw [hml]; exact hL.1.trans hLl) (Steps.refl _) (a := ad) hq1 hq2 (argsL := ws') (rest := rc) (fun sig q => by rw [hpar sig q]; simp [hna] at hwl; omega) hst hWW (dec hby) (fun _ _ => ⟨rfl, rfl, hcR, hsR⟩)
                      dsimp only [Pt.U, Pt.locs, Pt.cells, Pt.slots] at X2 l2 y2 z2 st2 hQ
                      subst l2 y2 z2
                      exact fin v1' T2 Lc X2 hQ fun t z => st2.trans z
                    · have w1 := wmore (.declares y.name) (by rw [if_neg hk0, if_neg hk1, if_neg hk2]; simp)
                      have w2 := wmore (.selects y.name.cls y.name y.name) (by rw [if_neg hk0, if_neg hk1, if_neg hk2]; simp)
                      have w3 := wmore (.instanceMethod y.name) (by rw [if_neg hk0, if_neg hk1, if_neg hk2]; simp)
                      obtain ⟨cq, kq, qa, qb, qc⟩ := isOf hZ rfl q2
                      obtain ⟨v1', _, ⟨T2, L2, k2', n2⟩, -, X2, ⟨Lc, hQ, l2, y2, z2⟩, st2⟩ := X.virtualBack hx (y := y.name) (z := y.name) hown (mvT hZ wl) (mvT hZ w1) (notFace_of_selects (args := #[]) (mvT hZ w2)) (mvT hZ w2) (mvT hZ w3) hMH back qa qc (g := mkF m pc A Sc) rfl (by rw [hml]; exact hL.1.trans hLl) (Steps.refl _) (argsL := ws') (rest := rc) (fun sig q => by rw [hpar sig q]; simp [hna] at hwl; omega) hst hWW (dec hby) (fun _ _ => ⟨rfl, rfl, hcR, hsR⟩)
                      dsimp only [Pt.U, Pt.locs, Pt.cells, Pt.slots] at X2 l2 y2 z2 st2 hQ
                      subst l2 y2 z2
                      exact fin v1' T2 Lc X2 hQ fun t z => st2.trans z
                  · cases hrecv
                · cases hrecv
              | _ => simp [isInv] at hinv
            · cases h
          · cases h
      · split at h
        · split at h
          · rename_i S1 H1 k1' hxN
            obtain ⟨c0, s0, hcon, rfl, rfl⟩ := res_ext (α := Unit) h
            have m3 := ih mi (pc + len) _ S1 H1 v H' c0 s0 hcon d hmi
            intro p e R s m args below meth c T locs cells slots X cx k1 k2 ρ A Sc hL hLl hS hH hF
            have cx0 := cx
            obtain ⟨hx, hZ, hby, hml, hown, hnm, hret, hlk, hrf, hrw⟩ := cx
            obtain ⟨T2, ad, Sc2, X2, hS2, hH2, st2⟩ := stepN (A := A) X hx hZ hown hP hW hdm hit (dec hby) hlenOk hS hH hxN (by omega) (by omega)
            have := m3 p e R s m args below meth c T2 locs _ _ X2 cx0 (by omega) (by omega) (ρ ++ [ad]) A Sc2 (hL.forget er).mono (by rw [forget_len]; exact hLl) hS2 hH2 hF
            have q1 : cells + 1 + c0 = cells + (c0 + 1) := by omega
            have q2 : slots + k1' + s0 = slots + (s0 + k1') := by omega
            rw [q1, q2] at this
            exact this.step st2
          · cases h
        · split at h
          · rename_i L1 S1 H1 hxI
            have m3 := ih mi (pc + len) L1 S1 H1 v H' kc ks h d hmi
            intro p e R s m args below meth c T locs cells slots X cx k1 k2 ρ A Sc hL hLl hS hH hF
            have cx0 := cx
            obtain ⟨hx, hZ, hby, hml, hown, hnm, hret, hlk, hrf, hrw⟩ := cx
            obtain ⟨T2, locs2, A2, Sc2, X2, x3, hL2, hS2, hH2, hF2, st2⟩ := stepX X hx hZ hown hnm hP hW hdm hit (dec hby) hlenOk (hL.forget er) hS hH hF hxI
            have := m3 p e R s m args below meth c T2 locs2 cells slots X2 cx0 k1 k2 ρ A2 Sc2 hL2 (by rw [x3, forget_len]; exact hLl) hS2 hH2 hF2
            exact Done.step (t := []) (by rw [List.append_nil]; exact this) st2
          · cases h
end Sound
end Jvm.Own
namespace Jvm.Own
open Jvm Jvm.ClassFile Sem Op Lib Jvm.Free Jvm.Stand Jvm.LawKit Jvm.RoadKit Bundle
/-! Runs of the plain machine, rule by rule -/
def OEnds (P : PD) (mi pc : Nat) (L : List Slot) (S : List Value) (H : AHeap) (r : Res) : Prop := ∃ n0, ∀ n, n0 ≤ n → exe P n mi pc L S H = some r
def plainI : Instr → Bool
  | .goto _ => false
  | .if_icmp _ _ => false
  | .ifCond _ _ => false
  | .ifnonnull _ => false
  | .ireturn => false
  | .lreturn => false
  | .return_ => false
  | .invokestatic _ => false
  | .invokespecial _ => false
  | .invokevirtual _ => false
  | .new _ => false
  | .newarray _ => false
  | _ => true
section Rules
variable {P : PD} {mi pc len a q : Nat} {er : List Bool} {b : Int} {i : Instr} {d y : MD} {L L' : List Slot} {S S' as rest : List Value} {H H' H1 : AHeap} {r : Res} {kc ks : Nat} {v : Option Value}
theorem OEnds.up (h : ∀ n, exe P n mi q L' S' H' = some r → exe P (n + 1) mi pc L S H = some r) (E : OEnds P mi q L' S' H' r) : OEnds P mi pc L S H r := by
  obtain ⟨n0, E⟩ := E
  refine ⟨n0 + 1, fun n hn => ?_⟩
  obtain ⟨k, rfl⟩ : ∃ k, n = k + 1 := ⟨n - 1, by omega⟩
  exact h k (E k (by omega))
theorem OEnds.plain (hm : P.mth[mi]? = some d) (hf : fetch d.code pc = some (i, len, er, a, b)) (hp : plainI i = true) (hx : xI P (d.name.name == "<init>") d.cid i a b (forget er L) S H = some (L', S', H')) (E : OEnds P mi (pc + len) L' S' H' r) : OEnds P mi pc L S H r := by
  refine E.up fun n h => ?_
  unfold exe
  rw [hm]
  simp only
  rw [hf]
  simp only
  split
  all_goals first | (simp [plainI] at hp; done) | skip
  have h1 : ¬ isInv i = true := by
    cases i <;> first | (simp [plainI] at hp; done) | simp [isInv]
  have h2 : ¬ isNew i = true := by
    cases i <;> first | (simp [plainI] at hp; done) | simp [isNew]
  rw [if_neg h1, if_neg h2, hx]
  exact h
theorem OEnds.goto {o : Int} (hm : P.mth[mi]? = some d) (hf : fetch d.code pc = some (.goto o, len, er, a, b)) (ht : tgt pc o = some q) (E : OEnds P mi q (forget er L) S H r) : OEnds P mi pc L S H r := by
  refine E.up fun n h => ?_
  unfold exe
  rw [hm]
  simp only
  rw [hf]
  simp only
  rw [ht]
  exact h
theorem OEnds.icmpT {o : Int} {cd : ClassFile.Cond} {x z : Int32} (hm : P.mth[mi]? = some d) (hf : fetch d.code pc = some (.if_icmp cd o, len, er, a, b)) (ht : tgt pc o = some q) (hc : if_icmp.holds cd x z = true) (E : OEnds P mi q (forget er L) S H r) : OEnds P mi pc L (.int z :: .int x :: S) H r := by
  refine E.up fun n h => ?_
  unfold exe
  rw [hm]
  simp only
  rw [hf]
  simp only
  rw [if_pos hc, ht]
  exact h
theorem OEnds.icmpF {o : Int} {cd : ClassFile.Cond} {x z : Int32} (hm : P.mth[mi]? = some d) (hf : fetch d.code pc = some (.if_icmp cd o, len, er, a, b)) (hc : if_icmp.holds cd x z = false) (E : OEnds P mi (pc + 3) (forget er L) S H r) : OEnds P mi pc L (.int z :: .int x :: S) H r := by
  refine E.up fun n h => ?_
  unfold exe
  rw [hm]
  simp only
  rw [hf]
  simp only
  rw [if_neg (by rw [hc]; exact Bool.false_ne_true)]
  exact h
theorem OEnds.ifT {o : Int} {cd : ClassFile.Cond} {x : Int32} (hm : P.mth[mi]? = some d) (hf : fetch d.code pc = some (.ifCond cd o, len, er, a, b)) (ht : tgt pc o = some q) (hc : if_icmp.holds cd x 0 = true) (E : OEnds P mi q (forget er L) S H r) : OEnds P mi pc L (.int x :: S) H r := by
  refine E.up fun n h => ?_
  unfold exe
  rw [hm]
  simp only
  rw [hf]
  simp only
  rw [if_pos ((if0 cd x).trans hc), ht]
  exact h
theorem OEnds.ifF {o : Int} {cd : ClassFile.Cond} {x : Int32} (hm : P.mth[mi]? = some d) (hf : fetch d.code pc = some (.ifCond cd o, len, er, a, b)) (hc : if_icmp.holds cd x 0 = false) (E : OEnds P mi (pc + 3) (forget er L) S H r) : OEnds P mi pc L (.int x :: S) H r := by
  refine E.up fun n h => ?_
  unfold exe
  rw [hm]
  simp only
  rw [hf]
  simp only
  rw [if_neg (by rw [if0 cd x, hc]; exact Bool.false_ne_true)]
  exact h
theorem OEnds.nonnull {o : Int} {x : Nat} (hm : P.mth[mi]? = some d) (hf : fetch d.code pc = some (.ifnonnull o, len, er, a, b)) (ht : tgt pc o = some q) (E : OEnds P mi q (forget er L) S H r) : OEnds P mi pc L (.ref x :: S) H r := by
  refine E.up fun n h => ?_
  unfold exe
  rw [hm]
  simp only
  rw [hf]
  simp only
  rw [ht]
  exact h
theorem OEnds.iret {x : Int32} {u : Value} (hm : P.mth[mi]? = some d) (hf : fetch d.code pc = some (.ireturn, len, er, a, b)) (hv : retV d.ret x = some u) : OEnds P mi pc L [.int x] H (some u, H, 0, 0) := by
  refine ⟨1, fun n hn => ?_⟩
  obtain ⟨k, rfl⟩ : ∃ k, n = k + 1 := ⟨n - 1, by omega⟩
  unfold exe
  rw [hm]
  simp only
  rw [hf]
  simp only
  rw [hv]
theorem OEnds.lret {x : Int64} (hm : P.mth[mi]? = some d) (hf : fetch d.code pc = some (.lreturn, len, er, a, b)) (hv : d.ret = some .long) : OEnds P mi pc L [.long x] H (some (.long x), H, 0, 0) := by
  refine ⟨1, fun n hn => ?_⟩
  obtain ⟨k, rfl⟩ : ∃ k, n = k + 1 := ⟨n - 1, by omega⟩
  unfold exe
  rw [hm]
  simp only
  rw [hf]
  simp only
  rw [if_pos hv]
theorem OEnds.vret (hm : P.mth[mi]? = some d) (hf : fetch d.code pc = some (.return_, len, er, a, b)) (hv : d.ret = none) : OEnds P mi pc L [] H (none, H, 0, 0) := by
  refine ⟨1, fun n hn => ?_⟩
  obtain ⟨k, rfl⟩ : ∃ k, n = k + 1 := ⟨n - 1, by omega⟩
  unfold exe
  rw [hm]
  simp only
  rw [hf]
  simp only
  rw [if_pos hv]
theorem OEnds.oinit {k x : Nat} (hm : P.mth[mi]? = some d) (hf : fetch d.code pc = some (.invokespecial k, len, er, a, -1)) (hr : 1 ≤ d.rf ∧ catSum S + 12 ≤ d.rw) (E : OEnds P mi (pc + 3) (forget er L) S H r) : OEnds P mi pc L (.ref x :: S) H r := by
  refine E.up fun n h => ?_
  unfold exe
  rw [hm]
  simp only
  rw [hf]
  simp only [isInv, if_true]
  rw [if_pos hr]
  exact h
theorem OEnds.call (hm : P.mth[mi]? = some d) (hf : fetch d.code pc = some (i, len, er, a, b)) (hi : isInv i = true) (hb : ¬ b = -1) (hy : P.mth[a]? = some y) (hao : argsOf (nargs y) S = some (as, rest))
    (hc : (decide (0 < a) && invKind i y.kind && recvOk P H y as && fitsRoom d y rest && decide ((entA as).length ≤ y.maxL)) = true) (E1 : OEnds P a 0 (entL as y.maxL) [] H (v, H1, kc, ks)) (E2 : OEnds P mi (pc + 3) (forget er L) (v.toList ++ rest) H1 r) : OEnds P mi pc L S H (addR r kc ks) := by
  obtain ⟨n1, E1⟩ := E1
  obtain ⟨n2, E2⟩ := E2
  refine ⟨n1 + n2 + 1, fun n hn => ?_⟩
  obtain ⟨k, rfl⟩ : ∃ k, n = k + 1 := ⟨n - 1, by omega⟩
  have e1 := E1 k (by omega)
  have e2 := E2 k (by omega)
  unfold exe
  rw [hm]
  simp only
  rw [hf]
  simp only
  split
  all_goals first | (simp [isInv] at hi; done) | skip
  rw [if_pos hi, if_neg hb, hy]
  simp only
  rw [hao]
  simp only
  rw [if_pos hc, e1]
  simp only
  rw [e2]
  rfl
theorem OEnds.call0 (hm : P.mth[mi]? = some d) (hf : fetch d.code pc = some (i, len, er, a, b)) (hi : isInv i = true) (hb : ¬ b = -1) (hy : P.mth[a]? = some y) (hao : argsOf (nargs y) S = some (as, rest))
    (hc : (decide (0 < a) && invKind i y.kind && recvOk P H y as && fitsRoom d y rest && decide ((entA as).length ≤ y.maxL)) = true) (E1 : OEnds P a 0 (entL as y.maxL) [] H (v, H1, 0, 0)) (E2 : OEnds P mi (pc + 3) (forget er L) (v.toList ++ rest) H1 r) : OEnds P mi pc L S H r :=
  OEnds.call (r := r) hm hf hi hb hy hao hc E1 E2
theorem OEnds.made (hm : P.mth[mi]? = some d) (hf : fetch d.code pc = some (i, len, er, a, b)) (hi : isNew i = true) (hx : xN P i a S H = some (S', H', ks)) (E : OEnds P mi (pc + len) (forget er L) S' H' r) : OEnds P mi pc L S H (addR r 1 ks) := by
  obtain ⟨n0, E⟩ := E
  refine ⟨n0 + 1, fun n hn => ?_⟩
  obtain ⟨k, rfl⟩ : ∃ k, n = k + 1 := ⟨n - 1, by omega⟩
  have e1 := E k (by omega)
  unfold exe
  rw [hm]
  simp only
  rw [hf]
  simp only
  split
  all_goals first | (simp [isNew] at hi; done) | skip
  have h1 : ¬ isInv i = true := by
    cases i <;> first | (simp [isNew] at hi; done) | simp [isInv]
  rw [if_neg h1, if_pos hi, hx]
  simp only
  rw [e1]
  rfl
end Rules
/-- k plain instructions and jumps in one go -/
def adv (P : PD) (d : MD) : Nat → Nat → List Slot → List Value → AHeap → Option (Nat × List Slot × List Value × AHeap)
  | 0, pc, L, S, H => some (pc, L, S, H)
  | k + 1, pc, L, S, H => match fetch d.code pc with
    | some (i, len, er, a, b) => match i with
      | .goto o => match tgt pc o with
        | some q => adv P d k q (forget er L) S H
        | none => none
      | i => if plainI i = true then match xI P (d.name.name == "<init>") d.cid i a b (forget er L) S H with
          | some (L', S', H') => adv P d k (pc + len) L' S' H'
          | none => none
        else none
    | none => none
theorem OEnds.adv {P : PD} {mi : Nat} {d : MD} (hm : P.mth[mi]? = some d) {r : Res} : ∀ (k : Nat) {pc pc' : Nat} {L L' : List Slot} {S S' : List Value} {H H' : AHeap}, adv P d k pc L S H = some (pc', L', S', H') → OEnds P mi pc' L' S' H' r → OEnds P mi pc L S H r
  | 0, _, _, _, _, _, _, _, _, h, E => by
    unfold Own.adv at h
    cases h
    exact E
  | k + 1, pc, pc', L, L', S, S', H, H', h, E => by
    unfold Own.adv at h
    split at h
    · rename_i it i len er a b hf
      split at h
      · rename_i o
        split at h
        · rename_i q hq
          exact OEnds.goto hm hf hq (OEnds.adv hm k h E)
        · cases h
      · split at h
        · rename_i hp
          split at h
          · rename_i L1 S1 H1 hx
            exact OEnds.plain hm hf hp hx (OEnds.adv hm k h E)
          · cases h
        · cases h
    · cases h
theorem x_iaload {P : PD} {ini : Bool} {cid a o : Nat} {b : Int} {L : List Slot} {S : List Value} {H : AHeap} {A : List Int32} {j x : Int32} (h : H[o]? = some (.inr (.inl (false, A)))) (hx : rdA A j = some x) : xI P ini cid .iaload a b L (.int j :: .ref o :: S) H = some (L, .int x :: S, H) := by simp [xI, h, hx]
theorem x_baload {P : PD} {ini : Bool} {cid a o : Nat} {b : Int} {L : List Slot} {S : List Value} {H : AHeap} {A : List Int32} {j x : Int32} (h : H[o]? = some (.inr (.inl (true, A)))) (hx : rdA A j = some x) : xI P ini cid .baload a b L (.int j :: .ref o :: S) H = some (L, .int x :: S, H) := by simp [xI, h, hx]
theorem x_laload {P : PD} {ini : Bool} {cid a o : Nat} {b : Int} {L : List Slot} {S : List Value} {H : AHeap} {A : List Int64} {j : Int32} {x : Int64} (h : H[o]? = some (.inr (.inr A))) (hx : rdA A j = some x) : xI P ini cid .laload a b L (.int j :: .ref o :: S) H = some (L, .long x :: S, H) := by simp [xI, h, hx]
theorem x_iastore {P : PD} {ini : Bool} {cid a o : Nat} {b : Int} {L : List Slot} {S : List Value} {H : AHeap} {A A' : List Int32} {j x : Int32} (h : H[o]? = some (.inr (.inl (false, A)))) (hn : P.nr ≤ o) (hx : wrA A j x = some A') : xI P ini cid .iastore a b L (.int x :: .int j :: .ref o :: S) H = some (L, S, H.set o (.inr (.inl (false, A')))) := by simp [xI, h, hx, hn]
theorem x_bastore {P : PD} {ini : Bool} {cid a o : Nat} {b : Int} {L : List Slot} {S : List Value} {H : AHeap} {A A' : List Int32} {j x : Int32} (h : H[o]? = some (.inr (.inl (true, A)))) (hn : P.nr ≤ o) (hx : wrA A j (x &&& 1) = some A') : xI P ini cid .bastore a b L (.int x :: .int j :: .ref o :: S) H = some (L, S, H.set o (.inr (.inl (true, A')))) := by simp [xI, h, hx, hn]
theorem x_lastore {P : PD} {ini : Bool} {cid a o : Nat} {b : Int} {L : List Slot} {S : List Value} {H : AHeap} {A A' : List Int64} {j : Int32} {x : Int64} (h : H[o]? = some (.inr (.inr A))) (hn : P.nr ≤ o) (hx : wrA A j x = some A') : xI P ini cid .lastore a b L (.long x :: .int j :: .ref o :: S) H = some (L, S, H.set o (.inr (.inr A'))) := by simp [xI, h, hx, hn]
theorem x_irem {P : PD} {ini : Bool} {cid a : Nat} {b : Int} {L : List Slot} {S : List Value} {H : AHeap} {x y : Int32} (h : ¬ y = 0) : xI P ini cid .irem a b L (.int y :: .int x :: S) H = some (L, .int (x % y) :: S, H) := by simp [xI, h]
theorem x_idiv {P : PD} {ini : Bool} {cid a : Nat} {b : Int} {L : List Slot} {S : List Value} {H : AHeap} {x y : Int32} (h : ¬ y = 0) : xI P ini cid .idiv a b L (.int y :: .int x :: S) H = some (L, .int (x / y) :: S, H) := by simp [xI, h]
theorem x_lrem {P : PD} {ini : Bool} {cid a : Nat} {b : Int} {L : List Slot} {S : List Value} {H : AHeap} {x y : Int64} (h : ¬ y = 0) : xI P ini cid .lrem a b L (.long y :: .long x :: S) H = some (L, .long (x % y) :: S, H) := by simp [xI, h]
theorem x_ldiv {P : PD} {ini : Bool} {cid a : Nat} {b : Int} {L : List Slot} {S : List Value} {H : AHeap} {x y : Int64} (h : ¬ y = 0) : xI P ini cid .ldiv a b L (.long y :: .long x :: S) H = some (L, .long (x / y) :: S, H) := by simp [xI, h]
theorem c_lt {x y : Int64} : XT.cmpL x y < 0 ↔ x < y := by
  unfold XT.cmpL; split <;> (try split) <;> simp_all [Int64.lt_iff_toInt_lt, ← Int64.toInt_inj] <;> omega
theorem c_gt {x y : Int64} : 0 < XT.cmpL x y ↔ y < x := by
  unfold XT.cmpL; split <;> (try split) <;> simp_all [Int64.lt_iff_toInt_lt, ← Int64.toInt_inj] <;> omega
theorem c_eq {x y : Int64} : XT.cmpL x y = 0 ↔ x = y := by
  unfold XT.cmpL; split <;> (try split) <;> simp_all [Int64.lt_iff_toInt_lt, ← Int64.toInt_inj] <;> omega
end Jvm.Own
namespace Jvm.Own
open Jvm Jvm.ClassFile Sem Op Lib Jvm.Free Jvm.Stand Jvm.LawKit Jvm.RoadKit Bundle
theorem bnd {α β : Type} {o : Option α} {f : α → Option β} {b : β} (h : o.bind f = some b) : ∃ a, o = some a ∧ f a = some b := Option.bind_eq_some_iff.mp h
theorem x_putZ {P : PD} {ini : Bool} {k cid a o : Nat} {b : Int} {L : List Slot} {S : List Value} {H : AHeap} {fs : List Value} {nm ds : String} {x : Int32} (h : H[o]? = some (.inl (cid, fs))) (hn : P.nr ≤ o) (hf : ((P.cls[cid]?).bind fun cd => cd.2.2[a]?) = some (nm, ds, .boolean, false)) (hx : x = 0 ∨ x = 1) :
    xI P ini cid (.putfield k) a b L (.int x :: .ref o :: S) H = some (L, S, H.set o (.inl (cid, fs.set a (.int x)))) := by
  rcases hx with rfl | rfl <;> simp [xI, h, hn, hf, putOk]
section Rules
variable {P : PD} {mi pc len a q : Nat} {er : List Bool} {b : Int} {i : Instr} {d y : MD} {L L' : List Slot} {S S' as rest : List Value} {H H' H1 : AHeap} {r : Res} {kc ks : Nat} {v : Option Value}
theorem OEnds.made1 {w : Option Value} {Hf : AHeap} (hm : P.mth[mi]? = some d) (hf : fetch d.code pc = some (i, len, er, a, b)) (hi : isNew i = true) (hx : xN P i a S H = some (S', H', ks)) {c0 s0 c1 s1 : Nat} (hr : (c1, s1) = (c0 + 1, s0 + ks)) (E : OEnds P mi (pc + len) (forget er L) S' H' (w, Hf, c0, s0)) : OEnds P mi pc L S H (w, Hf, c1, s1) := by
  cases hr
  exact OEnds.made (r := (w, Hf, c0, s0)) hm hf hi hx E
/-! The same, of a run whose end is told by a property -/
def OEndsQ (P : PD) (mi pc : Nat) (L : List Slot) (S : List Value) (H : AHeap) (Q : Res → Prop) : Prop := ∃ r, OEnds P mi pc L S H r ∧ Q r
variable {Q : Res → Prop}
theorem OEndsQ.plain (hm : P.mth[mi]? = some d) (hf : fetch d.code pc = some (i, len, er, a, b)) (hp : plainI i = true) (hx : xI P (d.name.name == "<init>") d.cid i a b (forget er L) S H = some (L', S', H')) (E : OEndsQ P mi (pc + len) L' S' H' Q) : OEndsQ P mi pc L S H Q := by
  obtain ⟨r, E, hq⟩ := E; exact ⟨r, OEnds.plain hm hf hp hx E, hq⟩
theorem OEndsQ.icmpT {o : Int} {cd : ClassFile.Cond} {x z : Int32} (hm : P.mth[mi]? = some d) (hf : fetch d.code pc = some (.if_icmp cd o, len, er, a, b)) (ht : tgt pc o = some q) (hc : if_icmp.holds cd x z = true) (E : OEndsQ P mi q (forget er L) S H Q) : OEndsQ P mi pc L (.int z :: .int x :: S) H Q := by
  obtain ⟨r, E, hq⟩ := E; exact ⟨r, OEnds.icmpT hm hf ht hc E, hq⟩
theorem OEndsQ.icmpF {o : Int} {cd : ClassFile.Cond} {x z : Int32} (hm : P.mth[mi]? = some d) (hf : fetch d.code pc = some (.if_icmp cd o, len, er, a, b)) (hc : if_icmp.holds cd x z = false) (E : OEndsQ P mi (pc + 3) (forget er L) S H Q) : OEndsQ P mi pc L (.int z :: .int x :: S) H Q := by
  obtain ⟨r, E, hq⟩ := E; exact ⟨r, OEnds.icmpF hm hf hc E, hq⟩
theorem OEndsQ.ifT {o : Int} {cd : ClassFile.Cond} {x : Int32} (hm : P.mth[mi]? = some d) (hf : fetch d.code pc = some (.ifCond cd o, len, er, a, b)) (ht : tgt pc o = some q) (hc : if_icmp.holds cd x 0 = true) (E : OEndsQ P mi q (forget er L) S H Q) : OEndsQ P mi pc L (.int x :: S) H Q := by
  obtain ⟨r, E, hq⟩ := E; exact ⟨r, OEnds.ifT hm hf ht hc E, hq⟩
theorem OEndsQ.ifF {o : Int} {cd : ClassFile.Cond} {x : Int32} (hm : P.mth[mi]? = some d) (hf : fetch d.code pc = some (.ifCond cd o, len, er, a, b)) (hc : if_icmp.holds cd x 0 = false) (E : OEndsQ P mi (pc + 3) (forget er L) S H Q) : OEndsQ P mi pc L (.int x :: S) H Q := by
  obtain ⟨r, E, hq⟩ := E; exact ⟨r, OEnds.ifF hm hf hc E, hq⟩
theorem OEndsQ.nonnull {o : Int} {x : Nat} (hm : P.mth[mi]? = some d) (hf : fetch d.code pc = some (.ifnonnull o, len, er, a, b)) (ht : tgt pc o = some q) (E : OEndsQ P mi q (forget er L) S H Q) : OEndsQ P mi pc L (.ref x :: S) H Q := by
  obtain ⟨r, E, hq⟩ := E; exact ⟨r, OEnds.nonnull hm hf ht E, hq⟩
theorem OEndsQ.call0 (hm : P.mth[mi]? = some d) (hf : fetch d.code pc = some (i, len, er, a, b)) (hi : isInv i = true) (hb : ¬ b = -1) (hy : P.mth[a]? = some y) (hao : argsOf (nargs y) S = some (as, rest))
    (hc : (decide (0 < a) && invKind i y.kind && recvOk P H y as && fitsRoom d y rest && decide ((entA as).length ≤ y.maxL)) = true) (E1 : OEnds P a 0 (entL as y.maxL) [] H (v, H1, 0, 0)) (E2 : OEndsQ P mi (pc + 3) (forget er L) (v.toList ++ rest) H1 Q) : OEndsQ P mi pc L S H Q := by
  obtain ⟨r, E, hq⟩ := E2; exact ⟨r, OEnds.call0 hm hf hi hb hy hao hc E1 E, hq⟩
theorem OEndsQ.adv (hm : P.mth[mi]? = some d) (k : Nat) {pc' : Nat} (h : adv P d k pc L S H = some (pc', L', S', H')) (E : OEndsQ P mi pc' L' S' H' Q) : OEndsQ P mi pc L S H Q := by
  obtain ⟨r, E, hq⟩ := E; exact ⟨r, OEnds.adv hm k h E, hq⟩
/-- what a law's run ends with: its answer, and at the most so many cells and slots made -/
def LawQ (x : Int32) (kc ks : Nat) (r : Res) : Prop := r.1 = some (.int x) ∧ r.2.2.1 ≤ kc ∧ r.2.2.2 ≤ ks
theorem OEndsQ.iret {x u : Int32} (hm : P.mth[mi]? = some d) (hf : fetch d.code pc = some (.ireturn, len, er, a, b)) (hv : retV d.ret x = some (.int u)) : OEndsQ P mi pc L [.int x] H (LawQ u kc ks) :=
  ⟨_, OEnds.iret hm hf hv, rfl, Nat.zero_le _, Nat.zero_le _⟩
theorem OEndsQ.weak {x : Int32} {c0 s0 : Nat} (h1 : c0 ≤ kc) (h2 : s0 ≤ ks) (E : OEndsQ P mi pc L S H (LawQ x c0 s0)) : OEndsQ P mi pc L S H (LawQ x kc ks) := by
  obtain ⟨r, E, q1, q2, q3⟩ := E; exact ⟨r, E, q1, Nat.le_trans q2 h1, Nat.le_trans q3 h2⟩
theorem OEndsQ.made {x : Int32} {c0 s0 c1 s1 : Nat} (hm : P.mth[mi]? = some d) (hf : fetch d.code pc = some (i, len, er, a, b)) (hi : isNew i = true) (hx : xN P i a S H = some (S', H', ks)) (h1 : c0 + 1 ≤ c1) (h2 : s0 + ks ≤ s1) (E : OEndsQ P mi (pc + len) (forget er L) S' H' (LawQ x c0 s0)) : OEndsQ P mi pc L S H (LawQ x c1 s1) := by
  obtain ⟨⟨v, Hf, k, n⟩, E, q1, q2, q3⟩ := E
  dsimp only at q1 q2 q3
  exact ⟨_, OEnds.made hm hf hi hx E, q1, by show k + 1 ≤ c1; omega, by show n + ks ≤ s1; omega⟩
theorem OEndsQ.callN {x : Int32} {c0 s0 c1 s1 : Nat} (hm : P.mth[mi]? = some d) (hf : fetch d.code pc = some (i, len, er, a, b)) (hi : isInv i = true) (hb : ¬ b = -1) (hy : P.mth[a]? = some y) (hao : argsOf (nargs y) S = some (as, rest))
    (hc : (decide (0 < a) && invKind i y.kind && recvOk P H y as && fitsRoom d y rest && decide ((entA as).length ≤ y.maxL)) = true) (E1 : OEnds P a 0 (entL as y.maxL) [] H (v, H1, kc, ks)) (h1 : c0 + kc ≤ c1) (h2 : s0 + ks ≤ s1) (E2 : OEndsQ P mi (pc + 3) (forget er L) (v.toList ++ rest) H1 (LawQ x c0 s0)) : OEndsQ P mi pc L S H (LawQ x c1 s1) := by
  obtain ⟨⟨v, Hf, k, n⟩, E, q1, q2, q3⟩ := E2
  dsimp only at q1 q2 q3
  exact ⟨_, OEnds.call hm hf hi hb hy hao hc E1 E, q1, by show k + kc ≤ c1; omega, by show n + ks ≤ s1; omega⟩
end Rules
/-! From the machine to the claim -/
theorem law_met {P : PD} {Z : State} {a0 : Array Value} {l : Launch} {y : MD} {as ws : List Value} {H : AHeap} {ρ : List Addr} {n0 kc ks : Nat} {h : Heap} (hP : chk P = true) (hW : ∀ w ∈ wordsOf P, w.before a0 Z = true) (hy : P.mth[0]? = some y)
    (E : OEndsQ P 0 0 (entL as y.maxL) [] H (LawQ 1 kc ks)) (hS : SR ρ as ws) (hlen : (entA as).length ≤ y.maxL) (hH : HR P Z n0 h ρ H) (w0 : List Jvm.Cond) (rm : Room) (r1 : y.rf ≤ rm.frames) (r2 : y.rw ≤ rm.locals) (r3 : kc ≤ rm.cells) (r4 : ks ≤ rm.slots) :
    MetFree l y.name (head1 (Jvm.Cond.code y.name y.bytes y.maxL y.ret :: w0) rm) (fun a U => a = ws.toArray ∧ Z.Warmed39 U.vm ∧ U.heap = h) (fun _ _ _ _ _ => True)
      (fun _ U o U' => ∃ L, o = .returned (some (.int 1)) ∧ Fr n0 L ∧ FrameEnd U o U' L kc ks) := by
  obtain ⟨⟨v, H1, c1, s1⟩, ⟨n, E⟩, q1, q2, q3⟩ := E
  dsimp only at q1 q2 q3
  subst q1
  have hpn : plainName y.name.cls = true := by
    have := mChk_of hP (List.mem_of_getElem? hy)
    simp only [mChk, Bool.and_eq_true] at this
    exact this.1.1.1.1.1.1
  have M := met_of (l := l) (n := n) (sound hP hW n) hy hpn (E n (Nat.le_refl _)) hS hlen hH w0 rm r1 r2 (Nat.le_trans q2 r3) (Nat.le_trans q3 r4)
  intro p e ha hc hk s m args below hf happ hp hK
  obtain ⟨n', o, h1, h2, h3, v', L, rfl, ⟨hF, t, ⟨u, rfl, hu⟩, -⟩, hq⟩ := M p e ha hc hk s m args below hf happ hp hK
  obtain rfl : u = .int 1 := hu
  exact ⟨n', _, h1, h2, h3, L, rfl, hF, hq.1, hq.2.1, hq.2.2.mono q2 q3⟩
end Jvm.Own
namespace Jvm.Own
open Jvm Jvm.ClassFile Sem Op Lib Jvm.Free Jvm.Stand Jvm.LawKit Jvm.RoadKit Bundle
/-- the law's script: an int array of at most 260 -/
theorem script_of {s : State} {ad : Addr} {cl : Cell} (hf : Fit s) (A : Arr s s.heap ad cl .int) (e0 : (Term.arg 0).eval #[.ref ad] s none [] s = some (.ref ad)) (hn : (Jvm.Cond.le (.length (.arg 0)) (.int 260)).value #[.ref ad] s none s [] = some true) :
    ∃ scr : List Int32, cl.slots.size = scr.length ∧ scr.length ≤ 260 ∧ ∀ (i : Nat) x, scr[i]? = some x → cl.slots[i]? = some (.int x) := by
  obtain ⟨u, v, g1, g2, -, -⟩ := cmp_v (Or.inr (Or.inr hn))
  obtain ⟨a', cl', z1, z2, z3⟩ := Term.length_spec g1
  have hat := A.fin (Vm.Alike.refl _)
  rw [e0] at z1
  cases z1
  rw [hat] at z2
  cases z2
  have hsz : cl.slots.size < 2 ^ 31 := by
    rcases Nat.lt_or_ge cl.slots.size (2 ^ 31) with q | q
    · exact q
    · exfalso
      simp [Term.eval, hat] at g1
      omega
  subst z3
  have hv : v = .int 260 := by simpa [Term.eval] using g2.symm
  subst hv
  have hle : cl.slots.size.toInt32 ≤ 260 := by
    simpa [Cond.value, g1, g2] using hn
  have hle' : cl.slots.size ≤ 260 := by
    rw [Int32.le_iff_toInt_le, len_toInt hsz] at hle
    have : (260 : Int32).toInt = 260 := rfl
    rw [this] at hle
    omega
  have key : ∀ i, i < cl.slots.size → ∃ x, cl.slots[i]? = some (.int x) := fun i hi => by
    have hj := idx_in hi hsz
    obtain ⟨v, e1, e2⟩ := elem_fit hf A hj
    have : i.toInt32.toNatClampNeg = i := by
      have h1 : i.toInt32.toInt = i := len_toInt (by omega)
      simp [Int32.toNatClampNeg, h1]
    rw [this] at e1
    obtain ⟨x, rfl⟩ := fit_I e2 (Or.inl rfl)
    exact ⟨x, e1⟩
  refine ⟨cl.slots.toList.map fun v => match v with | .int x => x | _ => 0, by simp, by simpa using hle', fun i x hx => ?_⟩
  rw [List.getElem?_map] at hx
  obtain ⟨v, h1, h2⟩ := Option.map_eq_some_iff.mp hx
  have h1' : cl.slots[i]? = some v := by simpa using h1
  obtain ⟨y, hy⟩ := key i (Array.getElem?_eq_some_iff.mp h1').1
  rw [h1'] at hy
  cases hy
  rw [h1']
  simp at h2
  rw [h2]
theorem hr_script {P : PD} {s : State} {ad : Addr} {cl : Cell} {scr : List Int32} (hnr : P.nr = 1) (A : Arr s s.heap ad cl .int) (h1 : cl.slots.size = scr.length) (h2 : scr.length ≤ 260) (h3 : ∀ (i : Nat) x, scr[i]? = some x → cl.slots[i]? = some (.int x)) : HR P s s.heap.size s.heap [ad] [.inr (.inl (false, scr))] := by
  refine ⟨Nat.le_refl _, rfl, fun i j a g1 g2 => ?_, fun k a g1 g2 => ?_, fun k a c g1 g2 => ?_⟩
  · match i, j, g1, g2 with
    | 0, 0, _, _ => rfl
    | i + 1, _, g1, _ => simp at g1
    | 0, j + 1, _, g2 => simp at g2
  · match k, g1, g2 with
    | 0, _, g2 => rw [hnr] at g2; omega
    | k + 1, g1, _ => simp at g1
  · match k, g1, g2 with
    | 0, g1, g2 =>
      simp at g1 g2
      subst g1 g2
      exact ⟨cl, A, h1, by omega, h3⟩
    | k + 1, g1, _ => simp at g1
end Jvm.Own
namespace Jvm.Own
open Jvm
/-! Ints in range, arrays -/
theorem ilt {a b : Int32} : a < b ↔ a.toInt < b.toInt := Int32.lt_iff_toInt_lt
theorem ile {a b : Int32} : a ≤ b ↔ a.toInt ≤ b.toInt := Int32.le_iff_toInt_le
theorem ieq {a b : Int32} : a = b ↔ a.toInt = b.toInt := Int32.toInt_inj.symm
theorem irng (a : Int32) : -2147483648 ≤ a.toInt ∧ a.toInt < 2147483648 := ⟨Int32.le_toInt a, Int32.toInt_lt a⟩
theorem iadd_i {a b : Int32} (h1 : -2147483648 ≤ a.toInt + b.toInt) (h2 : a.toInt + b.toInt < 2147483648) : (a + b).toInt = a.toInt + b.toInt := by
  rw [Int32.toInt_add]; exact Int.bmod_eq_of_le (by omega) (by omega)
theorem isub_i {a b : Int32} (h1 : -2147483648 ≤ a.toInt - b.toInt) (h2 : a.toInt - b.toInt < 2147483648) : (a - b).toInt = a.toInt - b.toInt := by
  rw [Int32.toInt_sub]; exact Int.bmod_eq_of_le (by omega) (by omega)
theorem imul_i {a b : Int32} (h1 : -2147483648 ≤ a.toInt * b.toInt) (h2 : a.toInt * b.toInt < 2147483648) : (a * b).toInt = a.toInt * b.toInt := by
  rw [Int32.toInt_mul]; exact Int.bmod_eq_of_le (by omega) (by omega)
theorem rdA_nn {α : Type} {L : List α} {j : Int32} (h0 : 0 ≤ j.toInt) : rdA L j = L[j.toInt.toNat]? := by
  unfold rdA
  rw [if_neg (by rw [ilt]; exact Int.not_lt.mpr h0)]
  rfl
theorem rdA_in {α : Type} {L : List α} {j : Int32} (h0 : 0 ≤ j.toInt) (h1 : j.toInt.toNat < L.length) : rdA L j = some L[j.toInt.toNat] := by
  rw [rdA_nn h0, List.getElem?_eq_getElem h1]
theorem wrA_in {α : Type} {L : List α} {j : Int32} {x : α} (h0 : 0 ≤ j.toInt) (h1 : j.toInt.toNat < L.length) : wrA L j x = some (L.set j.toInt.toNat x) := by
  unfold wrA
  rw [if_neg (by rw [ilt]; exact Int.not_lt.mpr h0)]
  exact if_pos h1
theorem rdA_rep {α : Type} {n : Nat} {x : α} {j : Int32} (h0 : 0 ≤ j.toInt) (h1 : j.toInt < n) : rdA (List.replicate n x) j = some x := by
  rw [rdA_nn h0, List.getElem?_replicate, if_pos (by omega)]
end Jvm.Own
namespace Jvm.Own
open Jvm
/-! Sums of ints with their wrap, for omega; runs that answer, and what they answer -/
theorem bmod32 (x : Int) : x.bmod (2 ^ 32) = (x + 2147483648) % 4294967296 - 2147483648 := by
  rw [Int.bmod_def]
  split <;> omega
theorem iadd_e (a b : Int32) : (a + b).toInt = (a.toInt + b.toInt + 2147483648) % 4294967296 - 2147483648 := by
  rw [Int32.toInt_add, bmod32]
theorem isub_e (a b : Int32) : (a - b).toInt = (a.toInt - b.toInt + 2147483648) % 4294967296 - 2147483648 := by
  rw [Int32.toInt_sub, bmod32]
theorem imul_e (a b : Int32) : (a * b).toInt = (a.toInt * b.toInt + 2147483648) % 4294967296 - 2147483648 := by
  rw [Int32.toInt_mul, bmod32]
theorem iscr {n : Nat} (h : n ≤ 260) : (n.toInt32).toInt = n := Int32.toInt_ofNat_of_lt (by omega)
def Tot {α : Type} (x : Option α) (P : α → Prop) : Prop := ∃ r, x = some r ∧ P r
theorem Tot.mk {α : Type} {P : α → Prop} {a : α} (h : P a) : Tot (some a) P := ⟨a, rfl, h⟩
theorem Tot.bind {α β : Type} {x : Option α} {f : α → Option β} {P : α → Prop} {Q : β → Prop} (h : Tot x P) (g : ∀ a, P a → Tot (f a) Q) : Tot (x.bind f) Q := by
  obtain ⟨r, e, p⟩ := h
  rw [e]
  exact g r p
theorem Tot.mono {α : Type} {x : Option α} {P Q : α → Prop} (h : Tot x P) (g : ∀ a, P a → Q a) : Tot x Q := by
  obtain ⟨r, e, p⟩ := h
  exact ⟨r, e, g r p⟩
theorem Tot.ite {α : Type} {c : Prop} [Decidable c] {a b : Option α} {Q : α → Prop} (h1 : c → Tot a Q) (h2 : ¬ c → Tot b Q) : Tot (if c then a else b) Q := by
  by_cases h : c
  · rw [if_pos h]; exact h1 h
  · rw [if_neg h]; exact h2 h
theorem Tot.rd {α β : Type} {L : List α} {j : Int32} {f : α → Option β} {Q : β → Prop} (h0 : 0 ≤ j.toInt) (h1 : j.toInt < L.length) (g : ∀ a, L[j.toInt.toNat]? = some a → Tot (f a) Q) : Tot ((rdA L j).bind f) Q := by
  have h2 : j.toInt.toNat < L.length := by omega
  rw [rdA_in h0 h2]
  exact g _ (List.getElem?_eq_getElem h2)
theorem Tot.wr {α β : Type} {L : List α} {j : Int32} {x : α} {f : List α → Option β} {Q : β → Prop} (h0 : 0 ≤ j.toInt) (h1 : j.toInt < L.length) (g : ∀ L' : List α, L' = L.set j.toInt.toNat x → L'.length = L.length → Tot (f L') Q) : Tot ((wrA L j x).bind f) Q := by
  rw [wrA_in h0 (by omega)]
  exact g _ rfl (by simp)
theorem Tot.eq {α : Type} {x : Option α} {a : α} (h : Tot x (fun r => r = a)) : x = some a := by
  obtain ⟨r, e, p⟩ := h
  rw [e, p]
theorem Tot.of {α : Type} {x : Option α} {a : α} {P : α → Prop} (e : x = some a) (p : P a) : Tot x P := ⟨a, e, p⟩
/-- a bit mask at 15, 31 .. -/
theorem iand_rng (x : Int32) (m : Int32) (h : 0 ≤ m.toInt) : 0 ≤ (x &&& m).toInt ∧ (x &&& m).toInt ≤ m.toInt := by
  have hm : m.toBitVec.msb = false := by
    rw [BitVec.msb_eq_toInt]; simpa using h
  have hx : (x &&& m).toBitVec.msb = false := by
    rw [Int32.toBitVec_and, BitVec.msb_and, hm, Bool.and_false]
  have e1 : m.toInt = (m.toBitVec.toNat : Int) := BitVec.toInt_eq_toNat_of_msb hm
  have e2 : (x &&& m).toInt = (((x &&& m).toBitVec).toNat : Int) := BitVec.toInt_eq_toNat_of_msb hx
  have e3 : ((x &&& m).toBitVec).toNat ≤ m.toBitVec.toNat := by
    rw [Int32.toBitVec_and, BitVec.toNat_and]; exact Nat.and_le_right
  omega
def gI (L : List Int32) (j : Int32) : Int32 := (rdA L j).getD 0
theorem rdg {L : List Int32} {j : Int32} (h0 : 0 ≤ j.toInt) (h1 : j.toInt < L.length) : rdA L j = some (gI L j) := by
  have h2 : j.toInt.toNat < L.length := by omega
  unfold gI
  rw [rdA_in h0 h2]
  (first | done | rfl | simp)
theorem gset {L : List Int32} {i j : Int32} {x : Int32} (hi : 0 ≤ i.toInt) (hl : i.toInt < L.length) (hj : 0 ≤ j.toInt) : gI (L.set i.toInt.toNat x) j = if i = j then x else gI L j := by
  unfold gI
  rw [rdA_nn hj, rdA_nn hj]
  by_cases h : i = j
  · subst h
    rw [if_pos rfl, List.getElem?_set_self (by omega)]
    (first | done | rfl | simp)
  · rw [if_neg h, List.getElem?_set_ne (by rw [ieq] at h; omega)]
theorem gext {A B : List Int32} (hl : A.length < 100000) (ha : A.length = B.length) (h : ∀ i : Int32, 0 ≤ i.toInt → i.toInt < A.length → gI A i = gI B i) : A = B := by
  apply List.ext_getElem ha
  intro k h1 h2
  have e : (Int32.ofNat k).toInt = k := Int32.toInt_ofNat_of_lt (by omega)
  have q := h (Int32.ofNat k) (by omega) (by omega)
  unfold gI at q
  rw [rdA_nn (by omega), rdA_nn (by omega), e] at q
  simpa [h1, h2] using q
theorem Tot.rdI {β : Type} {L : List Int32} {j : Int32} {f : Int32 → Option β} {Q : β → Prop} (h0 : 0 ≤ j.toInt) (h1 : j.toInt < L.length) (g : Tot (f (gI L j)) Q) : Tot ((rdA L j).bind f) Q := by
  rw [rdg h0 h1]
  exact g
theorem gI_rep {n : Nat} {x : Int32} {j : Int32} (h0 : 0 ≤ j.toInt) (h1 : j.toInt < n) : gI (List.replicate n x) j = x := by
  unfold gI
  rw [rdA_rep h0 h1]
  (first | done | rfl | simp)
/-! Longs -/
theorem lltI {a b : Int64} : a < b ↔ a.toInt < b.toInt := Int64.lt_iff_toInt_lt
theorem leqI {a b : Int64} : a = b ↔ a.toInt = b.toInt := Int64.toInt_inj.symm
theorem lrng (a : Int64) : -9223372036854775808 ≤ a.toInt ∧ a.toInt < 9223372036854775808 := ⟨Int64.le_toInt a, Int64.toInt_lt a⟩
theorem ladd_i {a b : Int64} (h1 : -9223372036854775808 ≤ a.toInt + b.toInt) (h2 : a.toInt + b.toInt < 9223372036854775808) : (a + b).toInt = a.toInt + b.toInt := by
  rw [Int64.toInt_add]; exact Int.bmod_eq_of_le (by omega) (by omega)
theorem lsub_i {a b : Int64} (h1 : -9223372036854775808 ≤ a.toInt - b.toInt) (h2 : a.toInt - b.toInt < 9223372036854775808) : (a - b).toInt = a.toInt - b.toInt := by
  rw [Int64.toInt_sub]; exact Int.bmod_eq_of_le (by omega) (by omega)
theorem lmul_i {a b : Int64} (h1 : -9223372036854775808 ≤ a.toInt * b.toInt) (h2 : a.toInt * b.toInt < 9223372036854775808) : (a * b).toInt = a.toInt * b.toInt := by
  rw [Int64.toInt_mul]; exact Int.bmod_eq_of_le (by omega) (by omega)
theorem lmod_i {a b : Int64} (h : 0 ≤ a.toInt) : (a % b).toInt = a.toInt % b.toInt := by
  rw [Int64.toInt_mod, Int.tmod_eq_emod_of_nonneg h]
theorem lback {a : Int64} (h1 : -2147483648 ≤ a.toInt) (h2 : a.toInt < 2147483648) : a.toInt32.toInt64 = a := by
  rw [leqI, Int32.toInt_toInt64, Int64.toInt_toInt32, bmod32]
  omega
theorem mulb {a b M : Int} (h0 : 0 ≤ a) (h1 : a ≤ M) (h2 : 0 ≤ b) (h3 : b ≤ M) : 0 ≤ a * b ∧ a * b ≤ M * M :=
  ⟨Int.mul_nonneg h0 h2, Int.mul_le_mul h1 h3 h2 (by omega)⟩
end Jvm.Own
namespace Jvm.Pilot.@@N@@
open Jvm Jvm.ClassFile Sem Op Lib Jvm.Free Jvm.Stand Jvm.LawKit Jvm.RoadKit Bundle Jvm.Own Jvm.Pilot.@@N@@.Jvm.D
def d_0 : MD := (x, code, maxLocals, ret, 0, 5, 999, 5, 94, [(0, .iconst 1, 1, [], 0, 0), (1, .iload_n 2, 1, [], 0, 0), (2, .sipush 1023, 3, [], 0, 0), (5, .iand, 1, [], 0, 0), (6, .iadd, 1, [], 0, 0), (7, .istore 5, 2, [], 0, 0), (9, .iconst 1, 1, [], 0, 0), (10, .iload_n 3, 1, [], 0, 0), (11, .sipush 1023, 3, [], 0, 0), (14, .iand, 1, [], 0, 0), (15, .iadd, 1, [], 0, 0), (16, .istore 6, 2, [], 0, 0), (18, .iconst 1, 1, [], 0, 0), (19, .iload 4, 2, [], 0, 0), (21, .sipush 4095, 3, [], 0, 0), (24, .iand, 1, [], 0, 0), (25, .iadd, 1, [], 0, 0), (26, .istore 7, 2, [], 0, 0), (28, .iload_n 0, 1, [], 0, 0), (29, .iconst 1, 1, [], 0, 0), (30, .if_icmp .ge 7, 3, [], 0, 0), (33, .iconst 1, 1, [], 0, 0), (34, .goto 15, 3, [], 0, 0), (37, .iload_n 0, 1, [], 0, 0), (38, .bipush 100, 2, [], 0, 0), (40, .if_icmp .le 8, 3, [], 0, 0), (43, .bipush 100, 2, [], 0, 0), (45, .goto 4, 3, [], 0, 0), (48, .iload_n 0, 1, [], 0, 0), (49, .istore 8, 2, [false, false, true, true, true, false, false, false, true, true, true, true, true, true, true, true, true, true, true, true, true, true, true], 0, 0), (51, .iload_n 1, 1, [], 0, 0), (52, .ifCond .ge 7, 3, [], 0, 0), (55, .iconst 0, 1, [], 0, 0), (56, .goto 17, 3, [], 0, 0), (59, .iload_n 1, 1, [], 0, 0), (60, .sipush 10000, 3, [], 0, 0), (63, .if_icmp .le 9, 3, [], 0, 0), (66, .sipush 10000, 3, [], 0, 0), (69, .goto 4, 3, [], 0, 0), (72, .iload_n 1, 1, [], 0, 0), (73, .istore 9, 2, [false, false, true, true, true, false, false, false, false, true, true, true, true, true, true, true, true, true, true, true, true, true, true], 0, 0), (75, .iload 7, 2, [], 0, 0), (77, .iload 5, 2, [], 0, 0), (79, .iload 6, 2, [], 0, 0), (81, .iadd, 1, [], 0, 0), (82, .if_icmp .ge 8, 3, [], 0, 0), (85, .iload 7, 2, [], 0, 0), (87, .goto 8, 3, [], 0, 0), (90, .iload 5, 2, [], 0, 0), (92, .iload 6, 2, [], 0, 0), (94, .iadd, 1, [], 0, 0), (95, .istore 10, 2, [false, false, true, true, true, false, false, false, false, false, true, true, true, true, true, true, true, true, true, true, true, true, true], 0, 0), (97, .iconst 0, 1, [], 0, 0), (98, .istore 11, 2, [], 0, 0), (100, .iload 9, 2, [], 0, 0), (102, .ifCond .le 30, 3, [], 0, 0), (105, .iload 10, 2, [], 0, 0), (107, .iload 5, 2, [], 0, 0), (109, .if_icmp .ge 8, 3, [], 0, 0), (112, .iload 10, 2, [], 0, 0), (114, .goto 5, 3, [], 0, 0), (117, .iload 5, 2, [], 0, 0), (119, .istore 11, 2, [false, false, true, true, true, false, false, false, false, false, false, true, true, true, true, true, true, true, true, true, true, true, true], 0, 0), (121, .iload 9, 2, [], 0, 0), (123, .iload 11, 2, [], 0, 0), (125, .if_icmp .ge 7, 3, [], 0, 0), (128, .iload 9, 2, [], 0, 0), (130, .istore 11, 2, [], 0, 0), (132, .iload 10, 2, [false, false, true, true, true, false, false, false, false, true, false, false, true, true, true, true, true, true, true, true, true, true, true], 0, 0), (134, .iload 11, 2, [], 0, 0), (136, .isub, 1, [], 0, 0), (137, .istore 12, 2, [], 0, 0), (139, .iconst 0, 1, [], 0, 0), (140, .istore 13, 2, [], 0, 0), (142, .iload 12, 2, [], 0, 0), (144, .ifCond .le 145, 3, [], 0, 0), (147, .iload 5, 2, [], 0, 0), (149, .iload 11, 2, [], 0, 0), (151, .isub, 1, [], 0, 0), (152, .iload 6, 2, [], 0, 0), (154, .iadd, 1, [], 0, 0), (155, .istore 14, 2, [], 0, 0), (157, .iload 12, 2, [], 0, 0), (159, .iload 5, 2, [], 0, 0), (161, .iload 11, 2, [], 0, 0), (163, .isub, 1, [], 0, 0), (164, .imul, 1, [], 0, 0), (165, .iload 14, 2, [], 0, 0), (167, .idiv, 1, [], 0, 0), (168, .istore 15, 2, [], 0, 0), (170, .iload 12, 2, [], 0, 0), (172, .iload 6, 2, [], 0, 0), (174, .imul, 1, [], 0, 0), (175, .iload 14, 2, [], 0, 0), (177, .idiv, 1, [], 0, 0), (178, .istore 16, 2, [], 0, 0), (180, .iload 15, 2, [], 0, 0), (182, .iload 8, 2, [], 0, 0), (184, .if_icmp .ge 6, 3, [], 0, 0), (187, .iconst 0, 1, [], 0, 0), (188, .istore 15, 2, [], 0, 0), (190, .iload 16, 2, [false, false, true, true, true, false, false, false, false, true, false, false, false, false, true, false, false, true, true, true, true, true, true], 0, 0), (192, .iload 8, 2, [], 0, 0), (194, .if_icmp .ge 6, 3, [], 0, 0), (197, .iconst 0, 1, [], 0, 0), (198, .istore 16, 2, [], 0, 0), (200, .iload 11, 2, [false, false, true, true, true, false, false, false, true, true, false, false, false, false, true, false, false, true, true, true, true, true, true], 0, 0), (202, .iload 15, 2, [], 0, 0), (204, .iadd, 1, [], 0, 0), (205, .istore 11, 2, [], 0, 0), (207, .iload 13, 2, [], 0, 0), (209, .iload 16, 2, [], 0, 0), (211, .iadd, 1, [], 0, 0), (212, .istore 13, 2, [], 0, 0), (214, .iload 12, 2, [], 0, 0), (216, .iload 15, 2, [], 0, 0), (218, .isub, 1, [], 0, 0), (219, .iload 16, 2, [], 0, 0), (221, .isub, 1, [], 0, 0), (222, .istore 17, 2, [], 0, 0), (224, .iload 17, 2, [], 0, 0), (226, .iload 5, 2, [], 0, 0), (228, .iload 11, 2, [], 0, 0), (230, .isub, 1, [], 0, 0), (231, .if_icmp .ge 8, 3, [], 0, 0), (234, .iload 17, 2, [], 0, 0), (236, .goto 8, 3, [], 0, 0), (239, .iload 5, 2, [], 0, 0), (241, .iload 11, 2, [], 0, 0), (243, .isub, 1, [], 0, 0), (244, .istore 18, 2, [false, false, true, true, true, false, false, false, true, true, false, false, true, false, true, true, true, false, true, true, true, true, true], 0, 0), (246, .iload 11, 2, [], 0, 0), (248, .iload 18, 2, [], 0, 0), (250, .iadd, 1, [], 0, 0), (251, .istore 11, 2, [], 0, 0), (253, .iload 17, 2, [], 0, 0), (255, .iload 18, 2, [], 0, 0), (257, .isub, 1, [], 0, 0), (258, .istore 17, 2, [], 0, 0), (260, .iload 17, 2, [], 0, 0), (262, .iload 6, 2, [], 0, 0), (264, .iload 13, 2, [], 0, 0), (266, .isub, 1, [], 0, 0), (267, .if_icmp .ge 8, 3, [], 0, 0), (270, .iload 17, 2, [], 0, 0), (272, .goto 8, 3, [], 0, 0), (275, .iload 6, 2, [], 0, 0), (277, .iload 13, 2, [], 0, 0), (279, .isub, 1, [], 0, 0), (280, .istore 18, 2, [false, false, true, true, true, false, false, false, true, true, false, false, true, false, true, true, true, true, true, true, true, true, true], 0, 0), (282, .iload 13, 2, [], 0, 0), (284, .iload 18, 2, [], 0, 0), (286, .iadd, 1, [], 0, 0), (287, .istore 13, 2, [], 0, 0), (289, .iload 7, 2, [false, false, true, true, true, false, false, false, true, true, false, false, true, false, true, true, true, true, true, true, true, true, true], 0, 0), (291, .iload 10, 2, [], 0, 0), (293, .isub, 1, [], 0, 0), (294, .istore 14, 2, [], 0, 0), (296, .iload 11, 2, [], 0, 0), (298, .ifCond .le 7, 3, [], 0, 0), (301, .iconst 1, 1, [], 0, 0), (302, .goto 4, 3, [], 0, 0), (305, .iconst 2, 1, [], 0, 0), (306, .istore 15, 2, [false, false, true, true, true, false, false, false, true, true, false, false, true, false, false, true, true, true, true, true, true, true, true], 0, 0), (308, .iload 11, 2, [], 0, 0), (310, .ifCond .le 8, 3, [], 0, 0), (313, .iload 11, 2, [], 0, 0), (315, .goto 5, 3, [], 0, 0), (318, .iload 13, 2, [], 0, 0), (320, .istore 16, 2, [false, false, true, true, true, false, false, false, true, true, false, false, true, false, false, false, true, true, true, true, true, true, true], 0, 0), (322, .iload 11, 2, [], 0, 0), (324, .ifCond .le 12, 3, [], 0, 0), (327, .iload 13, 2, [], 0, 0), (329, .ifCond .le 7, 3, [], 0, 0), (332, .iconst 2, 1, [], 0, 0), (333, .goto 4, 3, [], 0, 0), (336, .iconst 0, 1, [], 0, 0), (337, .istore 17, 2, [false, false, true, true, true, false, false, false, true, true, false, false, true, false, false, false, false, true, true, true, true, true, true], 0, 0), (339, .iload 17, 2, [], 0, 0), (341, .iconst 2, 1, [], 0, 0), (342, .if_icmp .ne 8, 3, [], 0, 0), (345, .iload 13, 2, [], 0, 0), (347, .goto 4, 3, [], 0, 0), (350, .iconst 0, 1, [], 0, 0), (351, .istore 18, 2, [false, false, true, true, true, false, false, false, true, true, false, false, true, false, false, false, false, false, true, true, true, true, true], 0, 0), (353, .new 7, 3, [], 0, 0), (356, .dup, 1, [], 0, 0), (357, .iload_n 0, 1, [], 0, 0), (358, .iload_n 1, 1, [], 0, 0), (359, .invokespecial 9, 3, [], 1, 0), (362, .astore 19, 2, [], 0, 0), (364, .aload 19, 2, [], 0, 0), (366, .iconst 1, 1, [], 0, 0), (367, .bipush 100, 2, [], 0, 0), (369, .iload 5, 2, [], 0, 0), (371, .iconst 0, 1, [], 0, 0), (372, .invokevirtual 12, 3, [], 2, 0), (375, .istore 20, 2, [], 0, 0), (377, .aload 19, 2, [], 0, 0), (379, .iconst 1, 1, [], 0, 0), (380, .bipush 100, 2, [], 0, 0), (382, .iload 6, 2, [], 0, 0), (384, .iconst 0, 1, [], 0, 0), (385, .invokevirtual 12, 3, [], 2, 0), (388, .istore 21, 2, [], 0, 0), (390, .aload 19, 2, [], 0, 0), (392, .iconst 0, 1, [], 0, 0), (393, .bipush 100, 2, [], 0, 0), (395, .iload 7, 2, [], 0, 0), (397, .iconst 0, 1, [], 0, 0), (398, .invokevirtual 12, 3, [], 2, 0), (401, .istore 22, 2, [], 0, 0), (403, .iload 20, 2, [], 0, 0), (405, .iconst 1, 1, [], 0, 0), (406, .if_icmp .ne 15, 3, [], 0, 0), (409, .iload 21, 2, [], 0, 0), (411, .iconst 2, 1, [], 0, 0), (412, .if_icmp .ne 9, 3, [], 0, 0), (415, .iload 22, 2, [], 0, 0), (417, .iconst 3, 1, [], 0, 0), (418, .if_icmp .eq 5, 3, [], 0, 0), (421, .iconst 0, 1, [], 0, 0), (422, .ireturn, 1, [], 0, 0), (423, .aload 19, 2, [], 0, 0), (425, .invokevirtual 16, 3, [], 16, 0), (428, .iload 17, 2, [], 0, 0), (430, .ifCond .ne 7, 3, [], 0, 0), (433, .iconst 1, 1, [], 0, 0), (434, .goto 4, 3, [], 0, 0), (437, .iconst 2, 1, [], 0, 0), (438, .if_icmp .eq 5, 3, [true, true, true, true, true, false, false, true, true, true, false, false, true, false, false, false, false, false, false, false, true, true, true], 0, 0), (441, .iconst 0, 1, [], 0, 0), (442, .ireturn, 1, [], 0, 0), (443, .aload 19, 2, [], 0, 0), (445, .iconst 0, 1, [], 0, 0), (446, .invokevirtual 20, 3, [], 17, 0), (449, .iload 15, 2, [], 0, 0), (451, .if_icmp .ne 25, 3, [], 0, 0), (454, .aload 19, 2, [], 0, 0), (456, .iconst 0, 1, [], 0, 0), (457, .invokevirtual 24, 3, [], 18, 0), (460, .iload 16, 2, [], 0, 0), (462, .if_icmp .ne 14, 3, [], 0, 0), (465, .aload 19, 2, [], 0, 0), (467, .iconst 0, 1, [], 0, 0), (468, .invokevirtual 27, 3, [], 19, 0), (471, .bipush 100, 2, [], 0, 0), (473, .if_icmp .eq 5, 3, [], 0, 0), (476, .iconst 0, 1, [], 0, 0), (477, .ireturn, 1, [], 0, 0), (478, .aload 19, 2, [], 0, 0), (480, .iconst 1, 1, [], 0, 0), (481, .invokevirtual 20, 3, [], 17, 0), (484, .iload 17, 2, [], 0, 0), (486, .if_icmp .ne 34, 3, [], 0, 0), (489, .aload 19, 2, [], 0, 0), (491, .iconst 1, 1, [], 0, 0), (492, .invokevirtual 24, 3, [], 18, 0), (495, .iload 18, 2, [], 0, 0), (497, .if_icmp .ne 23, 3, [], 0, 0), (500, .aload 19, 2, [], 0, 0), (502, .iconst 1, 1, [], 0, 0), (503, .invokevirtual 27, 3, [], 19, 0), (506, .iload 17, 2, [], 0, 0), (508, .ifCond .ne 7, 3, [], 0, 0), (511, .iconst 0, 1, [], 0, 0), (512, .goto 5, 3, [], 0, 0), (515, .bipush 100, 2, [], 0, 0), (517, .if_icmp .eq 5, 3, [true, true, true, true, true, false, false, true, true, true, false, false, true, false, false, true, true, true, true, false, true, true, true], 0, 0), (520, .iconst 0, 1, [], 0, 0), (521, .ireturn, 1, [], 0, 0), (522, .aload 19, 2, [], 0, 0), (524, .iconst 1, 1, [], 0, 0), (525, .invokevirtual 30, 3, [], 20, 0), (528, .iload 5, 2, [], 0, 0), (530, .iload 11, 2, [], 0, 0), (532, .isub, 1, [], 0, 0), (533, .if_icmp .ne 45, 3, [], 0, 0), (536, .aload 19, 2, [], 0, 0), (538, .iconst 1, 1, [], 0, 0), (539, .invokevirtual 33, 3, [], 22, 0), (542, .iload 5, 2, [], 0, 0), (544, .iload 11, 2, [], 0, 0), (546, .if_icmp .ne 7, 3, [], 0, 0), (549, .iconst 2, 1, [], 0, 0), (550, .goto 4, 3, [], 0, 0), (553, .iconst 1, 1, [], 0, 0), (554, .if_icmp .ne 24, 3, [true, true, true, true, true, false, false, true, true, true, false, false, true, false, false, true, true, true, true, false, true, true, true], 0, 0), (557, .aload 19, 2, [], 0, 0), (559, .iconst 1, 1, [], 0, 0), (560, .invokevirtual 36, 3, [], 23, 0), (563, .iload 5, 2, [], 0, 0), (565, .iload 11, 2, [], 0, 0), (567, .if_icmp .le 7, 3, [], 0, 0), (570, .iconst 1, 1, [], 0, 0), (571, .goto 4, 3, [], 0, 0), (574, .iconst 0, 1, [], 0, 0), (575, .if_icmp .eq 5, 3, [true, true, true, true, true, false, false, true, true, true, false, false, true, false, false, true, true, true, true, false, true, true, true], 0, 0), (578, .iconst 0, 1, [], 0, 0), (579, .ireturn, 1, [], 0, 0), (580, .aload 19, 2, [], 0, 0), (582, .iconst 2, 1, [], 0, 0), (583, .invokevirtual 30, 3, [], 20, 0), (586, .iload 6, 2, [], 0, 0), (588, .iload 13, 2, [], 0, 0), (590, .isub, 1, [], 0, 0), (591, .if_icmp .ne 24, 3, [], 0, 0), (594, .aload 19, 2, [], 0, 0), (596, .iconst 2, 1, [], 0, 0), (597, .invokevirtual 33, 3, [], 22, 0), (600, .iload 6, 2, [], 0, 0), (602, .iload 13, 2, [], 0, 0), (604, .if_icmp .ne 7, 3, [], 0, 0), (607, .iconst 2, 1, [], 0, 0), (608, .goto 4, 3, [], 0, 0), (611, .iconst 1, 1, [], 0, 0), (612, .if_icmp .eq 5, 3, [true, true, true, true, true, false, false, true, true, true, false, false, true, false, false, true, true, true, true, false, true, true, true], 0, 0), (615, .iconst 0, 1, [], 0, 0), (616, .ireturn, 1, [], 0, 0), (617, .aload 19, 2, [], 0, 0), (619, .iconst 1, 1, [], 0, 0), (620, .invokevirtual 40, 3, [], 24, 0), (623, .iload 11, 2, [], 0, 0), (625, .if_icmp .ne 25, 3, [], 0, 0), (628, .aload 19, 2, [], 0, 0), (630, .iconst 2, 1, [], 0, 0), (631, .invokevirtual 40, 3, [], 24, 0), (634, .iload 13, 2, [], 0, 0), (636, .if_icmp .ne 14, 3, [], 0, 0), (639, .aload 19, 2, [], 0, 0), (641, .iconst 3, 1, [], 0, 0), (642, .invokevirtual 40, 3, [], 24, 0), (645, .iload 10, 2, [], 0, 0), (647, .if_icmp .eq 5, 3, [], 0, 0), (650, .iconst 0, 1, [], 0, 0), (651, .ireturn, 1, [], 0, 0), (652, .aload 19, 2, [], 0, 0), (654, .iconst 3, 1, [], 0, 0), (655, .invokevirtual 33, 3, [], 22, 0), (658, .iload 14, 2, [], 0, 0), (660, .ifCond .ne 7, 3, [], 0, 0), (663, .iconst 2, 1, [], 0, 0), (664, .goto 4, 3, [], 0, 0), (667, .iconst 1, 1, [], 0, 0), (668, .if_icmp .ne 14, 3, [true, true, true, true, true, false, false, true, true, true, false, true, true, true, false, true, true, true, true, false, true, true, true], 0, 0), (671, .aload 19, 2, [], 0, 0), (673, .iconst 3, 1, [], 0, 0), (674, .invokevirtual 30, 3, [], 20, 0), (677, .iload 14, 2, [], 0, 0), (679, .if_icmp .eq 5, 3, [], 0, 0), (682, .iconst 0, 1, [], 0, 0), (683, .ireturn, 1, [], 0, 0), (684, .aload 19, 2, [], 0, 0), (686, .iconst 1, 1, [], 0, 0), (687, .bipush 100, 2, [], 0, 0), (689, .invokevirtual 43, 3, [], 25, 0), (692, .iload 5, 2, [], 0, 0), (694, .iload 6, 2, [], 0, 0), (696, .iadd, 1, [], 0, 0), (697, .iload 10, 2, [], 0, 0), (699, .isub, 1, [], 0, 0), (700, .if_icmp .ne 27, 3, [], 0, 0), (703, .aload 19, 2, [], 0, 0), (705, .iconst 0, 1, [], 0, 0), (706, .invokevirtual 47, 3, [], 26, 0), (709, .iload 14, 2, [], 0, 0), (711, .ifCond .ne 7, 3, [], 0, 0), (714, .iconst 0, 1, [], 0, 0), (715, .goto 5, 3, [], 0, 0), (718, .bipush 100, 2, [], 0, 0), (720, .if_icmp .ne 7, 3, [true, true, true, true, true, true, true, true, true, true, true, true, true, true, true, true, true, true, true, true, true, true, true], 0, 0), (723, .iconst 1, 1, [], 0, 0), (724, .goto 4, 3, [], 0, 0), (727, .iconst 0, 1, [], 0, 0), (728, .ireturn, 1, [], 0, 0)])
def d_1 : MD := (⟨"ProRataBook", "<init>", "(II)V"⟩, prog_1_method_1_code, 5, none, 1, 2, 0, 1, 12, [(0, .aload_n 0, 1, [], 0, 0), (1, .invokespecial 1, 3, [], 0, -1), (4, .aload_n 0, 1, [], 0, 0), (5, .sipush 256, 3, [], 0, 0), (8, .newarray .int, 2, [], 0, 0), (10, .putfield 7, 3, [], 0, 0), (13, .aload_n 0, 1, [], 0, 0), (14, .sipush 256, 3, [], 0, 0), (17, .newarray .int, 2, [], 0, 0), (19, .putfield 13, 3, [], 1, 0), (22, .aload_n 0, 1, [], 0, 0), (23, .sipush 256, 3, [], 0, 0), (26, .newarray .int, 2, [], 0, 0), (28, .putfield 16, 3, [], 2, 0), (31, .aload_n 0, 1, [], 0, 0), (32, .sipush 256, 3, [], 0, 0), (35, .newarray .int, 2, [], 0, 0), (37, .putfield 19, 3, [], 3, 0), (40, .aload_n 0, 1, [], 0, 0), (41, .sipush 256, 3, [], 0, 0), (44, .newarray .int, 2, [], 0, 0), (46, .putfield 22, 3, [], 4, 0), (49, .aload_n 0, 1, [], 0, 0), (50, .sipush 256, 3, [], 0, 0), (53, .newarray .long, 2, [], 0, 0), (55, .putfield 25, 3, [], 5, 0), (58, .aload_n 0, 1, [], 0, 0), (59, .sipush 256, 3, [], 0, 0), (62, .newarray .boolean, 2, [], 0, 0), (64, .putfield 29, 3, [], 6, 0), (67, .aload_n 0, 1, [], 0, 0), (68, .bipush 64, 2, [], 0, 0), (70, .newarray .int, 2, [], 0, 0), (72, .putfield 33, 3, [], 7, 0), (75, .aload_n 0, 1, [], 0, 0), (76, .bipush 64, 2, [], 0, 0), (78, .newarray .int, 2, [], 0, 0), (80, .putfield 36, 3, [], 8, 0), (83, .aload_n 0, 1, [], 0, 0), (84, .bipush 64, 2, [], 0, 0), (86, .newarray .int, 2, [], 0, 0), (88, .putfield 39, 3, [], 9, 0), (91, .aload_n 0, 1, [], 0, 0), (92, .bipush 64, 2, [], 0, 0), (94, .newarray .int, 2, [], 0, 0), (96, .putfield 42, 3, [], 10, 0), (99, .aload_n 0, 1, [], 0, 0), (100, .bipush 64, 2, [], 0, 0), (102, .newarray .int, 2, [], 0, 0), (104, .putfield 45, 3, [], 11, 0), (107, .aload_n 0, 1, [], 0, 0), (108, .bipush 64, 2, [], 0, 0), (110, .newarray .int, 2, [], 0, 0), (112, .putfield 48, 3, [], 12, 0), (115, .aload_n 0, 1, [], 0, 0), (116, .bipush 64, 2, [], 0, 0), (118, .newarray .int, 2, [], 0, 0), (120, .putfield 51, 3, [], 13, 0), (123, .iload_n 1, 1, [], 0, 0), (124, .istore_n 3, 1, [], 0, 0), (125, .iload_n 3, 1, [], 0, 0), (126, .iconst 1, 1, [], 0, 0), (127, .if_icmp .ge 5, 3, [], 0, 0), (130, .iconst 1, 1, [], 0, 0), (131, .istore_n 3, 1, [], 0, 0), (132, .iload_n 3, 1, [false, true, false, false, true], 0, 0), (133, .bipush 100, 2, [], 0, 0), (135, .if_icmp .le 6, 3, [], 0, 0), (138, .bipush 100, 2, [], 0, 0), (140, .istore_n 3, 1, [], 0, 0), (141, .iload_n 2, 1, [false, true, false, false, true], 0, 0), (142, .istore 4, 2, [], 0, 0), (144, .iload 4, 2, [], 0, 0), (146, .ifCond .ge 6, 3, [], 0, 0), (149, .iconst 0, 1, [], 0, 0), (150, .istore 4, 2, [], 0, 0), (152, .iload 4, 2, [false, true, true], 0, 0), (154, .sipush 10000, 3, [], 0, 0), (157, .if_icmp .le 8, 3, [], 0, 0), (160, .sipush 10000, 3, [], 0, 0), (163, .istore 4, 2, [], 0, 0), (165, .aload_n 0, 1, [false, true, true], 0, 0), (166, .iload_n 3, 1, [], 0, 0), (167, .putfield 54, 3, [], 14, 0), (170, .aload_n 0, 1, [], 0, 0), (171, .iload 4, 2, [], 0, 0), (173, .putfield 58, 3, [], 15, 0), (176, .aload_n 0, 1, [], 0, 0), (177, .iconst 0, 1, [], 0, 0), (178, .putfield 61, 3, [], 16, 0), (181, .aload_n 0, 1, [], 0, 0), (182, .lconst 0, 1, [], 0, 0), (183, .putfield 64, 3, [], 17, 0), (186, .aload_n 0, 1, [], 0, 0), (187, .iconst 0, 1, [], 0, 0), (188, .putfield 68, 3, [], 18, 0), (191, .aload_n 0, 1, [], 0, 0), (192, .iconst 0, 1, [], 0, 0), (193, .putfield 71, 3, [], 19, 0), (196, .aload_n 0, 1, [], 0, 0), (197, .iconst 0, 1, [], 0, 0), (198, .putfield 74, 3, [], 20, 0), (201, .return_, 1, [], 0, 0)])
def d_2 : MD := (⟨"ProRataBook", "submit", "(IIII)I"⟩, prog_1_method_2_code, 7, some .int, 3, 4, 0, 4, 76, [(0, .iload_n 1, 1, [], 0, 0), (1, .ifCond .eq 10, 3, [], 0, 0), (4, .iload_n 1, 1, [], 0, 0), (5, .iconst 1, 1, [], 0, 0), (6, .if_icmp .eq 5, 3, [], 0, 0), (9, .iconst (-1), 1, [], 0, 0), (10, .ireturn, 1, [], 0, 0), (11, .iload_n 2, 1, [false, false, false, false, false, true, true], 0, 0), (12, .iconst 1, 1, [], 0, 0), (13, .if_icmp .lt 10, 3, [], 0, 0), (16, .iload_n 2, 1, [], 0, 0), (17, .sipush 1000, 3, [], 0, 0), (20, .if_icmp .le 6, 3, [], 0, 0), (23, .bipush (-2), 2, [], 0, 0), (25, .ireturn, 1, [], 0, 0), (26, .iload_n 3, 1, [], 0, 0), (27, .iconst 1, 1, [], 0, 0), (28, .if_icmp .lt 10, 3, [], 0, 0), (31, .iload_n 3, 1, [], 0, 0), (32, .sipush 10000, 3, [], 0, 0), (35, .if_icmp .le 6, 3, [], 0, 0), (38, .bipush (-3), 2, [], 0, 0), (40, .ireturn, 1, [], 0, 0), (41, .iload 4, 2, [], 0, 0), (43, .ifCond .eq 12, 3, [], 0, 0), (46, .iload 4, 2, [], 0, 0), (48, .iconst 1, 1, [], 0, 0), (49, .if_icmp .eq 6, 3, [], 0, 0), (52, .bipush (-4), 2, [], 0, 0), (54, .ireturn, 1, [], 0, 0), (55, .aload_n 0, 1, [false, false, false, false, false, true, true], 0, 0), (56, .getfield 61, 3, [], 16, 0), (59, .sipush 255, 3, [], 0, 0), (62, .if_icmp .lt 6, 3, [], 0, 0), (65, .bipush (-5), 2, [], 0, 0), (67, .ireturn, 1, [], 0, 0), (68, .aload_n 0, 1, [], 0, 0), (69, .dup, 1, [], 0, 0), (70, .getfield 61, 3, [], 16, 0), (73, .iconst 1, 1, [], 0, 0), (74, .iadd, 1, [], 0, 0), (75, .putfield 61, 3, [], 16, 0), (78, .aload_n 0, 1, [], 0, 0), (79, .getfield 61, 3, [], 16, 0), (82, .istore 5, 2, [], 0, 0), (84, .aload_n 0, 1, [], 0, 0), (85, .iconst 0, 1, [], 0, 0), (86, .putfield 71, 3, [], 19, 0), (89, .aload_n 0, 1, [], 0, 0), (90, .getfield 7, 3, [], 0, 0), (93, .iload 5, 2, [], 0, 0), (95, .iload_n 1, 1, [], 0, 0), (96, .iastore, 1, [], 0, 0), (97, .aload_n 0, 1, [], 0, 0), (98, .getfield 13, 3, [], 1, 0), (101, .iload 5, 2, [], 0, 0), (103, .iload_n 2, 1, [], 0, 0), (104, .iastore, 1, [], 0, 0), (105, .aload_n 0, 1, [], 0, 0), (106, .getfield 16, 3, [], 2, 0), (109, .iload 5, 2, [], 0, 0), (111, .iconst 0, 1, [], 0, 0), (112, .iastore, 1, [], 0, 0), (113, .aload_n 0, 1, [], 0, 0), (114, .getfield 19, 3, [], 3, 0), (117, .iload 5, 2, [], 0, 0), (119, .iconst 0, 1, [], 0, 0), (120, .iastore, 1, [], 0, 0), (121, .aload_n 0, 1, [], 0, 0), (122, .getfield 29, 3, [], 6, 0), (125, .iload 5, 2, [], 0, 0), (127, .iconst 0, 1, [], 0, 0), (128, .bastore, 1, [], 0, 0), (129, .aload_n 0, 1, [], 0, 0), (130, .getfield 25, 3, [], 5, 0), (133, .iload 5, 2, [], 0, 0), (135, .lconst 0, 1, [], 0, 0), (136, .lastore, 1, [], 0, 0), (137, .aload_n 0, 1, [], 0, 0), (138, .iload 5, 2, [], 0, 0), (140, .iload_n 1, 1, [], 0, 0), (141, .iload_n 2, 1, [], 0, 0), (142, .iload_n 3, 1, [], 0, 0), (143, .invokevirtual 77, 3, [], 3, 0), (146, .istore 6, 2, [], 0, 0), (148, .aload_n 0, 1, [], 0, 0), (149, .iload 5, 2, [], 0, 0), (151, .iload_n 1, 1, [], 0, 0), (152, .iload_n 2, 1, [], 0, 0), (153, .iload 6, 2, [], 0, 0), (155, .iload 4, 2, [], 0, 0), (157, .invokevirtual 81, 3, [], 5, 0), (160, .iload 5, 2, [], 0, 0), (162, .ireturn, 1, [], 0, 0)])
def d_3 : MD := (⟨"ProRataBook", "matchIncoming", "(IIII)I"⟩, prog_1_method_3_code, 10, some .int, 2, 4, 0, 3, 55, [(0, .iload 4, 2, [], 0, 0), (2, .istore 5, 2, [], 0, 0), (4, .iconst 1, 1, [], 0, 0), (5, .iload_n 2, 1, [], 0, 0), (6, .isub, 1, [], 0, 0), (7, .istore 6, 2, [], 0, 0), (9, .iconst 0, 1, [], 0, 0), (10, .istore 7, 2, [], 0, 0), (12, .iload 7, 2, [false, false, false, false, true, false, false, false, true, true], 0, 0), (14, .bipush 64, 2, [], 0, 0), (16, .if_icmp .gt 82, 3, [], 0, 0), (19, .iload 5, 2, [], 0, 0), (21, .ifCond .le 77, 3, [], 0, 0), (24, .aload_n 0, 1, [], 0, 0), (25, .iload 6, 2, [], 0, 0), (27, .invokevirtual 85, 3, [], 4, 0), (30, .istore 8, 2, [], 0, 0), (32, .iload 8, 2, [], 0, 0), (34, .ifCond .ne 6, 3, [], 0, 0), (37, .goto 61, 3, [], 0, 0), (40, .aload_n 0, 1, [], 0, 0), (41, .iload_n 2, 1, [], 0, 0), (42, .iload_n 3, 1, [], 0, 0), (43, .iload 8, 2, [], 0, 0), (45, .invokevirtual 89, 3, [], 8, 0), (48, .ifCond .ne 6, 3, [], 0, 0), (51, .goto 47, 3, [], 0, 0), (54, .aload_n 0, 1, [], 0, 0), (55, .iload 6, 2, [], 0, 0), (57, .iload 8, 2, [], 0, 0), (59, .iload 5, 2, [], 0, 0), (61, .invokevirtual 93, 3, [], 9, 0), (64, .istore 9, 2, [], 0, 0), (66, .iload 9, 2, [], 0, 0), (68, .ifCond .gt 6, 3, [], 0, 0), (71, .goto 27, 3, [], 0, 0), (74, .iload 5, 2, [], 0, 0), (76, .iload 9, 2, [], 0, 0), (78, .isub, 1, [], 0, 0), (79, .istore 5, 2, [], 0, 0), (81, .aload_n 0, 1, [], 0, 0), (82, .getfield 19, 3, [], 3, 0), (85, .iload_n 1, 1, [], 0, 0), (86, .dup2, 1, [], 0, 0), (87, .iaload, 1, [], 0, 0), (88, .iload 9, 2, [], 0, 0), (90, .iadd, 1, [], 0, 0), (91, .iastore, 1, [], 0, 0), (92, .iinc 7 1, 3, [], 0, 0), (95, .goto (-83), 3, [], 0, 0), (98, .iload 5, 2, [], 0, 0), (100, .ireturn, 1, [], 0, 0)])
def d_4 : MD := (⟨"ProRataBook", "bestOf", "(I)I"⟩, prog_1_method_18_code, 6, some .int, 2, 1, 0, 1, 15, [(0, .iconst 0, 1, [], 0, 0), (1, .istore_n 2, 1, [], 0, 0), (2, .iconst 0, 1, [], 0, 0), (3, .istore_n 3, 1, [], 0, 0), (4, .iload_n 3, 1, [false, false, false, false, true, true], 0, 0), (5, .aload_n 0, 1, [], 0, 0), (6, .getfield 68, 3, [], 18, 0), (9, .if_icmp .ge 58, 3, [], 0, 0), (12, .aload_n 0, 1, [], 0, 0), (13, .getfield 33, 3, [], 7, 0), (16, .iload_n 3, 1, [], 0, 0), (17, .iaload, 1, [], 0, 0), (18, .istore 4, 2, [], 0, 0), (20, .aload_n 0, 1, [], 0, 0), (21, .getfield 7, 3, [], 0, 0), (24, .iload 4, 2, [], 0, 0), (26, .iaload, 1, [], 0, 0), (27, .iload_n 1, 1, [], 0, 0), (28, .if_icmp .eq 6, 3, [], 0, 0), (31, .goto 30, 3, [], 0, 0), (34, .aload_n 0, 1, [], 0, 0), (35, .getfield 13, 3, [], 1, 0), (38, .iload 4, 2, [], 0, 0), (40, .iaload, 1, [], 0, 0), (41, .istore 5, 2, [], 0, 0), (43, .iload_n 2, 1, [], 0, 0), (44, .ifCond .eq 14, 3, [], 0, 0), (47, .aload_n 0, 1, [], 0, 0), (48, .iload_n 1, 1, [], 0, 0), (49, .iload 5, 2, [], 0, 0), (51, .iload_n 2, 1, [], 0, 0), (52, .invokevirtual 97, 3, [], 7, 0), (55, .ifCond .eq 6, 3, [], 0, 0), (58, .iload 5, 2, [], 0, 0), (60, .istore_n 2, 1, [], 0, 0), (61, .iinc 3 1, 3, [], 0, 0), (64, .goto (-60), 3, [], 0, 0), (67, .iload_n 2, 1, [], 0, 0), (68, .ireturn, 1, [], 0, 0)])
def d_5 : MD := (⟨"ProRataBook", "finishIncoming", "(IIIII)V"⟩, prog_1_method_4_code, 8, none, 2, 5, 0, 2, 32, [(0, .iload 4, 2, [], 0, 0), (2, .ifCond .ne 18, 3, [], 0, 0), (5, .aload_n 0, 1, [], 0, 0), (6, .getfield 22, 3, [], 4, 0), (9, .iload_n 1, 1, [], 0, 0), (10, .iconst 2, 1, [], 0, 0), (11, .iastore, 1, [], 0, 0), (12, .aload_n 0, 1, [], 0, 0), (13, .getfield 16, 3, [], 2, 0), (16, .iload_n 1, 1, [], 0, 0), (17, .iconst 0, 1, [], 0, 0), (18, .iastore, 1, [], 0, 0), (19, .return_, 1, [], 0, 0), (20, .iload 5, 2, [], 0, 0), (22, .iconst 1, 1, [], 0, 0), (23, .if_icmp .eq 12, 3, [], 0, 0), (26, .aload_n 0, 1, [], 0, 0), (27, .getfield 68, 3, [], 18, 0), (30, .bipush 64, 2, [], 0, 0), (32, .if_icmp .lt 18, 3, [], 0, 0), (35, .aload_n 0, 1, [false, false, true, true, true, true, true, true], 0, 0), (36, .getfield 22, 3, [], 4, 0), (39, .iload_n 1, 1, [], 0, 0), (40, .iconst 4, 1, [], 0, 0), (41, .iastore, 1, [], 0, 0), (42, .aload_n 0, 1, [], 0, 0), (43, .getfield 16, 3, [], 2, 0), (46, .iload_n 1, 1, [], 0, 0), (47, .iconst 0, 1, [], 0, 0), (48, .iastore, 1, [], 0, 0), (49, .return_, 1, [], 0, 0), (50, .aload_n 0, 1, [], 0, 0), (51, .iload_n 2, 1, [], 0, 0), (52, .invokevirtual 85, 3, [], 4, 0), (55, .istore 6, 2, [], 0, 0), (57, .iload 6, 2, [], 0, 0), (59, .ifCond .eq 14, 3, [], 0, 0), (62, .aload_n 0, 1, [], 0, 0), (63, .iload_n 2, 1, [], 0, 0), (64, .iload_n 3, 1, [], 0, 0), (65, .iload 6, 2, [], 0, 0), (67, .invokevirtual 97, 3, [], 7, 0), (70, .ifCond .eq 7, 3, [], 0, 0), (73, .iconst 1, 1, [], 0, 0), (74, .goto 4, 3, [], 0, 0), (77, .iconst 0, 1, [], 0, 0), (78, .istore 7, 2, [false, false, false, true, false, true, true, true], 0, 0), (80, .iload 7, 2, [], 0, 0), (82, .ifCond .eq 8, 3, [], 0, 0), (85, .aload_n 0, 1, [], 0, 0), (86, .iload_n 2, 1, [], 0, 0), (87, .invokevirtual 100, 3, [], 6, 0), (90, .aload_n 0, 1, [false, false, true, true, false, true, true], 0, 0), (91, .dup, 1, [], 0, 0), (92, .getfield 64, 3, [], 17, 0), (95, .lconst 1, 1, [], 0, 0), (96, .ladd, 1, [], 0, 0), (97, .putfield 64, 3, [], 17, 0), (100, .aload_n 0, 1, [], 0, 0), (101, .getfield 25, 3, [], 5, 0), (104, .iload_n 1, 1, [], 0, 0), (105, .aload_n 0, 1, [], 0, 0), (106, .getfield 64, 3, [], 17, 0), (109, .lastore, 1, [], 0, 0), (110, .aload_n 0, 1, [], 0, 0), (111, .getfield 16, 3, [], 2, 0), (114, .iload_n 1, 1, [], 0, 0), (115, .iload 4, 2, [], 0, 0), (117, .iastore, 1, [], 0, 0), (118, .aload_n 0, 1, [], 0, 0), (119, .getfield 22, 3, [], 4, 0), (122, .iload_n 1, 1, [], 0, 0), (123, .iconst 1, 1, [], 0, 0), (124, .iastore, 1, [], 0, 0), (125, .aload_n 0, 1, [], 0, 0), (126, .getfield 29, 3, [], 6, 0), (129, .iload_n 1, 1, [], 0, 0), (130, .iload 7, 2, [], 0, 0), (132, .bastore, 1, [], 0, 0), (133, .aload_n 0, 1, [], 0, 0), (134, .getfield 33, 3, [], 7, 0), (137, .aload_n 0, 1, [], 0, 0), (138, .getfield 68, 3, [], 18, 0), (141, .iload_n 1, 1, [], 0, 0), (142, .iastore, 1, [], 0, 0), (143, .aload_n 0, 1, [], 0, 0), (144, .dup, 1, [], 0, 0), (145, .getfield 68, 3, [], 18, 0), (148, .iconst 1, 1, [], 0, 0), (149, .iadd, 1, [], 0, 0), (150, .putfield 68, 3, [], 18, 0), (153, .return_, 1, [], 0, 0)])
def d_6 : MD := (⟨"ProRataBook", "clearFlags", "(I)V"⟩, prog_1_method_5_code, 4, none, 2, 1, 0, 0, 0, [(0, .iconst 0, 1, [], 0, 0), (1, .istore_n 2, 1, [], 0, 0), (2, .iload_n 2, 1, [false, false, false, true], 0, 0), (3, .aload_n 0, 1, [], 0, 0), (4, .getfield 68, 3, [], 18, 0), (7, .if_icmp .ge 33, 3, [], 0, 0), (10, .aload_n 0, 1, [], 0, 0), (11, .getfield 33, 3, [], 7, 0), (14, .iload_n 2, 1, [], 0, 0), (15, .iaload, 1, [], 0, 0), (16, .istore_n 3, 1, [], 0, 0), (17, .aload_n 0, 1, [], 0, 0), (18, .getfield 7, 3, [], 0, 0), (21, .iload_n 3, 1, [], 0, 0), (22, .iaload, 1, [], 0, 0), (23, .iload_n 1, 1, [], 0, 0), (24, .if_icmp .ne 10, 3, [], 0, 0), (27, .aload_n 0, 1, [], 0, 0), (28, .getfield 29, 3, [], 6, 0), (31, .iload_n 3, 1, [], 0, 0), (32, .iconst 0, 1, [], 0, 0), (33, .bastore, 1, [], 0, 0), (34, .iinc 2 1, 3, [], 0, 0), (37, .goto (-35), 3, [], 0, 0), (40, .return_, 1, [], 0, 0)])
def d_7 : MD := (⟨"ProRataBook", "better", "(III)Z"⟩, prog_1_method_7_code, 4, some .boolean, 2, 3, 0, 0, 0, [(0, .iload_n 1, 1, [], 0, 0), (1, .ifCond .ne 14, 3, [], 0, 0), (4, .iload_n 2, 1, [], 0, 0), (5, .iload_n 3, 1, [], 0, 0), (6, .if_icmp .le 7, 3, [], 0, 0), (9, .iconst 1, 1, [], 0, 0), (10, .goto 4, 3, [], 0, 0), (13, .iconst 0, 1, [], 0, 0), (14, .ireturn, 1, [], 0, 0), (15, .iload_n 2, 1, [], 0, 0), (16, .iload_n 3, 1, [], 0, 0), (17, .if_icmp .ge 7, 3, [], 0, 0), (20, .iconst 1, 1, [], 0, 0), (21, .goto 4, 3, [], 0, 0), (24, .iconst 0, 1, [], 0, 0), (25, .ireturn, 1, [], 0, 0)])
def d_8 : MD := (⟨"ProRataBook", "crosses", "(III)Z"⟩, prog_1_method_6_code, 4, some .boolean, 2, 3, 0, 0, 0, [(0, .iload_n 1, 1, [], 0, 0), (1, .ifCond .ne 14, 3, [], 0, 0), (4, .iload_n 3, 1, [], 0, 0), (5, .iload_n 2, 1, [], 0, 0), (6, .if_icmp .gt 7, 3, [], 0, 0), (9, .iconst 1, 1, [], 0, 0), (10, .goto 4, 3, [], 0, 0), (13, .iconst 0, 1, [], 0, 0), (14, .ireturn, 1, [], 0, 0), (15, .iload_n 3, 1, [], 0, 0), (16, .iload_n 2, 1, [], 0, 0), (17, .if_icmp .lt 7, 3, [], 0, 0), (20, .iconst 1, 1, [], 0, 0), (21, .goto 4, 3, [], 0, 0), (24, .iconst 0, 1, [], 0, 0), (25, .ireturn, 1, [], 0, 0)])
def d_9 : MD := (⟨"ProRataBook", "matchLevel", "(III)I"⟩, prog_1_method_8_code, 6, some .int, 2, 3, 0, 2, 38, [(0, .aload_n 0, 1, [], 0, 0), (1, .iload_n 1, 1, [], 0, 0), (2, .iload_n 2, 1, [], 0, 0), (3, .invokevirtual 104, 3, [], 10, 0), (6, .aload_n 0, 1, [], 0, 0), (7, .invokevirtual 108, 3, [], 11, 0), (10, .iconst 0, 1, [], 0, 0), (11, .istore 4, 2, [], 0, 0), (13, .iload 4, 2, [false, true, false, false, false, true], 0, 0), (15, .aload_n 0, 1, [], 0, 0), (16, .getfield 74, 3, [], 20, 0), (19, .if_icmp .ge 40, 3, [], 0, 0), (22, .aload_n 0, 1, [], 0, 0), (23, .getfield 45, 3, [], 11, 0), (26, .iload 4, 2, [], 0, 0), (28, .iaload, 1, [], 0, 0), (29, .istore 5, 2, [], 0, 0), (31, .aload_n 0, 1, [], 0, 0), (32, .getfield 48, 3, [], 12, 0), (35, .iload 4, 2, [], 0, 0), (37, .aload_n 0, 1, [], 0, 0), (38, .getfield 16, 3, [], 2, 0), (41, .iload 5, 2, [], 0, 0), (43, .iaload, 1, [], 0, 0), (44, .iastore, 1, [], 0, 0), (45, .aload_n 0, 1, [], 0, 0), (46, .getfield 51, 3, [], 13, 0), (49, .iload 4, 2, [], 0, 0), (51, .iconst 0, 1, [], 0, 0), (52, .iastore, 1, [], 0, 0), (53, .iinc 4 1, 3, [], 0, 0), (56, .goto (-43), 3, [], 0, 0), (59, .aload_n 0, 1, [false, true, false, false, true, true], 0, 0), (60, .iload_n 3, 1, [], 0, 0), (61, .invokevirtual 111, 3, [], 12, 0), (64, .istore 4, 2, [], 0, 0), (66, .aload_n 0, 1, [], 0, 0), (67, .iload_n 2, 1, [], 0, 0), (68, .invokevirtual 114, 3, [], 15, 0), (71, .iload 4, 2, [], 0, 0), (73, .ireturn, 1, [], 0, 0)])
def d_10 : MD := (⟨"ProRataBook", "gatherLevel", "(II)V"⟩, prog_1_method_9_code, 5, none, 2, 2, 0, 0, 0, [(0, .aload_n 0, 1, [], 0, 0), (1, .iconst 0, 1, [], 0, 0), (2, .putfield 74, 3, [], 20, 0), (5, .iconst 0, 1, [], 0, 0), (6, .istore_n 3, 1, [], 0, 0), (7, .iload_n 3, 1, [false, false, false, false, true], 0, 0), (8, .aload_n 0, 1, [], 0, 0), (9, .getfield 68, 3, [], 18, 0), (12, .if_icmp .ge 69, 3, [], 0, 0), (15, .aload_n 0, 1, [], 0, 0), (16, .getfield 33, 3, [], 7, 0), (19, .iload_n 3, 1, [], 0, 0), (20, .iaload, 1, [], 0, 0), (21, .istore 4, 2, [], 0, 0), (23, .aload_n 0, 1, [], 0, 0), (24, .getfield 7, 3, [], 0, 0), (27, .iload 4, 2, [], 0, 0), (29, .iaload, 1, [], 0, 0), (30, .iload_n 1, 1, [], 0, 0), (31, .if_icmp .ne 44, 3, [], 0, 0), (34, .aload_n 0, 1, [], 0, 0), (35, .getfield 13, 3, [], 1, 0), (38, .iload 4, 2, [], 0, 0), (40, .iaload, 1, [], 0, 0), (41, .iload_n 2, 1, [], 0, 0), (42, .if_icmp .ne 33, 3, [], 0, 0), (45, .aload_n 0, 1, [], 0, 0), (46, .getfield 74, 3, [], 20, 0), (49, .bipush 64, 2, [], 0, 0), (51, .if_icmp .ge 24, 3, [], 0, 0), (54, .aload_n 0, 1, [], 0, 0), (55, .getfield 45, 3, [], 11, 0), (58, .aload_n 0, 1, [], 0, 0), (59, .getfield 74, 3, [], 20, 0), (62, .iload 4, 2, [], 0, 0), (64, .iastore, 1, [], 0, 0), (65, .aload_n 0, 1, [], 0, 0), (66, .dup, 1, [], 0, 0), (67, .getfield 74, 3, [], 20, 0), (70, .iconst 1, 1, [], 0, 0), (71, .iadd, 1, [], 0, 0), (72, .putfield 74, 3, [], 20, 0), (75, .iinc 3 1, 3, [], 0, 0), (78, .goto (-71), 3, [], 0, 0), (81, .return_, 1, [], 0, 0)])
def d_11 : MD := (⟨"ProRataBook", "sortLevel", "()V"⟩, prog_1_method_10_code, 6, none, 2, 0, 0, 0, 0, [(0, .iconst 1, 1, [], 0, 0), (1, .istore_n 1, 1, [], 0, 0), (2, .iload_n 1, 1, [false, false, true, true, true, true], 0, 0), (3, .aload_n 0, 1, [], 0, 0), (4, .getfield 74, 3, [], 20, 0), (7, .if_icmp .ge 80, 3, [], 0, 0), (10, .aload_n 0, 1, [], 0, 0), (11, .getfield 45, 3, [], 11, 0), (14, .iload_n 1, 1, [], 0, 0), (15, .iaload, 1, [], 0, 0), (16, .istore_n 2, 1, [], 0, 0), (17, .aload_n 0, 1, [], 0, 0), (18, .getfield 25, 3, [], 5, 0), (21, .iload_n 2, 1, [], 0, 0), (22, .laload, 1, [], 0, 0), (23, .lstore_n 3, 1, [], 0, 0), (24, .iload_n 1, 1, [], 0, 0), (25, .istore 5, 2, [], 0, 0), (27, .iload 5, 2, [], 0, 0), (29, .ifCond .le 44, 3, [], 0, 0), (32, .aload_n 0, 1, [], 0, 0), (33, .getfield 25, 3, [], 5, 0), (36, .aload_n 0, 1, [], 0, 0), (37, .getfield 45, 3, [], 11, 0), (40, .iload 5, 2, [], 0, 0), (42, .iconst 1, 1, [], 0, 0), (43, .isub, 1, [], 0, 0), (44, .iaload, 1, [], 0, 0), (45, .laload, 1, [], 0, 0), (46, .lload_n 3, 1, [], 0, 0), (47, .lcmp, 1, [], 0, 0), (48, .ifCond .le 25, 3, [], 0, 0), (51, .aload_n 0, 1, [], 0, 0), (52, .getfield 45, 3, [], 11, 0), (55, .iload 5, 2, [], 0, 0), (57, .aload_n 0, 1, [], 0, 0), (58, .getfield 45, 3, [], 11, 0), (61, .iload 5, 2, [], 0, 0), (63, .iconst 1, 1, [], 0, 0), (64, .isub, 1, [], 0, 0), (65, .iaload, 1, [], 0, 0), (66, .iastore, 1, [], 0, 0), (67, .iinc 5 (-1), 3, [], 0, 0), (70, .goto (-43), 3, [], 0, 0), (73, .aload_n 0, 1, [false, false, false, true, true], 0, 0), (74, .getfield 45, 3, [], 11, 0), (77, .iload 5, 2, [], 0, 0), (79, .iload_n 2, 1, [], 0, 0), (80, .iastore, 1, [], 0, 0), (81, .iinc 1 1, 3, [], 0, 0), (84, .goto (-82), 3, [], 0, 0), (87, .return_, 1, [], 0, 0)])
def d_12 : MD := (⟨"ProRataBook", "allocate", "(I)I"⟩, prog_1_method_11_code, 7, some .int, 2, 1, 0, 1, 20, [(0, .iconst 0, 1, [], 0, 0), (1, .istore_n 2, 1, [], 0, 0), (2, .iconst 0, 1, [], 0, 0), (3, .istore_n 3, 1, [], 0, 0), (4, .iload_n 3, 1, [false, false, false, false, true, true, true], 0, 0), (5, .aload_n 0, 1, [], 0, 0), (6, .getfield 74, 3, [], 20, 0), (9, .if_icmp .ge 18, 3, [], 0, 0), (12, .iload_n 2, 1, [], 0, 0), (13, .aload_n 0, 1, [], 0, 0), (14, .getfield 48, 3, [], 12, 0), (17, .iload_n 3, 1, [], 0, 0), (18, .iaload, 1, [], 0, 0), (19, .iadd, 1, [], 0, 0), (20, .istore_n 2, 1, [], 0, 0), (21, .iinc 3 1, 3, [], 0, 0), (24, .goto (-20), 3, [], 0, 0), (27, .iload_n 1, 1, [false, false, false, true, true, true, true], 0, 0), (28, .iload_n 2, 1, [], 0, 0), (29, .if_icmp .ge 7, 3, [], 0, 0), (32, .iload_n 1, 1, [], 0, 0), (33, .goto 4, 3, [], 0, 0), (36, .iload_n 2, 1, [], 0, 0), (37, .istore_n 3, 1, [false, true, true, true, true, true, true], 0, 0), (38, .aload_n 0, 1, [], 0, 0), (39, .iload_n 3, 1, [], 0, 0), (40, .invokevirtual 117, 3, [], 13, 0), (43, .istore 4, 2, [], 0, 0), (45, .iload_n 3, 1, [], 0, 0), (46, .iload 4, 2, [], 0, 0), (48, .isub, 1, [], 0, 0), (49, .istore 5, 2, [], 0, 0), (51, .iconst 0, 1, [], 0, 0), (52, .istore 6, 2, [], 0, 0), (54, .iload 5, 2, [], 0, 0), (56, .ifCond .le 11, 3, [], 0, 0), (59, .aload_n 0, 1, [], 0, 0), (60, .iload 5, 2, [], 0, 0), (62, .invokevirtual 120, 3, [], 27, 0), (65, .istore 6, 2, [], 0, 0), (67, .aload_n 0, 1, [false, true, true, false, true], 0, 0), (68, .iload 5, 2, [], 0, 0), (70, .iload 6, 2, [], 0, 0), (72, .isub, 1, [], 0, 0), (73, .invokevirtual 123, 3, [], 14, 0), (76, .iload_n 3, 1, [], 0, 0), (77, .ireturn, 1, [], 0, 0)])
def d_13 : MD := (⟨"ProRataBook", "topStep", "(I)I"⟩, prog_1_method_12_code, 5, some .int, 2, 1, 0, 0, 0, [(0, .aload_n 0, 1, [], 0, 0), (1, .getfield 58, 3, [], 15, 0), (4, .ifCond .gt 5, 3, [], 0, 0), (7, .iconst 0, 1, [], 0, 0), (8, .ireturn, 1, [], 0, 0), (9, .iconst 0, 1, [], 0, 0), (10, .istore_n 2, 1, [], 0, 0), (11, .iload_n 2, 1, [false, false, false, true, true], 0, 0), (12, .aload_n 0, 1, [], 0, 0), (13, .getfield 74, 3, [], 20, 0), (16, .if_icmp .ge 84, 3, [], 0, 0), (19, .aload_n 0, 1, [], 0, 0), (20, .getfield 45, 3, [], 11, 0), (23, .iload_n 2, 1, [], 0, 0), (24, .iaload, 1, [], 0, 0), (25, .istore_n 3, 1, [], 0, 0), (26, .aload_n 0, 1, [], 0, 0), (27, .getfield 29, 3, [], 6, 0), (30, .iload_n 3, 1, [], 0, 0), (31, .baload, 1, [], 0, 0), (32, .ifCond .eq 62, 3, [], 0, 0), (35, .iload_n 1, 1, [false, false, false, true, true], 0, 0), (36, .istore 4, 2, [], 0, 0), (38, .aload_n 0, 1, [], 0, 0), (39, .getfield 48, 3, [], 12, 0), (42, .iload_n 2, 1, [], 0, 0), (43, .iaload, 1, [], 0, 0), (44, .iload 4, 2, [], 0, 0), (46, .if_icmp .ge 11, 3, [], 0, 0), (49, .aload_n 0, 1, [], 0, 0), (50, .getfield 48, 3, [], 12, 0), (53, .iload_n 2, 1, [], 0, 0), (54, .iaload, 1, [], 0, 0), (55, .istore 4, 2, [], 0, 0), (57, .aload_n 0, 1, [false, true, false, true], 0, 0), (58, .getfield 58, 3, [], 15, 0), (61, .iload 4, 2, [], 0, 0), (63, .if_icmp .ge 9, 3, [], 0, 0), (66, .aload_n 0, 1, [], 0, 0), (67, .getfield 58, 3, [], 15, 0), (70, .istore 4, 2, [], 0, 0), (72, .iload 4, 2, [false, true, false, true], 0, 0), (74, .ifCond .ge 6, 3, [], 0, 0), (77, .iconst 0, 1, [], 0, 0), (78, .istore 4, 2, [], 0, 0), (80, .aload_n 0, 1, [false, true, false, true], 0, 0), (81, .getfield 51, 3, [], 13, 0), (84, .iload_n 2, 1, [], 0, 0), (85, .dup2, 1, [], 0, 0), (86, .iaload, 1, [], 0, 0), (87, .iload 4, 2, [], 0, 0), (89, .iadd, 1, [], 0, 0), (90, .iastore, 1, [], 0, 0), (91, .iload 4, 2, [], 0, 0), (93, .ireturn, 1, [], 0, 0), (94, .iinc 2 1, 3, [], 0, 0), (97, .goto (-86), 3, [], 0, 0), (100, .iconst 0, 1, [], 0, 0), (101, .ireturn, 1, [], 0, 0)])
def d_14 : MD := (⟨"ProRataBook", "timeStep", "(I)V"⟩, prog_1_method_14_code, 6, none, 2, 1, 0, 0, 0, [(0, .iload_n 1, 1, [], 0, 0), (1, .istore_n 2, 1, [], 0, 0), (2, .iconst 0, 1, [], 0, 0), (3, .istore_n 3, 1, [], 0, 0), (4, .iload_n 3, 1, [false, true, false, false, true, true], 0, 0), (5, .aload_n 0, 1, [], 0, 0), (6, .getfield 74, 3, [], 20, 0), (9, .if_icmp .ge 63, 3, [], 0, 0), (12, .iload_n 2, 1, [], 0, 0), (13, .ifCond .le 59, 3, [], 0, 0), (16, .aload_n 0, 1, [], 0, 0), (17, .getfield 48, 3, [], 12, 0), (20, .iload_n 3, 1, [], 0, 0), (21, .iaload, 1, [], 0, 0), (22, .aload_n 0, 1, [], 0, 0), (23, .getfield 51, 3, [], 13, 0), (26, .iload_n 3, 1, [], 0, 0), (27, .iaload, 1, [], 0, 0), (28, .isub, 1, [], 0, 0), (29, .istore 4, 2, [], 0, 0), (31, .iload_n 2, 1, [], 0, 0), (32, .iload 4, 2, [], 0, 0), (34, .if_icmp .ge 7, 3, [], 0, 0), (37, .iload_n 2, 1, [], 0, 0), (38, .goto 5, 3, [], 0, 0), (41, .iload 4, 2, [], 0, 0), (43, .istore 5, 2, [false, true, false, false, true, true], 0, 0), (45, .iload 5, 2, [], 0, 0), (47, .ifCond .le 19, 3, [], 0, 0), (50, .aload_n 0, 1, [], 0, 0), (51, .getfield 51, 3, [], 13, 0), (54, .iload_n 3, 1, [], 0, 0), (55, .dup2, 1, [], 0, 0), (56, .iaload, 1, [], 0, 0), (57, .iload 5, 2, [], 0, 0), (59, .iadd, 1, [], 0, 0), (60, .iastore, 1, [], 0, 0), (61, .iload_n 2, 1, [], 0, 0), (62, .iload 5, 2, [], 0, 0), (64, .isub, 1, [], 0, 0), (65, .istore_n 2, 1, [], 0, 0), (66, .iinc 3 1, 3, [], 0, 0), (69, .goto (-65), 3, [], 0, 0), (72, .return_, 1, [], 0, 0)])
def d_15 : MD := (⟨"ProRataBook", "applyLevel", "(I)V"⟩, prog_1_method_15_code, 5, none, 2, 1, 0, 1, 14, [(0, .iconst 0, 1, [], 0, 0), (1, .istore_n 2, 1, [], 0, 0), (2, .iload_n 2, 1, [false, false, false, true, true], 0, 0), (3, .aload_n 0, 1, [], 0, 0), (4, .getfield 74, 3, [], 20, 0), (7, .if_icmp .ge 143, 3, [], 0, 0), (10, .aload_n 0, 1, [], 0, 0), (11, .getfield 51, 3, [], 13, 0), (14, .iload_n 2, 1, [], 0, 0), (15, .iaload, 1, [], 0, 0), (16, .istore_n 3, 1, [], 0, 0), (17, .iload_n 3, 1, [], 0, 0), (18, .ifCond .gt 6, 3, [], 0, 0), (21, .goto 123, 3, [], 0, 0), (24, .aload_n 0, 1, [], 0, 0), (25, .getfield 45, 3, [], 11, 0), (28, .iload_n 2, 1, [], 0, 0), (29, .iaload, 1, [], 0, 0), (30, .istore 4, 2, [], 0, 0), (32, .aload_n 0, 1, [], 0, 0), (33, .getfield 71, 3, [], 19, 0), (36, .bipush 64, 2, [], 0, 0), (38, .if_icmp .ge 44, 3, [], 0, 0), (41, .aload_n 0, 1, [], 0, 0), (42, .getfield 36, 3, [], 8, 0), (45, .aload_n 0, 1, [], 0, 0), (46, .getfield 71, 3, [], 19, 0), (49, .iload 4, 2, [], 0, 0), (51, .iastore, 1, [], 0, 0), (52, .aload_n 0, 1, [], 0, 0), (53, .getfield 42, 3, [], 10, 0), (56, .aload_n 0, 1, [], 0, 0), (57, .getfield 71, 3, [], 19, 0), (60, .iload_n 1, 1, [], 0, 0), (61, .iastore, 1, [], 0, 0), (62, .aload_n 0, 1, [], 0, 0), (63, .getfield 39, 3, [], 9, 0), (66, .aload_n 0, 1, [], 0, 0), (67, .getfield 71, 3, [], 19, 0), (70, .iload_n 3, 1, [], 0, 0), (71, .iastore, 1, [], 0, 0), (72, .aload_n 0, 1, [], 0, 0), (73, .dup, 1, [], 0, 0), (74, .getfield 71, 3, [], 19, 0), (77, .iconst 1, 1, [], 0, 0), (78, .iadd, 1, [], 0, 0), (79, .putfield 71, 3, [], 19, 0), (82, .aload_n 0, 1, [], 0, 0), (83, .getfield 16, 3, [], 2, 0), (86, .iload 4, 2, [], 0, 0), (88, .dup2, 1, [], 0, 0), (89, .iaload, 1, [], 0, 0), (90, .iload_n 3, 1, [], 0, 0), (91, .isub, 1, [], 0, 0), (92, .iastore, 1, [], 0, 0), (93, .aload_n 0, 1, [], 0, 0), (94, .getfield 19, 3, [], 3, 0), (97, .iload 4, 2, [], 0, 0), (99, .dup2, 1, [], 0, 0), (100, .iaload, 1, [], 0, 0), (101, .iload_n 3, 1, [], 0, 0), (102, .iadd, 1, [], 0, 0), (103, .iastore, 1, [], 0, 0), (104, .aload_n 0, 1, [], 0, 0), (105, .getfield 16, 3, [], 2, 0), (108, .iload 4, 2, [], 0, 0), (110, .iaload, 1, [], 0, 0), (111, .ifCond .gt 33, 3, [], 0, 0), (114, .aload_n 0, 1, [], 0, 0), (115, .getfield 16, 3, [], 2, 0), (118, .iload 4, 2, [], 0, 0), (120, .iconst 0, 1, [], 0, 0), (121, .iastore, 1, [], 0, 0), (122, .aload_n 0, 1, [], 0, 0), (123, .getfield 22, 3, [], 4, 0), (126, .iload 4, 2, [], 0, 0), (128, .iconst 2, 1, [], 0, 0), (129, .iastore, 1, [], 0, 0), (130, .aload_n 0, 1, [], 0, 0), (131, .getfield 29, 3, [], 6, 0), (134, .iload 4, 2, [], 0, 0), (136, .iconst 0, 1, [], 0, 0), (137, .bastore, 1, [], 0, 0), (138, .aload_n 0, 1, [], 0, 0), (139, .iload 4, 2, [], 0, 0), (141, .invokevirtual 126, 3, [], 28, 0), (144, .iinc 2 1, 3, [], 0, 0), (147, .goto (-145), 3, [], 0, 0), (150, .return_, 1, [], 0, 0)])
def d_16 : MD := (⟨"ProRataBook", "fillCount", "()I"⟩, prog_1_method_30_code, 1, some .int, 3, 0, 0, 0, 0, [(0, .aload_n 0, 1, [], 0, 0), (1, .getfield 71, 3, [], 19, 0), (4, .ireturn, 1, [], 0, 0)])
def d_17 : MD := (⟨"ProRataBook", "fillId", "(I)I"⟩, prog_1_method_31_code, 2, some .int, 3, 1, 0, 0, 0, [(0, .iload_n 1, 1, [], 0, 0), (1, .ifCond .lt 11, 3, [], 0, 0), (4, .iload_n 1, 1, [], 0, 0), (5, .aload_n 0, 1, [], 0, 0), (6, .getfield 71, 3, [], 19, 0), (9, .if_icmp .lt 5, 3, [], 0, 0), (12, .iconst 0, 1, [], 0, 0), (13, .ireturn, 1, [], 0, 0), (14, .aload_n 0, 1, [], 0, 0), (15, .getfield 36, 3, [], 8, 0), (18, .iload_n 1, 1, [], 0, 0), (19, .iaload, 1, [], 0, 0), (20, .ireturn, 1, [], 0, 0)])
def d_18 : MD := (⟨"ProRataBook", "fillQty", "(I)I"⟩, prog_1_method_32_code, 2, some .int, 3, 1, 0, 0, 0, [(0, .iload_n 1, 1, [], 0, 0), (1, .ifCond .lt 11, 3, [], 0, 0), (4, .iload_n 1, 1, [], 0, 0), (5, .aload_n 0, 1, [], 0, 0), (6, .getfield 71, 3, [], 19, 0), (9, .if_icmp .lt 5, 3, [], 0, 0), (12, .iconst 0, 1, [], 0, 0), (13, .ireturn, 1, [], 0, 0), (14, .aload_n 0, 1, [], 0, 0), (15, .getfield 39, 3, [], 9, 0), (18, .iload_n 1, 1, [], 0, 0), (19, .iaload, 1, [], 0, 0), (20, .ireturn, 1, [], 0, 0)])
def d_19 : MD := (⟨"ProRataBook", "fillPrice", "(I)I"⟩, prog_1_method_33_code, 2, some .int, 3, 1, 0, 0, 0, [(0, .iload_n 1, 1, [], 0, 0), (1, .ifCond .lt 11, 3, [], 0, 0), (4, .iload_n 1, 1, [], 0, 0), (5, .aload_n 0, 1, [], 0, 0), (6, .getfield 71, 3, [], 19, 0), (9, .if_icmp .lt 5, 3, [], 0, 0), (12, .iconst 0, 1, [], 0, 0), (13, .ireturn, 1, [], 0, 0), (14, .aload_n 0, 1, [], 0, 0), (15, .getfield 42, 3, [], 10, 0), (18, .iload_n 1, 1, [], 0, 0), (19, .iaload, 1, [], 0, 0), (20, .ireturn, 1, [], 0, 0)])
def d_20 : MD := (⟨"ProRataBook", "remaining", "(I)I"⟩, prog_1_method_22_code, 2, some .int, 3, 1, 0, 1, 13, [(0, .aload_n 0, 1, [], 0, 0), (1, .iload_n 1, 1, [], 0, 0), (2, .invokevirtual 129, 3, [], 21, 0), (5, .ifCond .ne 5, 3, [], 0, 0), (8, .iconst 0, 1, [], 0, 0), (9, .ireturn, 1, [], 0, 0), (10, .aload_n 0, 1, [], 0, 0), (11, .getfield 16, 3, [], 2, 0), (14, .iload_n 1, 1, [], 0, 0), (15, .iaload, 1, [], 0, 0), (16, .ireturn, 1, [], 0, 0)])
def d_21 : MD := (⟨"ProRataBook", "isResting", "(I)Z"⟩, prog_1_method_17_code, 2, some .boolean, 2, 1, 0, 0, 0, [(0, .iload_n 1, 1, [], 0, 0), (1, .iconst 1, 1, [], 0, 0), (2, .if_icmp .lt 25, 3, [], 0, 0), (5, .iload_n 1, 1, [], 0, 0), (6, .aload_n 0, 1, [], 0, 0), (7, .getfield 61, 3, [], 16, 0), (10, .if_icmp .gt 17, 3, [], 0, 0), (13, .aload_n 0, 1, [], 0, 0), (14, .getfield 22, 3, [], 4, 0), (17, .iload_n 1, 1, [], 0, 0), (18, .iaload, 1, [], 0, 0), (19, .iconst 1, 1, [], 0, 0), (20, .if_icmp .ne 7, 3, [], 0, 0), (23, .iconst 1, 1, [], 0, 0), (24, .goto 4, 3, [], 0, 0), (27, .iconst 0, 1, [], 0, 0), (28, .ireturn, 1, [], 0, 0)])
def d_22 : MD := (⟨"ProRataBook", "status", "(I)I"⟩, prog_1_method_21_code, 2, some .int, 3, 1, 0, 0, 0, [(0, .iload_n 1, 1, [], 0, 0), (1, .iconst 1, 1, [], 0, 0), (2, .if_icmp .lt 11, 3, [], 0, 0), (5, .iload_n 1, 1, [], 0, 0), (6, .aload_n 0, 1, [], 0, 0), (7, .getfield 61, 3, [], 16, 0), (10, .if_icmp .le 5, 3, [], 0, 0), (13, .iconst 0, 1, [], 0, 0), (14, .ireturn, 1, [], 0, 0), (15, .aload_n 0, 1, [], 0, 0), (16, .getfield 22, 3, [], 4, 0), (19, .iload_n 1, 1, [], 0, 0), (20, .iaload, 1, [], 0, 0), (21, .ireturn, 1, [], 0, 0)])
def d_23 : MD := (⟨"ProRataBook", "isTop", "(I)Z"⟩, prog_1_method_24_code, 2, some .boolean, 3, 1, 0, 1, 13, [(0, .aload_n 0, 1, [], 0, 0), (1, .iload_n 1, 1, [], 0, 0), (2, .invokevirtual 129, 3, [], 21, 0), (5, .ifCond .eq 16, 3, [], 0, 0), (8, .aload_n 0, 1, [], 0, 0), (9, .getfield 29, 3, [], 6, 0), (12, .iload_n 1, 1, [], 0, 0), (13, .baload, 1, [], 0, 0), (14, .ifCond .eq 7, 3, [], 0, 0), (17, .iconst 1, 1, [], 0, 0), (18, .goto 4, 3, [], 0, 0), (21, .iconst 0, 1, [], 0, 0), (22, .ireturn, 1, [], 0, 0)])
def d_24 : MD := (⟨"ProRataBook", "filled", "(I)I"⟩, prog_1_method_23_code, 2, some .int, 3, 1, 0, 0, 0, [(0, .iload_n 1, 1, [], 0, 0), (1, .iconst 1, 1, [], 0, 0), (2, .if_icmp .lt 11, 3, [], 0, 0), (5, .iload_n 1, 1, [], 0, 0), (6, .aload_n 0, 1, [], 0, 0), (7, .getfield 61, 3, [], 16, 0), (10, .if_icmp .le 5, 3, [], 0, 0), (13, .iconst 0, 1, [], 0, 0), (14, .ireturn, 1, [], 0, 0), (15, .aload_n 0, 1, [], 0, 0), (16, .getfield 19, 3, [], 3, 0), (19, .iload_n 1, 1, [], 0, 0), (20, .iaload, 1, [], 0, 0), (21, .ireturn, 1, [], 0, 0)])
def d_25 : MD := (⟨"ProRataBook", "depthAt", "(II)I"⟩, prog_1_method_27_code, 6, some .int, 3, 2, 0, 0, 0, [(0, .iload_n 1, 1, [], 0, 0), (1, .ifCond .eq 10, 3, [], 0, 0), (4, .iload_n 1, 1, [], 0, 0), (5, .iconst 1, 1, [], 0, 0), (6, .if_icmp .eq 5, 3, [], 0, 0), (9, .iconst 0, 1, [], 0, 0), (10, .ireturn, 1, [], 0, 0), (11, .iload_n 2, 1, [false, false, false, true, true, true], 0, 0), (12, .iconst 1, 1, [], 0, 0), (13, .if_icmp .lt 10, 3, [], 0, 0), (16, .iload_n 2, 1, [], 0, 0), (17, .sipush 1000, 3, [], 0, 0), (20, .if_icmp .le 5, 3, [], 0, 0), (23, .iconst 0, 1, [], 0, 0), (24, .ireturn, 1, [], 0, 0), (25, .iconst 0, 1, [], 0, 0), (26, .istore_n 3, 1, [], 0, 0), (27, .iconst 0, 1, [], 0, 0), (28, .istore 4, 2, [], 0, 0), (30, .iload 4, 2, [false, false, false, false, false, true], 0, 0), (32, .aload_n 0, 1, [], 0, 0), (33, .getfield 68, 3, [], 18, 0), (36, .if_icmp .ge 50, 3, [], 0, 0), (39, .aload_n 0, 1, [], 0, 0), (40, .getfield 33, 3, [], 7, 0), (43, .iload 4, 2, [], 0, 0), (45, .iaload, 1, [], 0, 0), (46, .istore 5, 2, [], 0, 0), (48, .aload_n 0, 1, [], 0, 0), (49, .getfield 7, 3, [], 0, 0), (52, .iload 5, 2, [], 0, 0), (54, .iaload, 1, [], 0, 0), (55, .iload_n 1, 1, [], 0, 0), (56, .if_icmp .ne 24, 3, [], 0, 0), (59, .aload_n 0, 1, [], 0, 0), (60, .getfield 13, 3, [], 1, 0), (63, .iload 5, 2, [], 0, 0), (65, .iaload, 1, [], 0, 0), (66, .iload_n 2, 1, [], 0, 0), (67, .if_icmp .ne 13, 3, [], 0, 0), (70, .iload_n 3, 1, [], 0, 0), (71, .aload_n 0, 1, [], 0, 0), (72, .getfield 16, 3, [], 2, 0), (75, .iload 5, 2, [], 0, 0), (77, .iaload, 1, [], 0, 0), (78, .iadd, 1, [], 0, 0), (79, .istore_n 3, 1, [], 0, 0), (80, .iinc 4 1, 3, [], 0, 0), (83, .goto (-53), 3, [], 0, 0), (86, .iload_n 3, 1, [], 0, 0), (87, .ireturn, 1, [], 0, 0)])
def d_26 : MD := (⟨"ProRataBook", "bestPrice", "(I)I"⟩, prog_1_method_26_code, 2, some .int, 3, 1, 0, 2, 32, [(0, .iload_n 1, 1, [], 0, 0), (1, .ifCond .eq 10, 3, [], 0, 0), (4, .iload_n 1, 1, [], 0, 0), (5, .iconst 1, 1, [], 0, 0), (6, .if_icmp .eq 5, 3, [], 0, 0), (9, .iconst 0, 1, [], 0, 0), (10, .ireturn, 1, [], 0, 0), (11, .aload_n 0, 1, [], 0, 0), (12, .iload_n 1, 1, [], 0, 0), (13, .invokevirtual 85, 3, [], 4, 0), (16, .ireturn, 1, [], 0, 0)])
def d_27 : MD := (⟨"ProRataBook", "proRataStep", "(I)I"⟩, prog_1_method_13_code, 9, some .int, 2, 1, 0, 0, 0, [(0, .lconst 0, 1, [], 0, 0), (1, .lstore_n 2, 1, [], 0, 0), (2, .iconst 0, 1, [], 0, 0), (3, .istore 4, 2, [], 0, 0), (5, .iload 4, 2, [false, false, false, false, false, true, true, true, true], 0, 0), (7, .aload_n 0, 1, [], 0, 0), (8, .getfield 74, 3, [], 20, 0), (11, .if_icmp .ge 28, 3, [], 0, 0), (14, .lload_n 2, 1, [], 0, 0), (15, .aload_n 0, 1, [], 0, 0), (16, .getfield 48, 3, [], 12, 0), (19, .iload 4, 2, [], 0, 0), (21, .iaload, 1, [], 0, 0), (22, .aload_n 0, 1, [], 0, 0), (23, .getfield 51, 3, [], 13, 0), (26, .iload 4, 2, [], 0, 0), (28, .iaload, 1, [], 0, 0), (29, .isub, 1, [], 0, 0), (30, .i2l, 1, [], 0, 0), (31, .ladd, 1, [], 0, 0), (32, .lstore_n 2, 1, [], 0, 0), (33, .iinc 4 1, 3, [], 0, 0), (36, .goto (-31), 3, [], 0, 0), (39, .lload_n 2, 1, [false, false, false, false, true, true, true, true, true], 0, 0), (40, .lconst 0, 1, [], 0, 0), (41, .lcmp, 1, [], 0, 0), (42, .ifCond .gt 5, 3, [], 0, 0), (45, .iconst 0, 1, [], 0, 0), (46, .ireturn, 1, [], 0, 0), (47, .iconst 0, 1, [], 0, 0), (48, .istore 4, 2, [], 0, 0), (50, .iconst 0, 1, [], 0, 0), (51, .istore 5, 2, [], 0, 0), (53, .iload 5, 2, [false, false, false, false, false, false, true, true, true], 0, 0), (55, .aload_n 0, 1, [], 0, 0), (56, .getfield 74, 3, [], 20, 0), (59, .if_icmp .ge 68, 3, [], 0, 0), (62, .aload_n 0, 1, [], 0, 0), (63, .getfield 48, 3, [], 12, 0), (66, .iload 5, 2, [], 0, 0), (68, .iaload, 1, [], 0, 0), (69, .aload_n 0, 1, [], 0, 0), (70, .getfield 51, 3, [], 13, 0), (73, .iload 5, 2, [], 0, 0), (75, .iaload, 1, [], 0, 0), (76, .isub, 1, [], 0, 0), (77, .i2l, 1, [], 0, 0), (78, .lstore 6, 2, [], 0, 0), (80, .iload_n 1, 1, [], 0, 0), (81, .i2l, 1, [], 0, 0), (82, .lload 6, 2, [], 0, 0), (84, .lmul, 1, [], 0, 0), (85, .lload_n 2, 1, [], 0, 0), (86, .ldiv, 1, [], 0, 0), (87, .l2i, 1, [], 0, 0), (88, .istore 8, 2, [], 0, 0), (90, .iload 8, 2, [], 0, 0), (92, .aload_n 0, 1, [], 0, 0), (93, .getfield 54, 3, [], 14, 0), (96, .if_icmp .ge 6, 3, [], 0, 0), (99, .iconst 0, 1, [], 0, 0), (100, .istore 8, 2, [], 0, 0), (102, .aload_n 0, 1, [false, false, false, false, false, false, true, true], 0, 0), (103, .getfield 51, 3, [], 13, 0), (106, .iload 5, 2, [], 0, 0), (108, .dup2, 1, [], 0, 0), (109, .iaload, 1, [], 0, 0), (110, .iload 8, 2, [], 0, 0), (112, .iadd, 1, [], 0, 0), (113, .iastore, 1, [], 0, 0), (114, .iload 4, 2, [], 0, 0), (116, .iload 8, 2, [], 0, 0), (118, .iadd, 1, [], 0, 0), (119, .istore 4, 2, [], 0, 0), (121, .iinc 5 1, 3, [], 0, 0), (124, .goto (-71), 3, [], 0, 0), (127, .iload 4, 2, [], 0, 0), (129, .ireturn, 1, [], 0, 0)])
def d_28 : MD := (⟨"ProRataBook", "removeResting", "(I)V"⟩, prog_1_method_16_code, 3, none, 2, 1, 0, 0, 0, [(0, .iconst 0, 1, [], 0, 0), (1, .istore_n 2, 1, [], 0, 0), (2, .iload_n 2, 1, [], 0, 0), (3, .aload_n 0, 1, [], 0, 0), (4, .getfield 68, 3, [], 18, 0), (7, .if_icmp .ge 47, 3, [], 0, 0), (10, .aload_n 0, 1, [], 0, 0), (11, .getfield 33, 3, [], 7, 0), (14, .iload_n 2, 1, [], 0, 0), (15, .iaload, 1, [], 0, 0), (16, .iload_n 1, 1, [], 0, 0), (17, .if_icmp .ne 31, 3, [], 0, 0), (20, .aload_n 0, 1, [false, true], 0, 0), (21, .getfield 33, 3, [], 7, 0), (24, .iload_n 2, 1, [], 0, 0), (25, .aload_n 0, 1, [], 0, 0), (26, .getfield 33, 3, [], 7, 0), (29, .aload_n 0, 1, [], 0, 0), (30, .getfield 68, 3, [], 18, 0), (33, .iconst 1, 1, [], 0, 0), (34, .isub, 1, [], 0, 0), (35, .iaload, 1, [], 0, 0), (36, .iastore, 1, [], 0, 0), (37, .aload_n 0, 1, [], 0, 0), (38, .dup, 1, [], 0, 0), (39, .getfield 68, 3, [], 18, 0), (42, .iconst 1, 1, [], 0, 0), (43, .isub, 1, [], 0, 0), (44, .putfield 68, 3, [], 18, 0), (47, .return_, 1, [], 0, 0), (48, .iinc 2 1, 3, [], 0, 0), (51, .goto (-49), 3, [], 0, 0), (54, .return_, 1, [], 0, 0)])
def own_P : PD := ([("ProRataBook", 21, [("oSide", "[I", (.array .int), false), ("oPrice", "[I", (.array .int), false), ("oRem", "[I", (.array .int), false), ("oFilled", "[I", (.array .int), false), ("oStatus", "[I", (.array .int), false), ("oStamp", "[J", (.array .long), false), ("oTop", "[Z", (.array .boolean), false), ("restIds", "[I", (.array .int), false), ("fIds", "[I", (.array .int), false), ("fQty", "[I", (.array .int), false), ("fPrice", "[I", (.array .int), false), ("lvlIds", "[I", (.array .int), false), ("lvlR", "[I", (.array .int), false), ("lvlA", "[I", (.array .int), false), ("minAlloc", "I", .int, false), ("topCap", "I", .int, false), ("accepted", "I", .int, false), ("stampCounter", "J", .long, false), ("restN", "I", .int, false), ("fN", "I", .int, false), ("lvlN", "I", .int, false)])], [d_0, d_1, d_2, d_3, d_4, d_5, d_6, d_7, d_8, d_9, d_10, d_11, d_12, d_13, d_14, d_15, d_16, d_17, d_18, d_19, d_20, d_21, d_22, d_23, d_24, d_25, d_26, d_27, d_28], 0)
theorem hm_0 : own_P.mth[0]? = some d_0 := rfl
theorem hm_1 : own_P.mth[1]? = some d_1 := rfl
theorem hm_2 : own_P.mth[2]? = some d_2 := rfl
theorem hm_3 : own_P.mth[3]? = some d_3 := rfl
theorem hm_4 : own_P.mth[4]? = some d_4 := rfl
theorem hm_5 : own_P.mth[5]? = some d_5 := rfl
theorem hm_6 : own_P.mth[6]? = some d_6 := rfl
theorem hm_7 : own_P.mth[7]? = some d_7 := rfl
theorem hm_8 : own_P.mth[8]? = some d_8 := rfl
theorem hm_9 : own_P.mth[9]? = some d_9 := rfl
theorem hm_10 : own_P.mth[10]? = some d_10 := rfl
theorem hm_11 : own_P.mth[11]? = some d_11 := rfl
theorem hm_12 : own_P.mth[12]? = some d_12 := rfl
theorem hm_13 : own_P.mth[13]? = some d_13 := rfl
theorem hm_14 : own_P.mth[14]? = some d_14 := rfl
theorem hm_15 : own_P.mth[15]? = some d_15 := rfl
theorem hm_16 : own_P.mth[16]? = some d_16 := rfl
theorem hm_17 : own_P.mth[17]? = some d_17 := rfl
theorem hm_18 : own_P.mth[18]? = some d_18 := rfl
theorem hm_19 : own_P.mth[19]? = some d_19 := rfl
theorem hm_20 : own_P.mth[20]? = some d_20 := rfl
theorem hm_21 : own_P.mth[21]? = some d_21 := rfl
theorem hm_22 : own_P.mth[22]? = some d_22 := rfl
theorem hm_23 : own_P.mth[23]? = some d_23 := rfl
theorem hm_24 : own_P.mth[24]? = some d_24 := rfl
theorem hm_25 : own_P.mth[25]? = some d_25 := rfl
theorem hm_26 : own_P.mth[26]? = some d_26 := rfl
theorem hm_27 : own_P.mth[27]? = some d_27 := rfl
theorem hm_28 : own_P.mth[28]? = some d_28 := rfl
set_option maxRecDepth 100000 in
theorem own_chk : chk own_P = true := by decide +kernel
def own_ix : List Nat := [1, 2, 11, 13, 15, 17, 19, 22, 25, 27, 29, 31, 33, 35, 37, 39, 41, 43, 45, 47, 49, 51, 53, 5, 2, 4, 58, 2, 55, 57, 56, 62, 2, 60, 61, 66, 2, 64, 65, 70, 2, 68, 69, 74, 2, 72, 73, 78, 2, 76, 77, 82, 2, 80, 81, 86, 2, 84, 85, 90, 2, 88, 89, 94, 2, 92, 93, 98, 2, 96, 97, 102, 2, 100, 101, 106, 2, 104, 105, 110, 2, 108, 109, 115, 2, 112, 114, 113, 120, 2, 117, 119, 118, 125, 2, 122, 124, 123, 130, 2, 127, 129, 128, 135, 2, 132, 134, 133, 139, 2, 137, 138, 144, 2, 141, 143, 142, 149, 2, 146, 148, 147, 154, 2, 151, 153, 152, 159, 2, 156, 158, 157, 164, 2, 161, 163, 162, 168, 2, 166, 167, 172, 2, 170, 171, 0, 3, 54, 54, 54, 111, 116, 121, 126, 116, 121, 126, 131, 140, 145, 131, 140, 150, 150, 150, 140, 131, 155, 160, 6, 7, 8, 9, 10, 9, 12, 9, 14, 9, 16, 9, 18, 20, 21, 23, 24, 9, 26, 9, 28, 9, 30, 9, 32, 9, 34, 9, 36, 9, 38, 40, 42, 44, 46, 48, 50, 52, 44, 44, 44, 44, 50, 10, 12, 14, 16, 24, 21, 59, 67, 63, 79, 83, 16, 48, 26, 10, 12, 75, 18, 14, 48, 18, 14, 63, 75, 71, 46, 46, 21, 46, 14, 18, 24, 26, 48, 48, 48, 48, 26, 10, 24, 87, 91, 52, 34, 36, 14, 38, 95, 107, 52, 48, 26, 10, 12, 52, 34, 52, 52, 52, 52, 34, 21, 21, 34, 34, 34, 34, 52, 36, 99, 165, 103, 42, 52, 34, 24, 36, 36, 42, 42, 38, 52, 36, 38, 38, 52, 38, 34, 50, 28, 50, 32, 50, 30, 50, 50, 50, 14, 16, 14, 14, 18, 24, 169, 50, 50, 28, 50, 30, 50, 32, 136, 14, 44, 18, 44, 18, 136, 24, 44, 16, 48, 26, 10, 12, 14, 63, 52, 36, 38, 52, 36, 38, 40, 38, 48, 26, 26, 26, 48, 48, 48]
set_option maxRecDepth 100000 in
theorem own_words : (wordsOf own_P).map some = own_ix.map fun k => tables_1[k]? := rfl
theorem own_in : ∀ d ∈ wordsOf own_P, d ∈ tables_1 := fun d hd => by
  have h1 : some d ∈ (wordsOf own_P).map some := List.mem_map.mpr ⟨d, hd, rfl⟩
  rw [own_words] at h1
  obtain ⟨k, -, hk⟩ := List.mem_map.mp h1
  exact List.mem_of_getElem? hk
abbrev bk0 (s_oSide : List Int32) (s_oPrice : List Int32) (s_oRem : List Int32) (s_oFilled : List Int32) (s_oStatus : List Int32) (s_oStamp : List Int64) (s_oTop : List Int32) (s_restIds : List Int32) (s_fIds : List Int32) (s_fQty : List Int32) (s_fPrice : List Int32) (s_lvlIds : List Int32) (s_lvlR : List Int32) (s_lvlA : List Int32) (s_minAlloc : Int32) (s_topCap : Int32) (s_accepted : Int32) (s_stampCounter : Int64) (s_restN : Int32) (s_fN : Int32) (s_lvlN : Int32) (po : List ACell) : List ACell := .inl (0, [.ref 1, .ref 2, .ref 3, .ref 4, .ref 5, .ref 6, .ref 7, .ref 8, .ref 9, .ref 10, .ref 11, .ref 12, .ref 13, .ref 14, .int s_minAlloc, .int s_topCap, .int s_accepted, .long s_stampCounter, .int s_restN, .int s_fN, .int s_lvlN]) :: .inr (.inl (false, s_oSide)) :: .inr (.inl (false, s_oPrice)) :: .inr (.inl (false, s_oRem)) :: .inr (.inl (false, s_oFilled)) :: .inr (.inl (false, s_oStatus)) :: .inr (.inr s_oStamp) :: .inr (.inl (true, s_oTop)) :: .inr (.inl (false, s_restIds)) :: .inr (.inl (false, s_fIds)) :: .inr (.inl (false, s_fQty)) :: .inr (.inl (false, s_fPrice)) :: .inr (.inl (false, s_lvlIds)) :: .inr (.inl (false, s_lvlR)) :: .inr (.inl (false, s_lvlA)) :: po
def f_init_165 (zh zi zp zt zm : List Int32) (zo : List Int64) (zf zc zs zq zr ze zg zd : List Int32) (zl zj zk : Int32) (zu : Int64) (zb zn za v3 v4 : Int32) : Option (List Int32 × List Int32 × List Int32 × List Int32 × List Int32 × List Int64 × List Int32 × List Int32 × List Int32 × List Int32 × List Int32 × List Int32 × List Int32 × List Int32 × Int32 × Int32 × Int32 × Int64 × Int32 × Int32 × Int32) :=
  some (zh, zi, zp, zt, zm, zo, zf, zc, zs, zq, zr, ze, zg, zd, v3, v4, (0 : Int32), (0 : Int64), (0 : Int32), (0 : Int32), (0 : Int32))
def f_init_152 (zh zi zp zt zm : List Int32) (zo : List Int64) (zf zc zs zq zr ze zg zd : List Int32) (zl zj zk : Int32) (zu : Int64) (zb zn za v3 v4 : Int32) : Option (List Int32 × List Int32 × List Int32 × List Int32 × List Int32 × List Int64 × List Int32 × List Int32 × List Int32 × List Int32 × List Int32 × List Int32 × List Int32 × List Int32 × Int32 × Int32 × Int32 × Int64 × Int32 × Int32 × Int32) :=
  f_init_165 zh zi zp zt zm zo zf zc zs zq zr ze zg zd zl zj zk zu zb zn za v3 (if (10000 : Int32) < v4 then (10000 : Int32) else v4)
def f_init_141 (zh zi zp zt zm : List Int32) (zo : List Int64) (zf zc zs zq zr ze zg zd : List Int32) (zl zj zk : Int32) (zu : Int64) (zb zn za v2 v3 : Int32) : Option (List Int32 × List Int32 × List Int32 × List Int32 × List Int32 × List Int64 × List Int32 × List Int32 × List Int32 × List Int32 × List Int32 × List Int32 × List Int32 × List Int32 × Int32 × Int32 × Int32 × Int64 × Int32 × Int32 × Int32) :=
  f_init_152 zh zi zp zt zm zo zf zc zs zq zr ze zg zd zl zj zk zu zb zn za v3 (if v2 < (0 : Int32) then (0 : Int32) else v2)
def f_init_132 (zh zi zp zt zm : List Int32) (zo : List Int64) (zf zc zs zq zr ze zg zd : List Int32) (zl zj zk : Int32) (zu : Int64) (zb zn za v2 v3 : Int32) : Option (List Int32 × List Int32 × List Int32 × List Int32 × List Int32 × List Int64 × List Int32 × List Int32 × List Int32 × List Int32 × List Int32 × List Int32 × List Int32 × List Int32 × Int32 × Int32 × Int32 × Int64 × Int32 × Int32 × Int32) :=
  f_init_141 zh zi zp zt zm zo zf zc zs zq zr ze zg zd zl zj zk zu zb zn za v2 (if (100 : Int32) < v3 then (100 : Int32) else v3)
def f_init (v1 v2 : Int32) : Option (List Int32 × List Int32 × List Int32 × List Int32 × List Int32 × List Int64 × List Int32 × List Int32 × List Int32 × List Int32 × List Int32 × List Int32 × List Int32 × List Int32 × Int32 × Int32 × Int32 × Int64 × Int32 × Int32 × Int32) :=
  f_init_132 (List.replicate 256 0) (List.replicate 256 0) (List.replicate 256 0) (List.replicate 256 0) (List.replicate 256 0) (List.replicate 256 0) (List.replicate 256 0) (List.replicate 64 0) (List.replicate 64 0) (List.replicate 64 0) (List.replicate 64 0) (List.replicate 64 0) (List.replicate 64 0) (List.replicate 64 0) (0 : Int32) (0 : Int32) (0 : Int32) (0 : Int64) (0 : Int32) (0 : Int32) (0 : Int32) v2 (if v1 < (1 : Int32) then (1 : Int32) else v1)
def f_better (v1 v2 v3 : Int32) : Option (Int32) :=
  some (if v1 = (0 : Int32) then (if v3 < v2 then (1 : Int32) else (0 : Int32)) else (if v2 < v3 then (1 : Int32) else (0 : Int32)))
def f_bestOf_4 (zh zi zc : List Int32) (zb : Int32) : Nat → Int32 → Int32 → Int32 → Option (Int32)
  | 0, _, _, _ => none
  | n + 1, v1, v2, v3 =>
    if v3 < zb then
      (rdA zc v3).bind fun x1 =>
      (rdA zh x1).bind fun x2 =>
      if x2 = v1 then
        (rdA zi x1).bind fun x3 =>
        if v2 = (0 : Int32) then
          f_bestOf_4 zh zi zc zb n v1 x3 (v3 + (1 : Int32))
        else
          (f_better v1 x3 v2).bind fun r4 =>
          f_bestOf_4 zh zi zc zb n v1 (if r4 = (0 : Int32) then v2 else x3) (v3 + (1 : Int32))
      else
        f_bestOf_4 zh zi zc zb n v1 v2 (v3 + (1 : Int32))
    else
      some v2
def f_bestOf (zh zi zc : List Int32) (zb v1 : Int32) : Option (Int32) :=
  f_bestOf_4 zh zi zc zb 100000 v1 (0 : Int32) (0 : Int32)
def f_crosses (v1 v2 v3 : Int32) : Option (Int32) :=
  some (if v1 = (0 : Int32) then (if v2 < v3 then (0 : Int32) else (1 : Int32)) else (if v3 < v2 then (0 : Int32) else (1 : Int32)))
def f_gatherLevel_7 (zh zi zc : List Int32) (zb : Int32) : Nat → List Int32 → Int32 → Int32 → Int32 → Int32 → Option (List Int32 × Int32)
  | 0, _, _, _, _, _ => none
  | n + 1, ze, za, v1, v2, v3 =>
    if v3 < zb then
      (rdA zc v3).bind fun x5 =>
      (rdA zh x5).bind fun x6 =>
      if x6 = v1 then
        (rdA zi x5).bind fun x7 =>
        if x7 = v2 then
          if za < (64 : Int32) then
            (wrA ze za x5).bind fun A8 =>
            f_gatherLevel_7 zh zi zc zb n A8 (za + (1 : Int32)) v1 v2 (v3 + (1 : Int32))
          else
            f_gatherLevel_7 zh zi zc zb n ze za v1 v2 (v3 + (1 : Int32))
        else
          f_gatherLevel_7 zh zi zc zb n ze za v1 v2 (v3 + (1 : Int32))
      else
        f_gatherLevel_7 zh zi zc zb n ze za v1 v2 (v3 + (1 : Int32))
    else
      some (ze, za)
def f_gatherLevel (zh zi zc : List Int32) (zb : Int32) (ze : List Int32) (za v1 v2 : Int32) : Option (List Int32 × Int32) :=
  f_gatherLevel_7 zh zi zc zb 100000 ze (0 : Int32) v1 v2 (0 : Int32)
def f_sortLevel_73 (kb : List Int32 → Int32 → Option (List Int32)) (zo : List Int64) (za : Int32) (ze : List Int32) (v1 v2 v5 : Int32) : Option (List Int32) :=
  (wrA ze v5 v2).bind fun A15 =>
  kb A15 (v1 + (1 : Int32))
def f_sortLevel_27 (k73 : List Int32 → Int32 → Int32 → Int32 → Option (List Int32)) (zo : List Int64) (za : Int32) : Nat → List Int32 → Int32 → Int32 → Int64 → Int32 → Option (List Int32)
  | 0, _, _, _, _, _ => none
  | n + 1, ze, v1, v2, v3, v5 =>
    if (0 : Int32) < v5 then
      (rdA ze (v5 - (1 : Int32))).bind fun x11 =>
      (rdA zo x11).bind fun x12 =>
      if v3 < x12 then
        (rdA ze (v5 - (1 : Int32))).bind fun x13 =>
        (wrA ze v5 x13).bind fun A14 =>
        f_sortLevel_27 k73 zo za n A14 v1 v2 v3 (v5 + (-1 : Int32))
      else
        k73 ze v1 v2 v5
    else
      k73 ze v1 v2 v5
def f_sortLevel_2 (zo : List Int64) (za : Int32) : Nat → List Int32 → Int32 → Option (List Int32)
  | 0, _, _ => none
  | n + 1, ze, v1 =>
    if v1 < za then
      (rdA ze v1).bind fun x9 =>
      (rdA zo x9).bind fun x10 =>
      f_sortLevel_27 (f_sortLevel_73 (f_sortLevel_2 zo za n) zo za) zo za 100000 ze v1 x9 x10 v1
    else
      some ze
def f_sortLevel (zo : List Int64) (za : Int32) (ze : List Int32) : Option (List Int32) :=
  f_sortLevel_2 zo za 100000 ze (1 : Int32)
def f_topStep_80 (zf ze zg : List Int32) (zj za : Int32) (zd : List Int32) (v2 v4 : Int32) : Option (Int32 × List Int32) :=
  (rdA zd v2).bind fun x20 =>
  (wrA zd v2 (x20 + v4)).bind fun A21 =>
  some (v4, A21)
def f_topStep_72 (zf ze zg : List Int32) (zj za : Int32) (zd : List Int32) (v2 v4 : Int32) : Option (Int32 × List Int32) :=
  f_topStep_80 zf ze zg zj za zd v2 (if v4 < (0 : Int32) then (0 : Int32) else v4)
def f_topStep_57 (zf ze zg : List Int32) (zj za : Int32) (zd : List Int32) (v2 v4 : Int32) : Option (Int32 × List Int32) :=
  f_topStep_72 zf ze zg zj za zd v2 (if zj < v4 then zj else v4)
def f_topStep_35 (zf ze zg : List Int32) (zj za : Int32) (zd : List Int32) (v1 v2 : Int32) : Option (Int32 × List Int32) :=
  (rdA zg v2).bind fun x18 =>
  if x18 < v1 then
    (rdA zg v2).bind fun x19 =>
    f_topStep_57 zf ze zg zj za zd v2 x19
  else
    f_topStep_57 zf ze zg zj za zd v2 v1
def f_topStep_11 (k35 : List Int32 → Int32 → Int32 → Option (Int32 × List Int32)) (zf ze zg : List Int32) (zj za : Int32) : Nat → List Int32 → Int32 → Int32 → Option (Int32 × List Int32)
  | 0, _, _, _ => none
  | n + 1, zd, v1, v2 =>
    if v2 < za then
      (rdA ze v2).bind fun x16 =>
      (rdA zf x16).bind fun x17 =>
      if x17 = (0 : Int32) then
        f_topStep_11 k35 zf ze zg zj za n zd v1 (v2 + (1 : Int32))
      else
        k35 zd v1 v2
    else
      some ((0 : Int32), zd)
def f_topStep (zf ze zg : List Int32) (zj za : Int32) (zd : List Int32) (v1 : Int32) : Option (Int32 × List Int32) :=
  if (0 : Int32) < zj then
    f_topStep_11 (f_topStep_35 zf ze zg zj za) zf ze zg zj za 100000 zd v1 (0 : Int32)
  else
    some ((0 : Int32), zd)
def f_proRataStep_102 (kb : List Int32 → Int32 → Int64 → Int32 → Int32 → Option (Int32 × List Int32)) (zg : List Int32) (zl za : Int32) (zd : List Int32) (v1 : Int32) (v2 : Int64) (v4 v5 v8 : Int32) : Option (Int32 × List Int32) :=
  (rdA zd v5).bind fun x26 =>
  (wrA zd v5 (x26 + v8)).bind fun A27 =>
  kb A27 v1 v2 (v4 + v8) (v5 + (1 : Int32))
def f_proRataStep_53 (zg : List Int32) (zl za : Int32) : Nat → List Int32 → Int32 → Int64 → Int32 → Int32 → Option (Int32 × List Int32)
  | 0, _, _, _, _, _ => none
  | n + 1, zd, v1, v2, v4, v5 =>
    if v5 < za then
      (rdA zg v5).bind fun x24 =>
      (rdA zd v5).bind fun x25 =>
      if v2 = 0 then none else
      f_proRataStep_102 (f_proRataStep_53 zg zl za n) zg zl za zd v1 v2 v4 v5 (if ((v1.toInt64 * (x24 - x25).toInt64) / v2).toInt32 < zl then (0 : Int32) else ((v1.toInt64 * (x24 - x25).toInt64) / v2).toInt32)
    else
      some (v4, zd)
def f_proRataStep_39 (zg : List Int32) (zl za : Int32) (zd : List Int32) (v1 : Int32) (v2 : Int64) : Option (Int32 × List Int32) :=
  if (0 : Int64) < v2 then
    f_proRataStep_53 zg zl za 100000 zd v1 v2 (0 : Int32) (0 : Int32)
  else
    some ((0 : Int32), zd)
def f_proRataStep_5 (k39 : List Int32 → Int32 → Int64 → Option (Int32 × List Int32)) (zg : List Int32) (zl za : Int32) : Nat → List Int32 → Int32 → Int64 → Int32 → Option (Int32 × List Int32)
  | 0, _, _, _, _ => none
  | n + 1, zd, v1, v2, v4 =>
    if v4 < za then
      (rdA zg v4).bind fun x22 =>
      (rdA zd v4).bind fun x23 =>
      f_proRataStep_5 k39 zg zl za n zd v1 (v2 + (x22 - x23).toInt64) (v4 + (1 : Int32))
    else
      k39 zd v1 v2
def f_proRataStep (zg : List Int32) (zl za : Int32) (zd : List Int32) (v1 : Int32) : Option (Int32 × List Int32) :=
  f_proRataStep_5 (f_proRataStep_39 zg zl za) zg zl za 100000 zd v1 (0 : Int64) (0 : Int32)
def f_timeStep_43 (kb : List Int32 → Int32 → Int32 → Option (List Int32)) (zg : List Int32) (za : Int32) (zd : List Int32) (v2 v3 t0 : Int32) : Option (List Int32) :=
  if (0 : Int32) < t0 then
    (rdA zd v3).bind fun x30 =>
    (wrA zd v3 (x30 + t0)).bind fun A31 =>
    kb A31 (v2 - t0) (v3 + (1 : Int32))
  else
    kb zd v2 (v3 + (1 : Int32))
def f_timeStep_4 (zg : List Int32) (za : Int32) : Nat → List Int32 → Int32 → Int32 → Option (List Int32)
  | 0, _, _, _ => none
  | n + 1, zd, v2, v3 =>
    if v3 < za then
      if (0 : Int32) < v2 then
        (rdA zg v3).bind fun x28 =>
        (rdA zd v3).bind fun x29 =>
        f_timeStep_43 (f_timeStep_4 zg za n) zg za zd v2 v3 (if v2 < (x28 - x29) then v2 else (x28 - x29))
      else
        some zd
    else
      some zd
def f_timeStep (zg : List Int32) (za : Int32) (zd : List Int32) (v1 : Int32) : Option (List Int32) :=
  f_timeStep_4 zg za 100000 zd v1 (0 : Int32)
def f_allocate_67 (zf ze zg : List Int32) (zl zj za : Int32) (zd : List Int32) (v3 v5 v6 : Int32) : Option (Int32 × List Int32) :=
  (f_timeStep zg za zd (v5 - v6)).bind fun s37 =>
  some (v3, s37)
def f_allocate_37 (zf ze zg : List Int32) (zl zj za : Int32) (zd : List Int32) (t0 : Int32) : Option (Int32 × List Int32) :=
  (f_topStep zf ze zg zj za zd t0).bind fun (r33, s34) =>
  if (0 : Int32) < (t0 - r33) then
    (f_proRataStep zg zl za s34 (t0 - r33)).bind fun (r35, s36) =>
    f_allocate_67 zf ze zg zl zj za s36 t0 (t0 - r33) r35
  else
    f_allocate_67 zf ze zg zl zj za s34 t0 (t0 - r33) (0 : Int32)
def f_allocate_27 (zf ze zg : List Int32) (zl zj za : Int32) (zd : List Int32) (v1 v2 : Int32) : Option (Int32 × List Int32) :=
  f_allocate_37 zf ze zg zl zj za zd (if v1 < v2 then v1 else v2)
def f_allocate_4 (k27 : List Int32 → Int32 → Int32 → Option (Int32 × List Int32)) (zf ze zg : List Int32) (zl zj za : Int32) : Nat → List Int32 → Int32 → Int32 → Int32 → Option (Int32 × List Int32)
  | 0, _, _, _, _ => none
  | n + 1, zd, v1, v2, v3 =>
    if v3 < za then
      (rdA zg v3).bind fun x32 =>
      f_allocate_4 k27 zf ze zg zl zj za n zd v1 (v2 + x32) (v3 + (1 : Int32))
    else
      k27 zd v1 v2
def f_allocate (zf ze zg : List Int32) (zl zj za : Int32) (zd : List Int32) (v1 : Int32) : Option (Int32 × List Int32) :=
  f_allocate_4 (f_allocate_27 zf ze zg zl zj za) zf ze zg zl zj za 100000 zd v1 (0 : Int32) (0 : Int32)
def f_removeResting_20 (zc : List Int32) (zb v2 : Int32) : Option (List Int32 × Int32) :=
  (rdA zc (zb - (1 : Int32))).bind fun x39 =>
  (wrA zc v2 x39).bind fun A40 =>
  some (A40, (zb - (1 : Int32)))
def f_removeResting_2 (k20 : List Int32 → Int32 → Int32 → Option (List Int32 × Int32)) : Nat → List Int32 → Int32 → Int32 → Int32 → Option (List Int32 × Int32)
  | 0, _, _, _, _ => none
  | n + 1, zc, zb, v1, v2 =>
    if v2 < zb then
      (rdA zc v2).bind fun x38 =>
      if x38 = v1 then
        k20 zc zb v2
      else
        f_removeResting_2 k20 n zc zb v1 (v2 + (1 : Int32))
    else
      some (zc, zb)
def f_removeResting (zc : List Int32) (zb v1 : Int32) : Option (List Int32 × Int32) :=
  f_removeResting_2 f_removeResting_20 100000 zc zb v1 (0 : Int32)
def f_applyLevel_82 (kb : List Int32 → List Int32 → List Int32 → List Int32 → List Int32 → List Int32 → List Int32 → List Int32 → Int32 → Int32 → Int32 → Int32 → Option (List Int32 × List Int32 × List Int32 × List Int32 × List Int32 × List Int32 × List Int32 × List Int32 × Int32 × Int32)) (ze zd : List Int32) (za : Int32) (zp zt zm zf zc zs zq zr : List Int32) (zb zn v1 v2 v3 v4 : Int32) : Option (List Int32 × List Int32 × List Int32 × List Int32 × List Int32 × List Int32 × List Int32 × List Int32 × Int32 × Int32) :=
  (rdA zp v4).bind fun x46 =>
  (wrA zp v4 (x46 - v3)).bind fun A47 =>
  (rdA zt v4).bind fun x48 =>
  (wrA zt v4 (x48 + v3)).bind fun A49 =>
  (rdA A47 v4).bind fun x50 =>
  if (0 : Int32) < x50 then
    kb A47 A49 zm zf zc zs zq zr zb zn v1 (v2 + (1 : Int32))
  else
    (wrA A47 v4 (0 : Int32)).bind fun A51 =>
    (wrA zm v4 (2 : Int32)).bind fun A52 =>
    (wrA zf v4 (0 : Int32)).bind fun A53 =>
    (f_removeResting zc zb v4).bind fun (s54, s55) =>
    kb A51 A49 A52 A53 s54 zs zq zr s55 zn v1 (v2 + (1 : Int32))
def f_applyLevel_2 (ze zd : List Int32) (za : Int32) : Nat → List Int32 → List Int32 → List Int32 → List Int32 → List Int32 → List Int32 → List Int32 → List Int32 → Int32 → Int32 → Int32 → Int32 → Option (List Int32 × List Int32 × List Int32 × List Int32 × List Int32 × List Int32 × List Int32 × List Int32 × Int32 × Int32)
  | 0, _, _, _, _, _, _, _, _, _, _, _, _ => none
  | n + 1, zp, zt, zm, zf, zc, zs, zq, zr, zb, zn, v1, v2 =>
    if v2 < za then
      (rdA zd v2).bind fun x41 =>
      if (0 : Int32) < x41 then
        (rdA ze v2).bind fun x42 =>
        if zn < (64 : Int32) then
          (wrA zs zn x42).bind fun A43 =>
          (wrA zr zn v1).bind fun A44 =>
          (wrA zq zn x41).bind fun A45 =>
          f_applyLevel_82 (f_applyLevel_2 ze zd za n) ze zd za zp zt zm zf zc A43 A45 A44 zb (zn + (1 : Int32)) v1 v2 x41 x42
        else
          f_applyLevel_82 (f_applyLevel_2 ze zd za n) ze zd za zp zt zm zf zc zs zq zr zb zn v1 v2 x41 x42
      else
        f_applyLevel_2 ze zd za n zp zt zm zf zc zs zq zr zb zn v1 (v2 + (1 : Int32))
    else
      some (zp, zt, zm, zf, zc, zs, zq, zr, zb, zn)
def f_applyLevel (ze zd : List Int32) (za : Int32) (zp zt zm zf zc zs zq zr : List Int32) (zb zn v1 : Int32) : Option (List Int32 × List Int32 × List Int32 × List Int32 × List Int32 × List Int32 × List Int32 × List Int32 × Int32 × Int32) :=
  f_applyLevel_2 ze zd za 100000 zp zt zm zf zc zs zq zr zb zn v1 (0 : Int32)
def f_matchLevel_59 (zh zi : List Int32) (zo : List Int64) (zl zj : Int32) (zp zt zm zf zc zs zq zr ze zg zd : List Int32) (zb zn za v2 v3 : Int32) : Option (Int32 × List Int32 × List Int32 × List Int32 × List Int32 × List Int32 × List Int32 × List Int32 × List Int32 × List Int32 × List Int32 × List Int32 × Int32 × Int32 × Int32) :=
  (f_allocate zf ze zg zl zj za zd v3).bind fun (r63, s64) =>
  (f_applyLevel ze s64 za zp zt zm zf zc zs zq zr zb zn v2).bind fun (s65, s66, s67, s68, s69, s70, s71, s72, s73, s74) =>
  some (r63, s65, s66, s67, s68, s69, s70, s71, s72, ze, zg, s64, s73, s74, za)
def f_matchLevel_13 (k59 : List Int32 → List Int32 → List Int32 → List Int32 → List Int32 → List Int32 → List Int32 → List Int32 → List Int32 → List Int32 → List Int32 → Int32 → Int32 → Int32 → Int32 → Int32 → Option (Int32 × List Int32 × List Int32 × List Int32 × List Int32 × List Int32 × List Int32 × List Int32 × List Int32 × List Int32 × List Int32 × List Int32 × Int32 × Int32 × Int32)) (zh zi : List Int32) (zo : List Int64) (zl zj : Int32) : Nat → List Int32 → List Int32 → List Int32 → List Int32 → List Int32 → List Int32 → List Int32 → List Int32 → List Int32 → List Int32 → List Int32 → Int32 → Int32 → Int32 → Int32 → Int32 → Int32 → Option (Int32 × List Int32 × List Int32 × List Int32 × List Int32 × List Int32 × List Int32 × List Int32 × List Int32 × List Int32 × List Int32 × List Int32 × Int32 × Int32 × Int32)
  | 0, _, _, _, _, _, _, _, _, _, _, _, _, _, _, _, _, _ => none
  | n + 1, zp, zt, zm, zf, zc, zs, zq, zr, ze, zg, zd, zb, zn, za, v2, v3, v4 =>
    if v4 < za then
      (rdA ze v4).bind fun x59 =>
      (rdA zp x59).bind fun x60 =>
      (wrA zg v4 x60).bind fun A61 =>
      (wrA zd v4 (0 : Int32)).bind fun A62 =>
      f_matchLevel_13 k59 zh zi zo zl zj n zp zt zm zf zc zs zq zr ze A61 A62 zb zn za v2 v3 (v4 + (1 : Int32))
    else
      k59 zp zt zm zf zc zs zq zr ze zg zd zb zn za v2 v3
def f_matchLevel (zh zi : List Int32) (zo : List Int64) (zl zj : Int32) (zp zt zm zf zc zs zq zr ze zg zd : List Int32) (zb zn za v1 v2 v3 : Int32) : Option (Int32 × List Int32 × List Int32 × List Int32 × List Int32 × List Int32 × List Int32 × List Int32 × List Int32 × List Int32 × List Int32 × List Int32 × Int32 × Int32 × Int32) :=
  (f_gatherLevel zh zi zc zb ze za v1 v2).bind fun (s56, s57) =>
  (f_sortLevel zo s57 s56).bind fun s58 =>
  f_matchLevel_13 (f_matchLevel_59 zh zi zo zl zj) zh zi zo zl zj 100000 zp zt zm zf zc zs zq zr s58 zg zd zb zn s57 v2 v3 (0 : Int32)
def f_matchIncoming_12 (zh zi : List Int32) (zo : List Int64) (zl zj : Int32) : Nat → List Int32 → List Int32 → List Int32 → List Int32 → List Int32 → List Int32 → List Int32 → List Int32 → List Int32 → List Int32 → List Int32 → Int32 → Int32 → Int32 → Int32 → Int32 → Int32 → Int32 → Int32 → Int32 → Option (Int32 × List Int32 × List Int32 × List Int32 × List Int32 × List Int32 × List Int32 × List Int32 × List Int32 × List Int32 × List Int32 × List Int32 × Int32 × Int32 × Int32)
  | 0, _, _, _, _, _, _, _, _, _, _, _, _, _, _, _, _, _, _, _, _ => none
  | n + 1, zp, zt, zm, zf, zc, zs, zq, zr, ze, zg, zd, zb, zn, za, v1, v2, v3, v5, v6, v7 =>
    if (64 : Int32) < v7 then
      some (v5, zp, zt, zm, zf, zc, zs, zq, zr, ze, zg, zd, zb, zn, za)
    else
      if (0 : Int32) < v5 then
        (f_bestOf zh zi zc zb v6).bind fun r75 =>
        if r75 = (0 : Int32) then
          some (v5, zp, zt, zm, zf, zc, zs, zq, zr, ze, zg, zd, zb, zn, za)
        else
          (f_crosses v2 v3 r75).bind fun r76 =>
          if r76 = (0 : Int32) then
            some (v5, zp, zt, zm, zf, zc, zs, zq, zr, ze, zg, zd, zb, zn, za)
          else
            (f_matchLevel zh zi zo zl zj zp zt zm zf zc zs zq zr ze zg zd zb zn za v6 r75 v5).bind fun (r77, s78, s79, s80, s81, s82, s83, s84, s85, s86, s87, s88, s89, s90, s91) =>
            if (0 : Int32) < r77 then
              (rdA s79 v1).bind fun x92 =>
              (wrA s79 v1 (x92 + r77)).bind fun A93 =>
              f_matchIncoming_12 zh zi zo zl zj n s78 A93 s80 s81 s82 s83 s84 s85 s86 s87 s88 s89 s90 s91 v1 v2 v3 (v5 - r77) v6 (v7 + (1 : Int32))
            else
              some (v5, s78, s79, s80, s81, s82, s83, s84, s85, s86, s87, s88, s89, s90, s91)
      else
        some (v5, zp, zt, zm, zf, zc, zs, zq, zr, ze, zg, zd, zb, zn, za)
def f_matchIncoming (zh zi : List Int32) (zo : List Int64) (zl zj : Int32) (zp zt zm zf zc zs zq zr ze zg zd : List Int32) (zb zn za v1 v2 v3 v4 : Int32) : Option (Int32 × List Int32 × List Int32 × List Int32 × List Int32 × List Int32 × List Int32 × List Int32 × List Int32 × List Int32 × List Int32 × List Int32 × Int32 × Int32 × Int32) :=
  f_matchIncoming_12 zh zi zo zl zj 100000 zp zt zm zf zc zs zq zr ze zg zd zb zn za v1 v2 v3 v4 ((1 : Int32) - v2) (0 : Int32)
def f_clearFlags_2 (zh zc : List Int32) (zb : Int32) : Nat → List Int32 → Int32 → Int32 → Option (List Int32)
  | 0, _, _, _ => none
  | n + 1, zf, v1, v2 =>
    if v2 < zb then
      (rdA zc v2).bind fun x94 =>
      (rdA zh x94).bind fun x95 =>
      if x95 = v1 then
        (wrA zf x94 (0 : Int32)).bind fun A96 =>
        f_clearFlags_2 zh zc zb n A96 v1 (v2 + (1 : Int32))
      else
        f_clearFlags_2 zh zc zb n zf v1 (v2 + (1 : Int32))
    else
      some zf
def f_clearFlags (zh zc : List Int32) (zb : Int32) (zf : List Int32) (v1 : Int32) : Option (List Int32) :=
  f_clearFlags_2 zh zc zb 100000 zf v1 (0 : Int32)
def f_finishIncoming_90 (zh zi zp zm : List Int32) (zo : List Int64) (zf zc : List Int32) (zu : Int64) (zb v1 v4 v7 : Int32) : Option (List Int32 × List Int32 × List Int64 × List Int32 × List Int32 × Int64 × Int32) :=
  (wrA zo v1 (zu + (1 : Int64))).bind fun A102 =>
  (wrA zp v1 v4).bind fun A103 =>
  (wrA zm v1 (1 : Int32)).bind fun A104 =>
  (wrA zf v1 (v7 &&& 1)).bind fun A105 =>
  (wrA zc zb v1).bind fun A106 =>
  some (A103, A104, A102, A105, A106, (zu + (1 : Int64)), (zb + (1 : Int32)))
def f_finishIncoming_78 (zh zi zp zm : List Int32) (zo : List Int64) (zf zc : List Int32) (zu : Int64) (zb v1 v2 v4 t0 : Int32) : Option (List Int32 × List Int32 × List Int64 × List Int32 × List Int32 × Int64 × Int32) :=
  if t0 = (0 : Int32) then
    f_finishIncoming_90 zh zi zp zm zo zf zc zu zb v1 v4 t0
  else
    (f_clearFlags zh zc zb zf v2).bind fun s101 =>
    f_finishIncoming_90 zh zi zp zm zo s101 zc zu zb v1 v4 t0
def f_finishIncoming_35 (zh zi zp zm : List Int32) (zo : List Int64) (zf zc : List Int32) (zu : Int64) (zb v1 : Int32) : Option (List Int32 × List Int32 × List Int64 × List Int32 × List Int32 × Int64 × Int32) :=
  (wrA zm v1 (4 : Int32)).bind fun A107 =>
  (wrA zp v1 (0 : Int32)).bind fun A108 =>
  some (A108, A107, zo, zf, zc, zu, zb)
def f_finishIncoming (zh zi zp zm : List Int32) (zo : List Int64) (zf zc : List Int32) (zu : Int64) (zb v1 v2 v3 v4 v5 : Int32) : Option (List Int32 × List Int32 × List Int64 × List Int32 × List Int32 × Int64 × Int32) :=
  if v4 = (0 : Int32) then
    (wrA zm v1 (2 : Int32)).bind fun A99 =>
    (wrA zp v1 (0 : Int32)).bind fun A100 =>
    some (A100, A99, zo, zf, zc, zu, zb)
  else
    if v5 = (1 : Int32) then
      f_finishIncoming_35 zh zi zp zm zo zf zc zu zb v1
    else
      if zb < (64 : Int32) then
        (f_bestOf zh zi zc zb v2).bind fun r97 =>
        if r97 = (0 : Int32) then
          f_finishIncoming_78 zh zi zp zm zo zf zc zu zb v1 v2 v4 (1 : Int32)
        else
          (f_better v2 v3 r97).bind fun r98 =>
          f_finishIncoming_78 zh zi zp zm zo zf zc zu zb v1 v2 v4 (if r98 = (0 : Int32) then (0 : Int32) else (1 : Int32))
      else
        f_finishIncoming_35 zh zi zp zm zo zf zc zu zb v1
def f_submit_55 (zl zj : Int32) (zh zi zp zt zm : List Int32) (zo : List Int64) (zf zc zs zq zr ze zg zd : List Int32) (zk : Int32) (zu : Int64) (zb zn za v1 v2 v3 v4 : Int32) : Option (Int32 × List Int32 × List Int32 × List Int32 × List Int32 × List Int32 × List Int64 × List Int32 × List Int32 × List Int32 × List Int32 × List Int32 × List Int32 × List Int32 × List Int32 × Int32 × Int64 × Int32 × Int32 × Int32) :=
  if zk < (255 : Int32) then
    (wrA zh (zk + (1 : Int32)) v1).bind fun A109 =>
    (wrA zi (zk + (1 : Int32)) v2).bind fun A110 =>
    (wrA zp (zk + (1 : Int32)) (0 : Int32)).bind fun A111 =>
    (wrA zt (zk + (1 : Int32)) (0 : Int32)).bind fun A112 =>
    (wrA zf (zk + (1 : Int32)) (0 : Int32)).bind fun A113 =>
    (wrA zo (zk + (1 : Int32)) (0 : Int64)).bind fun A114 =>
    (f_matchIncoming A109 A110 A114 zl zj A111 A112 zm A113 zc zs zq zr ze zg zd zb (0 : Int32) za (zk + (1 : Int32)) v1 v2 v3).bind fun (r115, s116, s117, s118, s119, s120, s121, s122, s123, s124, s125, s126, s127, s128, s129) =>
    (f_finishIncoming A109 A110 s116 s118 A114 s119 s120 zu s127 (zk + (1 : Int32)) v1 v2 r115 v4).bind fun (s130, s131, s132, s133, s134, s135, s136) =>
    some ((zk + (1 : Int32)), A109, A110, s130, s117, s131, s132, s133, s134, s121, s122, s123, s124, s125, s126, (zk + (1 : Int32)), s135, s136, s128, s129)
  else
    some ((-5 : Int32), zh, zi, zp, zt, zm, zo, zf, zc, zs, zq, zr, ze, zg, zd, zk, zu, zb, zn, za)
def f_submit_11 (zl zj : Int32) (zh zi zp zt zm : List Int32) (zo : List Int64) (zf zc zs zq zr ze zg zd : List Int32) (zk : Int32) (zu : Int64) (zb zn za v1 v2 v3 v4 : Int32) : Option (Int32 × List Int32 × List Int32 × List Int32 × List Int32 × List Int32 × List Int64 × List Int32 × List Int32 × List Int32 × List Int32 × List Int32 × List Int32 × List Int32 × List Int32 × Int32 × Int64 × Int32 × Int32 × Int32) :=
  if v2 < (1 : Int32) then
    some ((-2 : Int32), zh, zi, zp, zt, zm, zo, zf, zc, zs, zq, zr, ze, zg, zd, zk, zu, zb, zn, za)
  else
    if (1000 : Int32) < v2 then
      some ((-2 : Int32), zh, zi, zp, zt, zm, zo, zf, zc, zs, zq, zr, ze, zg, zd, zk, zu, zb, zn, za)
    else
      if v3 < (1 : Int32) then
        some ((-3 : Int32), zh, zi, zp, zt, zm, zo, zf, zc, zs, zq, zr, ze, zg, zd, zk, zu, zb, zn, za)
      else
        if (10000 : Int32) < v3 then
          some ((-3 : Int32), zh, zi, zp, zt, zm, zo, zf, zc, zs, zq, zr, ze, zg, zd, zk, zu, zb, zn, za)
        else
          if v4 = (0 : Int32) then
            f_submit_55 zl zj zh zi zp zt zm zo zf zc zs zq zr ze zg zd zk zu zb zn za v1 v2 v3 v4
          else
            if v4 = (1 : Int32) then
              f_submit_55 zl zj zh zi zp zt zm zo zf zc zs zq zr ze zg zd zk zu zb zn za v1 v2 v3 v4
            else
              some ((-4 : Int32), zh, zi, zp, zt, zm, zo, zf, zc, zs, zq, zr, ze, zg, zd, zk, zu, zb, zn, za)
def f_submit (zl zj : Int32) (zh zi zp zt zm : List Int32) (zo : List Int64) (zf zc zs zq zr ze zg zd : List Int32) (zk : Int32) (zu : Int64) (zb zn za v1 v2 v3 v4 : Int32) : Option (Int32 × List Int32 × List Int32 × List Int32 × List Int32 × List Int32 × List Int64 × List Int32 × List Int32 × List Int32 × List Int32 × List Int32 × List Int32 × List Int32 × List Int32 × Int32 × Int64 × Int32 × Int32 × Int32) :=
  if v1 = (0 : Int32) then
    f_submit_11 zl zj zh zi zp zt zm zo zf zc zs zq zr ze zg zd zk zu zb zn za v1 v2 v3 v4
  else
    if v1 = (1 : Int32) then
      f_submit_11 zl zj zh zi zp zt zm zo zf zc zs zq zr ze zg zd zk zu zb zn za v1 v2 v3 v4
    else
      some ((-1 : Int32), zh, zi, zp, zt, zm, zo, zf, zc, zs, zq, zr, ze, zg, zd, zk, zu, zb, zn, za)
def f_fillCount (zn : Int32) : Option (Int32) :=
  some zn
def f_fillId (zs : List Int32) (zn v1 : Int32) : Option (Int32) :=
  if v1 < (0 : Int32) then
    some (0 : Int32)
  else
    if v1 < zn then
      (rdA zs v1).bind fun x137 =>
      some x137
    else
      some (0 : Int32)
def f_fillQty (zq : List Int32) (zn v1 : Int32) : Option (Int32) :=
  if v1 < (0 : Int32) then
    some (0 : Int32)
  else
    if v1 < zn then
      (rdA zq v1).bind fun x138 =>
      some x138
    else
      some (0 : Int32)
def f_fillPrice (zr : List Int32) (zn v1 : Int32) : Option (Int32) :=
  if v1 < (0 : Int32) then
    some (0 : Int32)
  else
    if v1 < zn then
      (rdA zr v1).bind fun x139 =>
      some x139
    else
      some (0 : Int32)
def f_isResting (zm : List Int32) (zk v1 : Int32) : Option (Int32) :=
  if v1 < (1 : Int32) then
    some (0 : Int32)
  else
    if zk < v1 then
      some (0 : Int32)
    else
      (rdA zm v1).bind fun x140 =>
      some (if x140 = (1 : Int32) then (1 : Int32) else (0 : Int32))
def f_remaining (zp zm : List Int32) (zk v1 : Int32) : Option (Int32) :=
  (f_isResting zm zk v1).bind fun r141 =>
  if r141 = (0 : Int32) then
    some (0 : Int32)
  else
    (rdA zp v1).bind fun x142 =>
    some x142
def f_status (zm : List Int32) (zk v1 : Int32) : Option (Int32) :=
  if v1 < (1 : Int32) then
    some (0 : Int32)
  else
    if zk < v1 then
      some (0 : Int32)
    else
      (rdA zm v1).bind fun x143 =>
      some x143
def f_isTop (zm zf : List Int32) (zk v1 : Int32) : Option (Int32) :=
  (f_isResting zm zk v1).bind fun r144 =>
  if r144 = (0 : Int32) then
    some (0 : Int32)
  else
    (rdA zf v1).bind fun x145 =>
    some (if x145 = (0 : Int32) then (0 : Int32) else (1 : Int32))
def f_filled (zt : List Int32) (zk v1 : Int32) : Option (Int32) :=
  if v1 < (1 : Int32) then
    some (0 : Int32)
  else
    if zk < v1 then
      some (0 : Int32)
    else
      (rdA zt v1).bind fun x146 =>
      some x146
def f_depthAt_30 (zh zi zp zc : List Int32) (zb : Int32) : Nat → Int32 → Int32 → Int32 → Int32 → Option (Int32)
  | 0, _, _, _, _ => none
  | n + 1, v1, v2, v3, v4 =>
    if v4 < zb then
      (rdA zc v4).bind fun x147 =>
      (rdA zh x147).bind fun x148 =>
      if x148 = v1 then
        (rdA zi x147).bind fun x149 =>
        if x149 = v2 then
          (rdA zp x147).bind fun x150 =>
          f_depthAt_30 zh zi zp zc zb n v1 v2 (v3 + x150) (v4 + (1 : Int32))
        else
          f_depthAt_30 zh zi zp zc zb n v1 v2 v3 (v4 + (1 : Int32))
      else
        f_depthAt_30 zh zi zp zc zb n v1 v2 v3 (v4 + (1 : Int32))
    else
      some v3
def f_depthAt_11 (zh zi zp zc : List Int32) (zb v1 v2 : Int32) : Option (Int32) :=
  if v2 < (1 : Int32) then
    some (0 : Int32)
  else
    if (1000 : Int32) < v2 then
      some (0 : Int32)
    else
      f_depthAt_30 zh zi zp zc zb 100000 v1 v2 (0 : Int32) (0 : Int32)
def f_depthAt (zh zi zp zc : List Int32) (zb v1 v2 : Int32) : Option (Int32) :=
  if v1 = (0 : Int32) then
    f_depthAt_11 zh zi zp zc zb v1 v2
  else
    if v1 = (1 : Int32) then
      f_depthAt_11 zh zi zp zc zb v1 v2
    else
      some (0 : Int32)
def f_bestPrice_11 (zh zi zc : List Int32) (zb v1 : Int32) : Option (Int32) :=
  (f_bestOf zh zi zc zb v1).bind fun r151 =>
  some r151
def f_bestPrice (zh zi zc : List Int32) (zb v1 : Int32) : Option (Int32) :=
  if v1 = (0 : Int32) then
    f_bestPrice_11 zh zi zc zb v1
  else
    if v1 = (1 : Int32) then
      f_bestPrice_11 zh zi zc zb v1
    else
      some (0 : Int32)
def f_L_law_720 (t0 t1 : Int32) : Option (Int32) :=
  some (if t1 = t0 then (1 : Int32) else (0 : Int32))
def f_L_law_668 (zy zz zx zw zaa : List Int32) (zv zab v5 v6 v10 v14 t0 t1 : Int32) : Option (Int32) :=
  if t1 = t0 then
    (f_remaining zx zw zv (3 : Int32)).bind fun r249 =>
    if r249 = v14 then
      (f_depthAt zy zz zx zaa zab (1 : Int32) (100 : Int32)).bind fun r250 =>
      if r250 = ((v5 + v6) - v10) then
        (f_bestPrice zy zz zaa zab (0 : Int32)).bind fun r251 =>
        f_L_law_720 (if v14 = (0 : Int32) then (0 : Int32) else (100 : Int32)) r251
      else
        some (0 : Int32)
    else
      some (0 : Int32)
  else
    some (0 : Int32)
def f_L_law_612 (zy zz zx zac zw zaa : List Int32) (zv zab v5 v6 v10 v11 v13 v14 t0 t1 : Int32) : Option (Int32) :=
  if t1 = t0 then
    (f_filled zac zv (1 : Int32)).bind fun r245 =>
    if r245 = v11 then
      (f_filled zac zv (2 : Int32)).bind fun r246 =>
      if r246 = v13 then
        (f_filled zac zv (3 : Int32)).bind fun r247 =>
        if r247 = v10 then
          (f_status zw zv (3 : Int32)).bind fun r248 =>
          f_L_law_668 zy zz zx zw zaa zv zab v5 v6 v10 v14 (if v14 = (0 : Int32) then (2 : Int32) else (1 : Int32)) r248
        else
          some (0 : Int32)
      else
        some (0 : Int32)
    else
      some (0 : Int32)
  else
    some (0 : Int32)
def f_L_law_575 (zy zz zx zac zw zaa : List Int32) (zv zab v5 v6 v10 v11 v13 v14 t0 t1 : Int32) : Option (Int32) :=
  if t1 = t0 then
    (f_remaining zx zw zv (2 : Int32)).bind fun r243 =>
    if r243 = (v6 - v13) then
      (f_status zw zv (2 : Int32)).bind fun r244 =>
      f_L_law_612 zy zz zx zac zw zaa zv zab v5 v6 v10 v11 v13 v14 (if v6 = v13 then (2 : Int32) else (1 : Int32)) r244
    else
      some (0 : Int32)
  else
    some (0 : Int32)
def f_L_law_554 (zy zz zx zac zw zad zaa : List Int32) (zv zab v5 v6 v10 v11 v13 v14 t0 t1 : Int32) : Option (Int32) :=
  if t1 = t0 then
    (f_isTop zw zad zv (1 : Int32)).bind fun r242 =>
    f_L_law_575 zy zz zx zac zw zaa zv zab v5 v6 v10 v11 v13 v14 (if v11 < v5 then (1 : Int32) else (0 : Int32)) r242
  else
    some (0 : Int32)
def f_L_law_517 (zy zz zx zac zw zad zaa : List Int32) (zv zab v5 v6 v10 v11 v13 v14 t0 t1 : Int32) : Option (Int32) :=
  if t1 = t0 then
    (f_remaining zx zw zv (1 : Int32)).bind fun r240 =>
    if r240 = (v5 - v11) then
      (f_status zw zv (1 : Int32)).bind fun r241 =>
      f_L_law_554 zy zz zx zac zw zad zaa zv zab v5 v6 v10 v11 v13 v14 (if v5 = v11 then (2 : Int32) else (1 : Int32)) r241
    else
      some (0 : Int32)
  else
    some (0 : Int32)
def f_L_law_438 (zy zz zx zac zw zad zaa zaf zag zah : List Int32) (zv zab zae v5 v6 v10 v11 v13 v14 v15 v16 v17 v18 t0 t1 : Int32) : Option (Int32) :=
  if t1 = t0 then
    (f_fillId zaf zae (0 : Int32)).bind fun r234 =>
    if r234 = v15 then
      (f_fillQty zag zae (0 : Int32)).bind fun r235 =>
      if r235 = v16 then
        (f_fillPrice zah zae (0 : Int32)).bind fun r236 =>
        if r236 = (100 : Int32) then
          (f_fillId zaf zae (1 : Int32)).bind fun r237 =>
          if r237 = v17 then
            (f_fillQty zag zae (1 : Int32)).bind fun r238 =>
            if r238 = v18 then
              (f_fillPrice zah zae (1 : Int32)).bind fun r239 =>
              f_L_law_517 zy zz zx zac zw zad zaa zv zab v5 v6 v10 v11 v13 v14 (if v17 = (0 : Int32) then (0 : Int32) else (100 : Int32)) r239
            else
              some (0 : Int32)
          else
            some (0 : Int32)
        else
          some (0 : Int32)
      else
        some (0 : Int32)
    else
      some (0 : Int32)
  else
    some (0 : Int32)
def f_L_law_351 (v0 v1 v5 v6 v7 v10 v11 v13 v14 v15 v16 v17 t0 : Int32) : Option (Int32) :=
  (f_init v0 v1).bind fun (s152, s153, s154, s155, s156, s157, s158, s159, s160, s161, s162, s163, s164, s165, s166, s167, s168, s169, s170, s171, s172) =>
  (f_submit s166 s167 s152 s153 s154 s155 s156 s157 s158 s159 s160 s161 s162 s163 s164 s165 s168 s169 s170 s171 s172 (1 : Int32) (100 : Int32) v5 (0 : Int32)).bind fun (r173, s174, s175, s176, s177, s178, s179, s180, s181, s182, s183, s184, s185, s186, s187, s188, s189, s190, s191, s192) =>
  (f_submit s166 s167 s174 s175 s176 s177 s178 s179 s180 s181 s182 s183 s184 s185 s186 s187 s188 s189 s190 s191 s192 (1 : Int32) (100 : Int32) v6 (0 : Int32)).bind fun (r193, s194, s195, s196, s197, s198, s199, s200, s201, s202, s203, s204, s205, s206, s207, s208, s209, s210, s211, s212) =>
  (f_submit s166 s167 s194 s195 s196 s197 s198 s199 s200 s201 s202 s203 s204 s205 s206 s207 s208 s209 s210 s211 s212 (0 : Int32) (100 : Int32) v7 (0 : Int32)).bind fun (r213, s214, s215, s216, s217, s218, s219, s220, s221, s222, s223, s224, s225, s226, s227, s228, s229, s230, s231, s232) =>
  if r173 = (1 : Int32) then
    if r193 = (2 : Int32) then
      if r213 = (3 : Int32) then
        (f_fillCount s231).bind fun r233 =>
        f_L_law_438 s214 s215 s216 s217 s218 s220 s221 s222 s223 s224 s228 s230 s231 v5 v6 v10 v11 v13 v14 v15 v16 v17 t0 (if v17 = (0 : Int32) then (1 : Int32) else (2 : Int32)) r233
      else
        some (0 : Int32)
    else
      some (0 : Int32)
  else
    some (0 : Int32)
def f_L_law_337 (v0 v1 v5 v6 v7 v10 v11 v13 v14 v15 v16 t0 : Int32) : Option (Int32) :=
  f_L_law_351 v0 v1 v5 v6 v7 v10 v11 v13 v14 v15 v16 t0 (if t0 = (2 : Int32) then v13 else (0 : Int32))
def f_L_law_320 (v0 v1 v5 v6 v7 v10 v11 v13 v14 v15 t0 : Int32) : Option (Int32) :=
  f_L_law_337 v0 v1 v5 v6 v7 v10 v11 v13 v14 v15 t0 (if (0 : Int32) < v11 then (if (0 : Int32) < v13 then (2 : Int32) else (0 : Int32)) else (0 : Int32))
def f_L_law_306 (v0 v1 v5 v6 v7 v10 v11 v13 v14 t0 : Int32) : Option (Int32) :=
  f_L_law_320 v0 v1 v5 v6 v7 v10 v11 v13 v14 t0 (if (0 : Int32) < v11 then v11 else v13)
def f_L_law_289 (v0 v1 v5 v6 v7 v10 v11 v13 : Int32) : Option (Int32) :=
  f_L_law_306 v0 v1 v5 v6 v7 v10 v11 v13 (v7 - v10) (if (0 : Int32) < v11 then (1 : Int32) else (2 : Int32))
def f_L_law_280 (v0 v1 v5 v6 v7 v10 v11 v13 t0 : Int32) : Option (Int32) :=
  f_L_law_289 v0 v1 v5 v6 v7 v10 v11 (v13 + t0)
def f_L_law_244 (v0 v1 v5 v6 v7 v10 v11 v13 v17 t0 : Int32) : Option (Int32) :=
  f_L_law_280 v0 v1 v5 v6 v7 v10 (v11 + t0) v13 (if (v17 - t0) < (v6 - v13) then (v17 - t0) else (v6 - v13))
def f_L_law_200 (v0 v1 v5 v6 v7 v10 v11 v12 v13 v15 v16 : Int32) : Option (Int32) :=
  f_L_law_244 v0 v1 v5 v6 v7 v10 (v11 + v15) (v13 + v16) ((v12 - v15) - v16) (if ((v12 - v15) - v16) < (v5 - (v11 + v15)) then ((v12 - v15) - v16) else (v5 - (v11 + v15)))
def f_L_law_190 (v0 v1 v5 v6 v7 v8 v10 v11 v12 v13 v15 v16 : Int32) : Option (Int32) :=
  f_L_law_200 v0 v1 v5 v6 v7 v10 v11 v12 v13 v15 (if v16 < v8 then (0 : Int32) else v16)
def f_L_law_132 (v0 v1 v5 v6 v7 v8 v10 v11 : Int32) : Option (Int32) :=
  if (0 : Int32) < (v10 - v11) then
    if ((v5 - v11) + v6) = 0 then none else
    if ((v5 - v11) + v6) = 0 then none else
    f_L_law_190 v0 v1 v5 v6 v7 v8 v10 v11 (v10 - v11) (0 : Int32) (if (((v10 - v11) * (v5 - v11)) / ((v5 - v11) + v6)) < v8 then (0 : Int32) else (((v10 - v11) * (v5 - v11)) / ((v5 - v11) + v6))) (((v10 - v11) * v6) / ((v5 - v11) + v6))
  else
    f_L_law_289 v0 v1 v5 v6 v7 v10 v11 (0 : Int32)
def f_L_law_119 (v0 v1 v5 v6 v7 v8 v9 v10 t0 : Int32) : Option (Int32) :=
  f_L_law_132 v0 v1 v5 v6 v7 v8 v10 (if v9 < t0 then v9 else t0)
def f_L_law_95 (v0 v1 v5 v6 v7 v8 v9 t0 : Int32) : Option (Int32) :=
  if (0 : Int32) < v9 then
    f_L_law_119 v0 v1 v5 v6 v7 v8 v9 t0 (if t0 < v5 then t0 else v5)
  else
    f_L_law_132 v0 v1 v5 v6 v7 v8 t0 (0 : Int32)
def f_L_law_73 (v0 v1 v5 v6 v7 v8 t0 : Int32) : Option (Int32) :=
  f_L_law_95 v0 v1 v5 v6 v7 v8 t0 (if v7 < (v5 + v6) then v7 else (v5 + v6))
def f_L_law_49 (v0 v1 v5 v6 v7 t0 : Int32) : Option (Int32) :=
  f_L_law_73 v0 v1 v5 v6 v7 t0 (if v1 < (0 : Int32) then (0 : Int32) else (if (10000 : Int32) < v1 then (10000 : Int32) else v1))
def f_L_law (v0 v1 v2 v3 v4 : Int32) : Option (Int32) :=
  f_L_law_49 v0 v1 ((1 : Int32) + (v2 &&& (1023 : Int32))) ((1 : Int32) + (v3 &&& (1023 : Int32))) ((1 : Int32) + (v4 &&& (4095 : Int32))) (if v0 < (1 : Int32) then (1 : Int32) else (if (100 : Int32) < v0 then (100 : Int32) else v0))
set_option maxHeartbeats 4000000
set_option maxRecDepth 10000
abbrev qi (x : Int32) : Slot := .val (.int x)
abbrev ql (x : Int64) : Slot := .val (.long x)
abbrev qr (x : Nat) : Slot := .val (.ref x)
abbrev qu : Slot := .unset
abbrev qw : Slot := .second
abbrev qa (l : List Int32) : ACell := .inr (.inl (false, l))
theorem ok_init_165 : ∀ {zh zi zp zt zm : List Int32} {zo : List Int64} {zf zc zs zq zr ze zg zd : List Int32} {zl zj zk : Int32} {zu : Int64} {zb zn za v3 v4 : Int32} {d1 d2 : Slot} {w_o_oSide w_o_oPrice w_o_oRem w_o_oFilled w_o_oStatus : List Int32} {w_o_oStamp : List Int64} {w_o_oTop w_o_restIds w_o_fIds w_o_fQty w_o_fPrice w_o_lvlIds w_o_lvlR w_o_lvlA : List Int32} {w_o_minAlloc w_o_topCap w_o_accepted : Int32} {w_o_stampCounter : Int64} {w_o_restN w_o_fN : Int32} {w_o_lvlN : Int32}, f_init_165 zh zi zp zt zm zo zf zc zs zq zr ze zg zd zl zj zk zu zb zn za v3 v4 = some (w_o_oSide, w_o_oPrice, w_o_oRem, w_o_oFilled, w_o_oStatus, w_o_oStamp, w_o_oTop, w_o_restIds, w_o_fIds, w_o_fQty, w_o_fPrice, w_o_lvlIds, w_o_lvlR, w_o_lvlA, w_o_minAlloc, w_o_topCap, w_o_accepted, w_o_stampCounter, w_o_restN, w_o_fN, w_o_lvlN) → OEnds own_P 1 165 [qr 0, d1, d2, qi v3, qi v4] [] (bk0 zh zi zp zt zm zo zf zc zs zq zr ze zg zd zl zj zk zu zb zn za []) (none, (bk0 w_o_oSide w_o_oPrice w_o_oRem w_o_oFilled w_o_oStatus w_o_oStamp w_o_oTop w_o_restIds w_o_fIds w_o_fQty w_o_fPrice w_o_lvlIds w_o_lvlR w_o_lvlA w_o_minAlloc w_o_topCap w_o_accepted w_o_stampCounter w_o_restN w_o_fN w_o_lvlN []), 0, 0) := by
  intro zh zi zp zt zm zo zf zc zs zq zr ze zg zd zl zj zk zu zb zn za v3 v4 d1 d2 w_o_oSide w_o_oPrice w_o_oRem w_o_oFilled w_o_oStatus w_o_oStamp w_o_oTop w_o_restIds w_o_fIds w_o_fQty w_o_fPrice w_o_lvlIds w_o_lvlR w_o_lvlA w_o_minAlloc w_o_topCap w_o_accepted w_o_stampCounter w_o_restN w_o_fN w_o_lvlN h
  unfold f_init_165 at h
  refine OEnds.adv hm_1 21 (pc' := 201) (L' := [qr 0, qu, qu, qi v3, qi v4]) (S' := []) (H' := (bk0 zh zi zp zt zm zo zf zc zs zq zr ze zg zd v3 v4 0 0 0 0 0 [])) rfl ?_
  cases h
  exact OEnds.vret hm_1 rfl rfl
theorem ok_init_152 : ∀ {zh zi zp zt zm : List Int32} {zo : List Int64} {zf zc zs zq zr ze zg zd : List Int32} {zl zj zk : Int32} {zu : Int64} {zb zn za v3 v4 : Int32} {d1 d2 : Slot} {w_o_oSide w_o_oPrice w_o_oRem w_o_oFilled w_o_oStatus : List Int32} {w_o_oStamp : List Int64} {w_o_oTop w_o_restIds w_o_fIds w_o_fQty w_o_fPrice w_o_lvlIds w_o_lvlR w_o_lvlA : List Int32} {w_o_minAlloc w_o_topCap w_o_accepted : Int32} {w_o_stampCounter : Int64} {w_o_restN w_o_fN : Int32} {w_o_lvlN : Int32}, f_init_152 zh zi zp zt zm zo zf zc zs zq zr ze zg zd zl zj zk zu zb zn za v3 v4 = some (w_o_oSide, w_o_oPrice, w_o_oRem, w_o_oFilled, w_o_oStatus, w_o_oStamp, w_o_oTop, w_o_restIds, w_o_fIds, w_o_fQty, w_o_fPrice, w_o_lvlIds, w_o_lvlR, w_o_lvlA, w_o_minAlloc, w_o_topCap, w_o_accepted, w_o_stampCounter, w_o_restN, w_o_fN, w_o_lvlN) → OEnds own_P 1 152 [qr 0, d1, d2, qi v3, qi v4] [] (bk0 zh zi zp zt zm zo zf zc zs zq zr ze zg zd zl zj zk zu zb zn za []) (none, (bk0 w_o_oSide w_o_oPrice w_o_oRem w_o_oFilled w_o_oStatus w_o_oStamp w_o_oTop w_o_restIds w_o_fIds w_o_fQty w_o_fPrice w_o_lvlIds w_o_lvlR w_o_lvlA w_o_minAlloc w_o_topCap w_o_accepted w_o_stampCounter w_o_restN w_o_fN w_o_lvlN []), 0, 0) := by
  intro zh zi zp zt zm zo zf zc zs zq zr ze zg zd zl zj zk zu zb zn za v3 v4 d1 d2 w_o_oSide w_o_oPrice w_o_oRem w_o_oFilled w_o_oStatus w_o_oStamp w_o_oTop w_o_restIds w_o_fIds w_o_fQty w_o_fPrice w_o_lvlIds w_o_lvlR w_o_lvlA w_o_minAlloc w_o_topCap w_o_accepted w_o_stampCounter w_o_restN w_o_fN w_o_lvlN h
  unfold f_init_152 at h
  refine OEnds.adv hm_1 2 (pc' := 157) (L' := [qr 0, qu, qu, qi v3, qi v4]) (S' := [.int 10000, .int v4]) (H' := (bk0 zh zi zp zt zm zo zf zc zs zq zr ze zg zd zl zj zk zu zb zn za [])) rfl ?_
  by_cases hc1 : (10000 : Int32) < v4
  · simp only [if_pos hc1] at h
    refine OEnds.icmpF hm_1 rfl ((tlt hc1).2.2.2) ?_
    refine OEnds.adv hm_1 2 (pc' := 165) (L' := [qr 0, qu, qu, qi v3, qi 10000]) (S' := []) (H' := (bk0 zh zi zp zt zm zo zf zc zs zq zr ze zg zd zl zj zk zu zb zn za [])) rfl ?_
    exact ok_init_165 h
  · simp only [if_neg hc1] at h
    refine OEnds.icmpT hm_1 rfl (q := 165) rfl ((flt hc1).2.2.2) ?_
    show OEnds own_P 1 165 [qr 0, qu, qu, qi v3, qi v4] [] (bk0 zh zi zp zt zm zo zf zc zs zq zr ze zg zd zl zj zk zu zb zn za []) _
    exact ok_init_165 h
theorem ok_init_141 : ∀ {zh zi zp zt zm : List Int32} {zo : List Int64} {zf zc zs zq zr ze zg zd : List Int32} {zl zj zk : Int32} {zu : Int64} {zb zn za v2 v3 : Int32} {d1 d4 : Slot} {w_o_oSide w_o_oPrice w_o_oRem w_o_oFilled w_o_oStatus : List Int32} {w_o_oStamp : List Int64} {w_o_oTop w_o_restIds w_o_fIds w_o_fQty w_o_fPrice w_o_lvlIds w_o_lvlR w_o_lvlA : List Int32} {w_o_minAlloc w_o_topCap w_o_accepted : Int32} {w_o_stampCounter : Int64} {w_o_restN w_o_fN : Int32} {w_o_lvlN : Int32}, f_init_141 zh zi zp zt zm zo zf zc zs zq zr ze zg zd zl zj zk zu zb zn za v2 v3 = some (w_o_oSide, w_o_oPrice, w_o_oRem, w_o_oFilled, w_o_oStatus, w_o_oStamp, w_o_oTop, w_o_restIds, w_o_fIds, w_o_fQty, w_o_fPrice, w_o_lvlIds, w_o_lvlR, w_o_lvlA, w_o_minAlloc, w_o_topCap, w_o_accepted, w_o_stampCounter, w_o_restN, w_o_fN, w_o_lvlN) → OEnds own_P 1 141 [qr 0, d1, qi v2, qi v3, d4] [] (bk0 zh zi zp zt zm zo zf zc zs zq zr ze zg zd zl zj zk zu zb zn za []) (none, (bk0 w_o_oSide w_o_oPrice w_o_oRem w_o_oFilled w_o_oStatus w_o_oStamp w_o_oTop w_o_restIds w_o_fIds w_o_fQty w_o_fPrice w_o_lvlIds w_o_lvlR w_o_lvlA w_o_minAlloc w_o_topCap w_o_accepted w_o_stampCounter w_o_restN w_o_fN w_o_lvlN []), 0, 0) := by
  intro zh zi zp zt zm zo zf zc zs zq zr ze zg zd zl zj zk zu zb zn za v2 v3 d1 d4 w_o_oSide w_o_oPrice w_o_oRem w_o_oFilled w_o_oStatus w_o_oStamp w_o_oTop w_o_restIds w_o_fIds w_o_fQty w_o_fPrice w_o_lvlIds w_o_lvlR w_o_lvlA w_o_minAlloc w_o_topCap w_o_accepted w_o_stampCounter w_o_restN w_o_fN w_o_lvlN h
  unfold f_init_141 at h
  refine OEnds.adv hm_1 3 (pc' := 146) (L' := [qr 0, qu, qi v2, qi v3, qi v2]) (S' := [.int v2]) (H' := (bk0 zh zi zp zt zm zo zf zc zs zq zr ze zg zd zl zj zk zu zb zn za [])) rfl ?_
  by_cases hc2 : v2 < (0 : Int32)
  · simp only [if_pos hc2] at h
    refine OEnds.ifF hm_1 rfl ((tlt hc2).2.1) ?_
    refine OEnds.adv hm_1 2 (pc' := 152) (L' := [qr 0, qu, qi v2, qi v3, qi 0]) (S' := []) (H' := (bk0 zh zi zp zt zm zo zf zc zs zq zr ze zg zd zl zj zk zu zb zn za [])) rfl ?_
    exact ok_init_152 h
  · simp only [if_neg hc2] at h
    refine OEnds.ifT hm_1 rfl (q := 152) rfl ((flt hc2).2.1) ?_
    show OEnds own_P 1 152 [qr 0, qu, qi v2, qi v3, qi v2] [] (bk0 zh zi zp zt zm zo zf zc zs zq zr ze zg zd zl zj zk zu zb zn za []) _
    exact ok_init_152 h
theorem ok_init_132 : ∀ {zh zi zp zt zm : List Int32} {zo : List Int64} {zf zc zs zq zr ze zg zd : List Int32} {zl zj zk : Int32} {zu : Int64} {zb zn za v2 v3 : Int32} {d1 d4 : Slot} {w_o_oSide w_o_oPrice w_o_oRem w_o_oFilled w_o_oStatus : List Int32} {w_o_oStamp : List Int64} {w_o_oTop w_o_restIds w_o_fIds w_o_fQty w_o_fPrice w_o_lvlIds w_o_lvlR w_o_lvlA : List Int32} {w_o_minAlloc w_o_topCap w_o_accepted : Int32} {w_o_stampCounter : Int64} {w_o_restN w_o_fN : Int32} {w_o_lvlN : Int32}, f_init_132 zh zi zp zt zm zo zf zc zs zq zr ze zg zd zl zj zk zu zb zn za v2 v3 = some (w_o_oSide, w_o_oPrice, w_o_oRem, w_o_oFilled, w_o_oStatus, w_o_oStamp, w_o_oTop, w_o_restIds, w_o_fIds, w_o_fQty, w_o_fPrice, w_o_lvlIds, w_o_lvlR, w_o_lvlA, w_o_minAlloc, w_o_topCap, w_o_accepted, w_o_stampCounter, w_o_restN, w_o_fN, w_o_lvlN) → OEnds own_P 1 132 [qr 0, d1, qi v2, qi v3, d4] [] (bk0 zh zi zp zt zm zo zf zc zs zq zr ze zg zd zl zj zk zu zb zn za []) (none, (bk0 w_o_oSide w_o_oPrice w_o_oRem w_o_oFilled w_o_oStatus w_o_oStamp w_o_oTop w_o_restIds w_o_fIds w_o_fQty w_o_fPrice w_o_lvlIds w_o_lvlR w_o_lvlA w_o_minAlloc w_o_topCap w_o_accepted w_o_stampCounter w_o_restN w_o_fN w_o_lvlN []), 0, 0) := by
  intro zh zi zp zt zm zo zf zc zs zq zr ze zg zd zl zj zk zu zb zn za v2 v3 d1 d4 w_o_oSide w_o_oPrice w_o_oRem w_o_oFilled w_o_oStatus w_o_oStamp w_o_oTop w_o_restIds w_o_fIds w_o_fQty w_o_fPrice w_o_lvlIds w_o_lvlR w_o_lvlA w_o_minAlloc w_o_topCap w_o_accepted w_o_stampCounter w_o_restN w_o_fN w_o_lvlN h
  unfold f_init_132 at h
  refine OEnds.adv hm_1 2 (pc' := 135) (L' := [qr 0, qu, qi v2, qi v3, qu]) (S' := [.int 100, .int v3]) (H' := (bk0 zh zi zp zt zm zo zf zc zs zq zr ze zg zd zl zj zk zu zb zn za [])) rfl ?_
  by_cases hc3 : (100 : Int32) < v3
  · simp only [if_pos hc3] at h
    refine OEnds.icmpF hm_1 rfl ((tlt hc3).2.2.2) ?_
    refine OEnds.adv hm_1 2 (pc' := 141) (L' := [qr 0, qu, qi v2, qi 100, qu]) (S' := []) (H' := (bk0 zh zi zp zt zm zo zf zc zs zq zr ze zg zd zl zj zk zu zb zn za [])) rfl ?_
    exact ok_init_141 h
  · simp only [if_neg hc3] at h
    refine OEnds.icmpT hm_1 rfl (q := 141) rfl ((flt hc3).2.2.2) ?_
    show OEnds own_P 1 141 [qr 0, qu, qi v2, qi v3, qu] [] (bk0 zh zi zp zt zm zo zf zc zs zq zr ze zg zd zl zj zk zu zb zn za []) _
    exact ok_init_141 h
theorem ok_init {v1 v2 : Int32} {w_o_oSide w_o_oPrice w_o_oRem w_o_oFilled w_o_oStatus : List Int32} {w_o_oStamp : List Int64} {w_o_oTop w_o_restIds w_o_fIds w_o_fQty w_o_fPrice w_o_lvlIds w_o_lvlR w_o_lvlA : List Int32} {w_o_minAlloc w_o_topCap w_o_accepted : Int32} {w_o_stampCounter : Int64} {w_o_restN w_o_fN w_o_lvlN : Int32} (h : f_init v1 v2 = some (w_o_oSide, w_o_oPrice, w_o_oRem, w_o_oFilled, w_o_oStatus, w_o_oStamp, w_o_oTop, w_o_restIds, w_o_fIds, w_o_fQty, w_o_fPrice, w_o_lvlIds, w_o_lvlR, w_o_lvlA, w_o_minAlloc, w_o_topCap, w_o_accepted, w_o_stampCounter, w_o_restN, w_o_fN, w_o_lvlN)) : OEnds own_P 1 0 [qr 0, qi v1, qi v2, qu, qu] [] ((.inl (0, [.null, .null, .null, .null, .null, .null, .null, .null, .null, .null, .null, .null, .null, .null, .int 0, .int 0, .int 0, .long 0, .int 0, .int 0, .int 0]) : ACell) :: []) (none, (bk0 w_o_oSide w_o_oPrice w_o_oRem w_o_oFilled w_o_oStatus w_o_oStamp w_o_oTop w_o_restIds w_o_fIds w_o_fQty w_o_fPrice w_o_lvlIds w_o_lvlR w_o_lvlA w_o_minAlloc w_o_topCap w_o_accepted w_o_stampCounter w_o_restN w_o_fN w_o_lvlN []), 14, 2240) := by
  unfold f_init at h
  refine OEnds.adv hm_1 1 (pc' := 1) (L' := [qr 0, qi v1, qi v2, qu, qu]) (S' := [.ref 0]) (H' := ((.inl (0, [.null, .null, .null, .null, .null, .null, .null, .null, .null, .null, .null, .null, .null, .null, .int 0, .int 0, .int 0, .long 0, .int 0, .int 0, .int 0]) : ACell) :: [])) rfl ?_
  refine OEnds.oinit hm_1 rfl ⟨Nat.le_of_ble_eq_true rfl, Nat.le_of_ble_eq_true rfl⟩ ?_
  refine OEnds.adv hm_1 2 (pc' := 8) (L' := [qr 0, qi v1, qi v2, qu, qu]) (S' := [.int 256, .ref 0]) (H' := ((.inl (0, [.null, .null, .null, .null, .null, .null, .null, .null, .null, .null, .null, .null, .null, .null, .int 0, .int 0, .int 0, .long 0, .int 0, .int 0, .int 0]) : ACell) :: [])) rfl ?_
  refine OEnds.made1 hm_1 rfl rfl (ks := 256) rfl rfl ?_
  refine OEnds.adv hm_1 3 (pc' := 17) (L' := [qr 0, qi v1, qi v2, qu, qu]) (S' := [.int 256, .ref 0]) (H' := ((.inl (0, [.ref 1, .null, .null, .null, .null, .null, .null, .null, .null, .null, .null, .null, .null, .null, .int 0, .int 0, .int 0, .long 0, .int 0, .int 0, .int 0]) : ACell) :: .inr (.inl (false, (List.replicate 256 0))) :: [])) rfl ?_
  refine OEnds.made1 hm_1 rfl rfl (ks := 256) rfl rfl ?_
  refine OEnds.adv hm_1 3 (pc' := 26) (L' := [qr 0, qi v1, qi v2, qu, qu]) (S' := [.int 256, .ref 0]) (H' := ((.inl (0, [.ref 1, .ref 2, .null, .null, .null, .null, .null, .null, .null, .null, .null, .null, .null, .null, .int 0, .int 0, .int 0, .long 0, .int 0, .int 0, .int 0]) : ACell) :: .inr (.inl (false, (List.replicate 256 0))) :: .inr (.inl (false, (List.replicate 256 0))) :: [])) rfl ?_
  refine OEnds.made1 hm_1 rfl rfl (ks := 256) rfl rfl ?_
  refine OEnds.adv hm_1 3 (pc' := 35) (L' := [qr 0, qi v1, qi v2, qu, qu]) (S' := [.int 256, .ref 0]) (H' := ((.inl (0, [.ref 1, .ref 2, .ref 3, .null, .null, .null, .null, .null, .null, .null, .null, .null, .null, .null, .int 0, .int 0, .int 0, .long 0, .int 0, .int 0, .int 0]) : ACell) :: .inr (.inl (false, (List.replicate 256 0))) :: .inr (.inl (false, (List.replicate 256 0))) :: .inr (.inl (false, (List.replicate 256 0))) :: [])) rfl ?_
  refine OEnds.made1 hm_1 rfl rfl (ks := 256) rfl rfl ?_
  refine OEnds.adv hm_1 3 (pc' := 44) (L' := [qr 0, qi v1, qi v2, qu, qu]) (S' := [.int 256, .ref 0]) (H' := ((.inl (0, [.ref 1, .ref 2, .ref 3, .ref 4, .null, .null, .null, .null, .null, .null, .null, .null, .null, .null, .int 0, .int 0, .int 0, .long 0, .int 0, .int 0, .int 0]) : ACell) :: .inr (.inl (false, (List.replicate 256 0))) :: .inr (.inl (false, (List.replicate 256 0))) :: .inr (.inl (false, (List.replicate 256 0))) :: .inr (.inl (false, (List.replicate 256 0))) :: [])) rfl ?_
  refine OEnds.made1 hm_1 rfl rfl (ks := 256) rfl rfl ?_
  refine OEnds.adv hm_1 3 (pc' := 53) (L' := [qr 0, qi v1, qi v2, qu, qu]) (S' := [.int 256, .ref 0]) (H' := ((.inl (0, [.ref 1, .ref 2, .ref 3, .ref 4, .ref 5, .null, .null, .null, .null, .null, .null, .null, .null, .null, .int 0, .int 0, .int 0, .long 0, .int 0, .int 0, .int 0]) : ACell) :: .inr (.inl (false, (List.replicate 256 0))) :: .inr (.inl (false, (List.replicate 256 0))) :: .inr (.inl (false, (List.replicate 256 0))) :: .inr (.inl (false, (List.replicate 256 0))) :: .inr (.inl (false, (List.replicate 256 0))) :: [])) rfl ?_
  refine OEnds.made1 hm_1 rfl rfl (ks := 256) rfl rfl ?_
  refine OEnds.adv hm_1 3 (pc' := 62) (L' := [qr 0, qi v1, qi v2, qu, qu]) (S' := [.int 256, .ref 0]) (H' := ((.inl (0, [.ref 1, .ref 2, .ref 3, .ref 4, .ref 5, .ref 6, .null, .null, .null, .null, .null, .null, .null, .null, .int 0, .int 0, .int 0, .long 0, .int 0, .int 0, .int 0]) : ACell) :: .inr (.inl (false, (List.replicate 256 0))) :: .inr (.inl (false, (List.replicate 256 0))) :: .inr (.inl (false, (List.replicate 256 0))) :: .inr (.inl (false, (List.replicate 256 0))) :: .inr (.inl (false, (List.replicate 256 0))) :: .inr (.inr (List.replicate 256 0)) :: [])) rfl ?_
  refine OEnds.made1 hm_1 rfl rfl (ks := 256) rfl rfl ?_
  refine OEnds.adv hm_1 3 (pc' := 70) (L' := [qr 0, qi v1, qi v2, qu, qu]) (S' := [.int 64, .ref 0]) (H' := ((.inl (0, [.ref 1, .ref 2, .ref 3, .ref 4, .ref 5, .ref 6, .ref 7, .null, .null, .null, .null, .null, .null, .null, .int 0, .int 0, .int 0, .long 0, .int 0, .int 0, .int 0]) : ACell) :: .inr (.inl (false, (List.replicate 256 0))) :: .inr (.inl (false, (List.replicate 256 0))) :: .inr (.inl (false, (List.replicate 256 0))) :: .inr (.inl (false, (List.replicate 256 0))) :: .inr (.inl (false, (List.replicate 256 0))) :: .inr (.inr (List.replicate 256 0)) :: .inr (.inl (true, (List.replicate 256 0))) :: [])) rfl ?_
  refine OEnds.made1 hm_1 rfl rfl (ks := 64) rfl rfl ?_
  refine OEnds.adv hm_1 3 (pc' := 78) (L' := [qr 0, qi v1, qi v2, qu, qu]) (S' := [.int 64, .ref 0]) (H' := ((.inl (0, [.ref 1, .ref 2, .ref 3, .ref 4, .ref 5, .ref 6, .ref 7, .ref 8, .null, .null, .null, .null, .null, .null, .int 0, .int 0, .int 0, .long 0, .int 0, .int 0, .int 0]) : ACell) :: .inr (.inl (false, (List.replicate 256 0))) :: .inr (.inl (false, (List.replicate 256 0))) :: .inr (.inl (false, (List.replicate 256 0))) :: .inr (.inl (false, (List.replicate 256 0))) :: .inr (.inl (false, (List.replicate 256 0))) :: .inr (.inr (List.replicate 256 0)) :: .inr (.inl (true, (List.replicate 256 0))) :: .inr (.inl (false, (List.replicate 64 0))) :: [])) rfl ?_
  refine OEnds.made1 hm_1 rfl rfl (ks := 64) rfl rfl ?_
  refine OEnds.adv hm_1 3 (pc' := 86) (L' := [qr 0, qi v1, qi v2, qu, qu]) (S' := [.int 64, .ref 0]) (H' := ((.inl (0, [.ref 1, .ref 2, .ref 3, .ref 4, .ref 5, .ref 6, .ref 7, .ref 8, .ref 9, .null, .null, .null, .null, .null, .int 0, .int 0, .int 0, .long 0, .int 0, .int 0, .int 0]) : ACell) :: .inr (.inl (false, (List.replicate 256 0))) :: .inr (.inl (false, (List.replicate 256 0))) :: .inr (.inl (false, (List.replicate 256 0))) :: .inr (.inl (false, (List.replicate 256 0))) :: .inr (.inl (false, (List.replicate 256 0))) :: .inr (.inr (List.replicate 256 0)) :: .inr (.inl (true, (List.replicate 256 0))) :: .inr (.inl (false, (List.replicate 64 0))) :: .inr (.inl (false, (List.replicate 64 0))) :: [])) rfl ?_
  refine OEnds.made1 hm_1 rfl rfl (ks := 64) rfl rfl ?_
  refine OEnds.adv hm_1 3 (pc' := 94) (L' := [qr 0, qi v1, qi v2, qu, qu]) (S' := [.int 64, .ref 0]) (H' := ((.inl (0, [.ref 1, .ref 2, .ref 3, .ref 4, .ref 5, .ref 6, .ref 7, .ref 8, .ref 9, .ref 10, .null, .null, .null, .null, .int 0, .int 0, .int 0, .long 0, .int 0, .int 0, .int 0]) : ACell) :: .inr (.inl (false, (List.replicate 256 0))) :: .inr (.inl (false, (List.replicate 256 0))) :: .inr (.inl (false, (List.replicate 256 0))) :: .inr (.inl (false, (List.replicate 256 0))) :: .inr (.inl (false, (List.replicate 256 0))) :: .inr (.inr (List.replicate 256 0)) :: .inr (.inl (true, (List.replicate 256 0))) :: .inr (.inl (false, (List.replicate 64 0))) :: .inr (.inl (false, (List.replicate 64 0))) :: .inr (.inl (false, (List.replicate 64 0))) :: [])) rfl ?_
  refine OEnds.made1 hm_1 rfl rfl (ks := 64) rfl rfl ?_
  refine OEnds.adv hm_1 3 (pc' := 102) (L' := [qr 0, qi v1, qi v2, qu, qu]) (S' := [.int 64, .ref 0]) (H' := ((.inl (0, [.ref 1, .ref 2, .ref 3, .ref 4, .ref 5, .ref 6, .ref 7, .ref 8, .ref 9, .ref 10, .ref 11, .null, .null, .null, .int 0, .int 0, .int 0, .long 0, .int 0, .int 0, .int 0]) : ACell) :: .inr (.inl (false, (List.replicate 256 0))) :: .inr (.inl (false, (List.replicate 256 0))) :: .inr (.inl (false, (List.replicate 256 0))) :: .inr (.inl (false, (List.replicate 256 0))) :: .inr (.inl (false, (List.replicate 256 0))) :: .inr (.inr (List.replicate 256 0)) :: .inr (.inl (true, (List.replicate 256 0))) :: .inr (.inl (false, (List.replicate 64 0))) :: .inr (.inl (false, (List.replicate 64 0))) :: .inr (.inl (false, (List.replicate 64 0))) :: .inr (.inl (false, (List.replicate 64 0))) :: [])) rfl ?_
  refine OEnds.made1 hm_1 rfl rfl (ks := 64) rfl rfl ?_
  refine OEnds.adv hm_1 3 (pc' := 110) (L' := [qr 0, qi v1, qi v2, qu, qu]) (S' := [.int 64, .ref 0]) (H' := ((.inl (0, [.ref 1, .ref 2, .ref 3, .ref 4, .ref 5, .ref 6, .ref 7, .ref 8, .ref 9, .ref 10, .ref 11, .ref 12, .null, .null, .int 0, .int 0, .int 0, .long 0, .int 0, .int 0, .int 0]) : ACell) :: .inr (.inl (false, (List.replicate 256 0))) :: .inr (.inl (false, (List.replicate 256 0))) :: .inr (.inl (false, (List.replicate 256 0))) :: .inr (.inl (false, (List.replicate 256 0))) :: .inr (.inl (false, (List.replicate 256 0))) :: .inr (.inr (List.replicate 256 0)) :: .inr (.inl (true, (List.replicate 256 0))) :: .inr (.inl (false, (List.replicate 64 0))) :: .inr (.inl (false, (List.replicate 64 0))) :: .inr (.inl (false, (List.replicate 64 0))) :: .inr (.inl (false, (List.replicate 64 0))) :: .inr (.inl (false, (List.replicate 64 0))) :: [])) rfl ?_
  refine OEnds.made1 hm_1 rfl rfl (ks := 64) rfl rfl ?_
  refine OEnds.adv hm_1 3 (pc' := 118) (L' := [qr 0, qi v1, qi v2, qu, qu]) (S' := [.int 64, .ref 0]) (H' := ((.inl (0, [.ref 1, .ref 2, .ref 3, .ref 4, .ref 5, .ref 6, .ref 7, .ref 8, .ref 9, .ref 10, .ref 11, .ref 12, .ref 13, .null, .int 0, .int 0, .int 0, .long 0, .int 0, .int 0, .int 0]) : ACell) :: .inr (.inl (false, (List.replicate 256 0))) :: .inr (.inl (false, (List.replicate 256 0))) :: .inr (.inl (false, (List.replicate 256 0))) :: .inr (.inl (false, (List.replicate 256 0))) :: .inr (.inl (false, (List.replicate 256 0))) :: .inr (.inr (List.replicate 256 0)) :: .inr (.inl (true, (List.replicate 256 0))) :: .inr (.inl (false, (List.replicate 64 0))) :: .inr (.inl (false, (List.replicate 64 0))) :: .inr (.inl (false, (List.replicate 64 0))) :: .inr (.inl (false, (List.replicate 64 0))) :: .inr (.inl (false, (List.replicate 64 0))) :: .inr (.inl (false, (List.replicate 64 0))) :: [])) rfl ?_
  refine OEnds.made1 hm_1 rfl rfl (ks := 64) rfl rfl ?_
  refine OEnds.adv hm_1 5 (pc' := 127) (L' := [qr 0, qi v1, qi v2, qi v1, qu]) (S' := [.int 1, .int v1]) (H' := (bk0 (List.replicate 256 0) (List.replicate 256 0) (List.replicate 256 0) (List.replicate 256 0) (List.replicate 256 0) (List.replicate 256 0) (List.replicate 256 0) (List.replicate 64 0) (List.replicate 64 0) (List.replicate 64 0) (List.replicate 64 0) (List.replicate 64 0) (List.replicate 64 0) (List.replicate 64 0) 0 0 0 0 0 0 0 [])) rfl ?_
  by_cases hc4 : v1 < (1 : Int32)
  · simp only [if_pos hc4] at h
    refine OEnds.icmpF hm_1 rfl ((tlt hc4).2.1) ?_
    refine OEnds.adv hm_1 2 (pc' := 132) (L' := [qr 0, qi v1, qi v2, qi 1, qu]) (S' := []) (H' := (bk0 (List.replicate 256 0) (List.replicate 256 0) (List.replicate 256 0) (List.replicate 256 0) (List.replicate 256 0) (List.replicate 256 0) (List.replicate 256 0) (List.replicate 64 0) (List.replicate 64 0) (List.replicate 64 0) (List.replicate 64 0) (List.replicate 64 0) (List.replicate 64 0) (List.replicate 64 0) 0 0 0 0 0 0 0 [])) rfl ?_
    exact ok_init_132 h
  · simp only [if_neg hc4] at h
    refine OEnds.icmpT hm_1 rfl (q := 132) rfl ((flt hc4).2.1) ?_
    show OEnds own_P 1 132 [qr 0, qi v1, qi v2, qi v1, qu] [] (bk0 (List.replicate 256 0) (List.replicate 256 0) (List.replicate 256 0) (List.replicate 256 0) (List.replicate 256 0) (List.replicate 256 0) (List.replicate 256 0) (List.replicate 64 0) (List.replicate 64 0) (List.replicate 64 0) (List.replicate 64 0) (List.replicate 64 0) (List.replicate 64 0) (List.replicate 64 0) 0 0 0 0 0 0 0 []) _
    exact ok_init_132 h
theorem ok_better {zh zi zp zt zm : List Int32} {zo : List Int64} {zf zc zs zq zr ze zg zd : List Int32} {zl zj zk : Int32} {zu : Int64} {zb zn za : Int32} {po : List ACell} {v1 v2 v3 res : Int32} (h : f_better v1 v2 v3 = some res) : OEnds own_P 7 0 [qr 0, qi v1, qi v2, qi v3] [] (bk0 zh zi zp zt zm zo zf zc zs zq zr ze zg zd zl zj zk zu zb zn za po) (some (.int res), (bk0 zh zi zp zt zm zo zf zc zs zq zr ze zg zd zl zj zk zu zb zn za po), 0, 0) := by
  unfold f_better at h
  refine OEnds.adv hm_7 1 (pc' := 1) (L' := [qr 0, qi v1, qi v2, qi v3]) (S' := [.int v1]) (H' := (bk0 zh zi zp zt zm zo zf zc zs zq zr ze zg zd zl zj zk zu zb zn za po)) rfl ?_
  by_cases hc5 : v1 = (0 : Int32)
  · simp only [if_pos hc5] at h
    refine OEnds.ifF hm_7 rfl ((teq hc5).2) ?_
    refine OEnds.adv hm_7 2 (pc' := 6) (L' := [qr 0, qi v1, qi v2, qi v3]) (S' := [.int v3, .int v2]) (H' := (bk0 zh zi zp zt zm zo zf zc zs zq zr ze zg zd zl zj zk zu zb zn za po)) rfl ?_
    by_cases hc6 : v3 < v2
    · simp only [if_pos hc6] at h
      refine OEnds.icmpF hm_7 rfl ((tlt hc6).2.2.2) ?_
      refine OEnds.adv hm_7 2 (pc' := 14) (L' := [qr 0, qi v1, qi v2, qi v3]) (S' := [.int 1]) (H' := (bk0 zh zi zp zt zm zo zf zc zs zq zr ze zg zd zl zj zk zu zb zn za po)) rfl ?_
      cases h
      exact OEnds.iret hm_7 rfl rfl
    · simp only [if_neg hc6] at h
      refine OEnds.icmpT hm_7 rfl (q := 13) rfl ((flt hc6).2.2.2) ?_
      refine OEnds.adv hm_7 1 (pc' := 14) (L' := [qr 0, qi v1, qi v2, qi v3]) (S' := [.int 0]) (H' := (bk0 zh zi zp zt zm zo zf zc zs zq zr ze zg zd zl zj zk zu zb zn za po)) rfl ?_
      cases h
      exact OEnds.iret hm_7 rfl rfl
  · simp only [if_neg hc5] at h
    refine OEnds.ifT hm_7 rfl (q := 15) rfl ((feq hc5).2) ?_
    refine OEnds.adv hm_7 2 (pc' := 17) (L' := [qr 0, qi v1, qi v2, qi v3]) (S' := [.int v3, .int v2]) (H' := (bk0 zh zi zp zt zm zo zf zc zs zq zr ze zg zd zl zj zk zu zb zn za po)) rfl ?_
    by_cases hc7 : v2 < v3
    · simp only [if_pos hc7] at h
      refine OEnds.icmpF hm_7 rfl ((tlt hc7).2.1) ?_
      refine OEnds.adv hm_7 2 (pc' := 25) (L' := [qr 0, qi v1, qi v2, qi v3]) (S' := [.int 1]) (H' := (bk0 zh zi zp zt zm zo zf zc zs zq zr ze zg zd zl zj zk zu zb zn za po)) rfl ?_
      cases h
      exact OEnds.iret hm_7 rfl rfl
    · simp only [if_neg hc7] at h
      refine OEnds.icmpT hm_7 rfl (q := 24) rfl ((flt hc7).2.1) ?_
      refine OEnds.adv hm_7 1 (pc' := 25) (L' := [qr 0, qi v1, qi v2, qi v3]) (S' := [.int 0]) (H' := (bk0 zh zi zp zt zm zo zf zc zs zq zr ze zg zd zl zj zk zu zb zn za po)) rfl ?_
      cases h
      exact OEnds.iret hm_7 rfl rfl
theorem ok_bestOf_4 {zh zi zp zt zm : List Int32} {zo : List Int64} {zf zc zs zq zr ze zg zd : List Int32} {zl zj zk : Int32} {zu : Int64} {zb zn za : Int32} {po : List ACell} : ∀ (n : Nat), ∀ {v1 v2 v3 : Int32} {d4 d5 : Slot} {res : Int32}, f_bestOf_4 zh zi zc zb n v1 v2 v3 = some res → OEnds own_P 4 4 [qr 0, qi v1, qi v2, qi v3, d4, d5] [] (bk0 zh zi zp zt zm zo zf zc zs zq zr ze zg zd zl zj zk zu zb zn za po) (some (.int res), (bk0 zh zi zp zt zm zo zf zc zs zq zr ze zg zd zl zj zk zu zb zn za po), 0, 0) := by
  intro n
  induction n with
  | zero => intro v1 v2 v3 d4 d5 res h; cases h
  | succ n ih =>
    intro v1 v2 v3 d4 d5 res h
    unfold f_bestOf_4 at h
    refine OEnds.adv hm_4 3 (pc' := 9) (L' := [qr 0, qi v1, qi v2, qi v3, qu, qu]) (S' := [.int zb, .int v3]) (H' := (bk0 zh zi zp zt zm zo zf zc zs zq zr ze zg zd zl zj zk zu zb zn za po)) rfl ?_
    by_cases hc8 : v3 < zb
    · simp only [if_pos hc8] at h
      refine OEnds.icmpF hm_4 rfl ((tlt hc8).2.1) ?_
      refine OEnds.adv hm_4 3 (pc' := 17) (L' := [qr 0, qi v1, qi v2, qi v3, qu, qu]) (S' := [.int v3, .ref 8]) (H' := (bk0 zh zi zp zt zm zo zf zc zs zq zr ze zg zd zl zj zk zu zb zn za po)) rfl ?_
      obtain ⟨x1, hx1, h⟩ := bnd h
      refine OEnds.plain hm_4 rfl rfl (x_iaload rfl hx1) ?_
      refine OEnds.adv hm_4 4 (pc' := 26) (L' := [qr 0, qi v1, qi v2, qi v3, qi x1, qu]) (S' := [.int x1, .ref 1]) (H' := (bk0 zh zi zp zt zm zo zf zc zs zq zr ze zg zd zl zj zk zu zb zn za po)) rfl ?_
      obtain ⟨x2, hx2, h⟩ := bnd h
      refine OEnds.plain hm_4 rfl rfl (x_iaload rfl hx2) ?_
      refine OEnds.adv hm_4 1 (pc' := 28) (L' := [qr 0, qi v1, qi v2, qi v3, qi x1, qu]) (S' := [.int v1, .int x2]) (H' := (bk0 zh zi zp zt zm zo zf zc zs zq zr ze zg zd zl zj zk zu zb zn za po)) rfl ?_
      by_cases hc9 : x2 = v1
      · simp only [if_pos hc9] at h
        refine OEnds.icmpT hm_4 rfl (q := 34) rfl ((teq hc9).1) ?_
        refine OEnds.adv hm_4 3 (pc' := 40) (L' := [qr 0, qi v1, qi v2, qi v3, qi x1, qu]) (S' := [.int x1, .ref 2]) (H' := (bk0 zh zi zp zt zm zo zf zc zs zq zr ze zg zd zl zj zk zu zb zn za po)) rfl ?_
        obtain ⟨x3, hx3, h⟩ := bnd h
        refine OEnds.plain hm_4 rfl rfl (x_iaload rfl hx3) ?_
        refine OEnds.adv hm_4 2 (pc' := 44) (L' := [qr 0, qi v1, qi v2, qi v3, qi x1, qi x3]) (S' := [.int v2]) (H' := (bk0 zh zi zp zt zm zo zf zc zs zq zr ze zg zd zl zj zk zu zb zn za po)) rfl ?_
        by_cases hc10 : v2 = (0 : Int32)
        · simp only [if_pos hc10] at h
          refine OEnds.ifT hm_4 rfl (q := 58) rfl ((teq hc10).1) ?_
          refine OEnds.adv hm_4 4 (pc' := 4) (L' := [qr 0, qi v1, qi x3, qi (v3 + (1 : Int32)), qi x1, qi x3]) (S' := []) (H' := (bk0 zh zi zp zt zm zo zf zc zs zq zr ze zg zd zl zj zk zu zb zn za po)) rfl ?_
          exact ih h
        · simp only [if_neg hc10] at h
          refine OEnds.ifF hm_4 rfl ((feq hc10).1) ?_
          refine OEnds.adv hm_4 4 (pc' := 52) (L' := [qr 0, qi v1, qi v2, qi v3, qi x1, qi x3]) (S' := [.int v2, .int x3, .int v1, .ref 0]) (H' := (bk0 zh zi zp zt zm zo zf zc zs zq zr ze zg zd zl zj zk zu zb zn za po)) rfl ?_
          obtain ⟨r4, hq11, h⟩ := bnd h
          refine OEnds.call0 hm_4 rfl rfl (by decide) rfl (as := [.ref 0, .int v1, .int x3, .int v2]) (rest := []) rfl rfl (ok_better hq11) ?_
          show OEnds own_P 4 55 [qr 0, qi v1, qi v2, qi v3, qi x1, qi x3] [.int r4] (bk0 zh zi zp zt zm zo zf zc zs zq zr ze zg zd zl zj zk zu zb zn za po) _
          by_cases hc12 : r4 = (0 : Int32)
          · simp only [if_pos hc12] at h
            refine OEnds.ifT hm_4 rfl (q := 61) rfl ((teq hc12).1) ?_
            refine OEnds.adv hm_4 2 (pc' := 4) (L' := [qr 0, qi v1, qi v2, qi (v3 + (1 : Int32)), qi x1, qi x3]) (S' := []) (H' := (bk0 zh zi zp zt zm zo zf zc zs zq zr ze zg zd zl zj zk zu zb zn za po)) rfl ?_
            exact ih h
          · simp only [if_neg hc12] at h
            refine OEnds.ifF hm_4 rfl ((feq hc12).1) ?_
            refine OEnds.adv hm_4 4 (pc' := 4) (L' := [qr 0, qi v1, qi x3, qi (v3 + (1 : Int32)), qi x1, qi x3]) (S' := []) (H' := (bk0 zh zi zp zt zm zo zf zc zs zq zr ze zg zd zl zj zk zu zb zn za po)) rfl ?_
            exact ih h
      · simp only [if_neg hc9] at h
        refine OEnds.icmpF hm_4 rfl ((feq hc9).1) ?_
        refine OEnds.adv hm_4 3 (pc' := 4) (L' := [qr 0, qi v1, qi v2, qi (v3 + (1 : Int32)), qi x1, qu]) (S' := []) (H' := (bk0 zh zi zp zt zm zo zf zc zs zq zr ze zg zd zl zj zk zu zb zn za po)) rfl ?_
        exact ih h
    · simp only [if_neg hc8] at h
      refine OEnds.icmpT hm_4 rfl (q := 67) rfl ((flt hc8).2.1) ?_
      refine OEnds.adv hm_4 1 (pc' := 68) (L' := [qr 0, qi v1, qi v2, qi v3, qu, qu]) (S' := [.int v2]) (H' := (bk0 zh zi zp zt zm zo zf zc zs zq zr ze zg zd zl zj zk zu zb zn za po)) rfl ?_
      cases h
      exact OEnds.iret hm_4 rfl rfl
theorem ok_bestOf {zh zi zp zt zm : List Int32} {zo : List Int64} {zf zc zs zq zr ze zg zd : List Int32} {zl zj zk : Int32} {zu : Int64} {zb zn za : Int32} {po : List ACell} {v1 res : Int32} (h : f_bestOf zh zi zc zb v1 = some res) : OEnds own_P 4 0 [qr 0, qi v1, qu, qu, qu, qu] [] (bk0 zh zi zp zt zm zo zf zc zs zq zr ze zg zd zl zj zk zu zb zn za po) (some (.int res), (bk0 zh zi zp zt zm zo zf zc zs zq zr ze zg zd zl zj zk zu zb zn za po), 0, 0) := by
  unfold f_bestOf at h
  refine OEnds.adv hm_4 4 (pc' := 4) (L' := [qr 0, qi v1, qi 0, qi 0, qu, qu]) (S' := []) (H' := (bk0 zh zi zp zt zm zo zf zc zs zq zr ze zg zd zl zj zk zu zb zn za po)) rfl ?_
  exact ok_bestOf_4 100000 h
theorem ok_crosses {zh zi zp zt zm : List Int32} {zo : List Int64} {zf zc zs zq zr ze zg zd : List Int32} {zl zj zk : Int32} {zu : Int64} {zb zn za : Int32} {po : List ACell} {v1 v2 v3 res : Int32} (h : f_crosses v1 v2 v3 = some res) : OEnds own_P 8 0 [qr 0, qi v1, qi v2, qi v3] [] (bk0 zh zi zp zt zm zo zf zc zs zq zr ze zg zd zl zj zk zu zb zn za po) (some (.int res), (bk0 zh zi zp zt zm zo zf zc zs zq zr ze zg zd zl zj zk zu zb zn za po), 0, 0) := by
  unfold f_crosses at h
  refine OEnds.adv hm_8 1 (pc' := 1) (L' := [qr 0, qi v1, qi v2, qi v3]) (S' := [.int v1]) (H' := (bk0 zh zi zp zt zm zo zf zc zs zq zr ze zg zd zl zj zk zu zb zn za po)) rfl ?_
  by_cases hc13 : v1 = (0 : Int32)
  · simp only [if_pos hc13] at h
    refine OEnds.ifF hm_8 rfl ((teq hc13).2) ?_
    refine OEnds.adv hm_8 2 (pc' := 6) (L' := [qr 0, qi v1, qi v2, qi v3]) (S' := [.int v2, .int v3]) (H' := (bk0 zh zi zp zt zm zo zf zc zs zq zr ze zg zd zl zj zk zu zb zn za po)) rfl ?_
    by_cases hc14 : v2 < v3
    · simp only [if_pos hc14] at h
      refine OEnds.icmpT hm_8 rfl (q := 13) rfl ((tlt hc14).2.2.1) ?_
      refine OEnds.adv hm_8 1 (pc' := 14) (L' := [qr 0, qi v1, qi v2, qi v3]) (S' := [.int 0]) (H' := (bk0 zh zi zp zt zm zo zf zc zs zq zr ze zg zd zl zj zk zu zb zn za po)) rfl ?_
      cases h
      exact OEnds.iret hm_8 rfl rfl
    · simp only [if_neg hc14] at h
      refine OEnds.icmpF hm_8 rfl ((flt hc14).2.2.1) ?_
      refine OEnds.adv hm_8 2 (pc' := 14) (L' := [qr 0, qi v1, qi v2, qi v3]) (S' := [.int 1]) (H' := (bk0 zh zi zp zt zm zo zf zc zs zq zr ze zg zd zl zj zk zu zb zn za po)) rfl ?_
      cases h
      exact OEnds.iret hm_8 rfl rfl
  · simp only [if_neg hc13] at h
    refine OEnds.ifT hm_8 rfl (q := 15) rfl ((feq hc13).2) ?_
    refine OEnds.adv hm_8 2 (pc' := 17) (L' := [qr 0, qi v1, qi v2, qi v3]) (S' := [.int v2, .int v3]) (H' := (bk0 zh zi zp zt zm zo zf zc zs zq zr ze zg zd zl zj zk zu zb zn za po)) rfl ?_
    by_cases hc15 : v3 < v2
    · simp only [if_pos hc15] at h
      refine OEnds.icmpT hm_8 rfl (q := 24) rfl ((tlt hc15).1) ?_
      refine OEnds.adv hm_8 1 (pc' := 25) (L' := [qr 0, qi v1, qi v2, qi v3]) (S' := [.int 0]) (H' := (bk0 zh zi zp zt zm zo zf zc zs zq zr ze zg zd zl zj zk zu zb zn za po)) rfl ?_
      cases h
      exact OEnds.iret hm_8 rfl rfl
    · simp only [if_neg hc15] at h
      refine OEnds.icmpF hm_8 rfl ((flt hc15).1) ?_
      refine OEnds.adv hm_8 2 (pc' := 25) (L' := [qr 0, qi v1, qi v2, qi v3]) (S' := [.int 1]) (H' := (bk0 zh zi zp zt zm zo zf zc zs zq zr ze zg zd zl zj zk zu zb zn za po)) rfl ?_
      cases h
      exact OEnds.iret hm_8 rfl rfl
theorem ok_gatherLevel_7 {zh zi zp zt zm : List Int32} {zo : List Int64} {zf zc zs zq zr zg zd : List Int32} {zl zj zk : Int32} {zu : Int64} {zb zn : Int32} {po : List ACell} : ∀ (n : Nat), ∀ {ze : List Int32} {za v1 v2 v3 : Int32} {d4 : Slot} {w_o_lvlIds : List Int32} {w_o_lvlN : Int32}, f_gatherLevel_7 zh zi zc zb n ze za v1 v2 v3 = some (w_o_lvlIds, w_o_lvlN) → OEnds own_P 10 7 [qr 0, qi v1, qi v2, qi v3, d4] [] (bk0 zh zi zp zt zm zo zf zc zs zq zr ze zg zd zl zj zk zu zb zn za po) (none, (bk0 zh zi zp zt zm zo zf zc zs zq zr w_o_lvlIds zg zd zl zj zk zu zb zn w_o_lvlN po), 0, 0) := by
  intro n
  induction n with
  | zero => intro ze za v1 v2 v3 d4 w_o_lvlIds w_o_lvlN h; cases h
  | succ n ih =>
    intro ze za v1 v2 v3 d4 w_o_lvlIds w_o_lvlN h
    unfold f_gatherLevel_7 at h
    refine OEnds.adv hm_10 3 (pc' := 12) (L' := [qr 0, qi v1, qi v2, qi v3, qu]) (S' := [.int zb, .int v3]) (H' := (bk0 zh zi zp zt zm zo zf zc zs zq zr ze zg zd zl zj zk zu zb zn za po)) rfl ?_
    by_cases hc16 : v3 < zb
    · simp only [if_pos hc16] at h
      refine OEnds.icmpF hm_10 rfl ((tlt hc16).2.1) ?_
      refine OEnds.adv hm_10 3 (pc' := 20) (L' := [qr 0, qi v1, qi v2, qi v3, qu]) (S' := [.int v3, .ref 8]) (H' := (bk0 zh zi zp zt zm zo zf zc zs zq zr ze zg zd zl zj zk zu zb zn za po)) rfl ?_
      obtain ⟨x5, hx5, h⟩ := bnd h
      refine OEnds.plain hm_10 rfl rfl (x_iaload rfl hx5) ?_
      refine OEnds.adv hm_10 4 (pc' := 29) (L' := [qr 0, qi v1, qi v2, qi v3, qi x5]) (S' := [.int x5, .ref 1]) (H' := (bk0 zh zi zp zt zm zo zf zc zs zq zr ze zg zd zl zj zk zu zb zn za po)) rfl ?_
      obtain ⟨x6, hx6, h⟩ := bnd h
      refine OEnds.plain hm_10 rfl rfl (x_iaload rfl hx6) ?_
      refine OEnds.adv hm_10 1 (pc' := 31) (L' := [qr 0, qi v1, qi v2, qi v3, qi x5]) (S' := [.int v1, .int x6]) (H' := (bk0 zh zi zp zt zm zo zf zc zs zq zr ze zg zd zl zj zk zu zb zn za po)) rfl ?_
      by_cases hc17 : x6 = v1
      · simp only [if_pos hc17] at h
        refine OEnds.icmpF hm_10 rfl ((teq hc17).2) ?_
        refine OEnds.adv hm_10 3 (pc' := 40) (L' := [qr 0, qi v1, qi v2, qi v3, qi x5]) (S' := [.int x5, .ref 2]) (H' := (bk0 zh zi zp zt zm zo zf zc zs zq zr ze zg zd zl zj zk zu zb zn za po)) rfl ?_
        obtain ⟨x7, hx7, h⟩ := bnd h
        refine OEnds.plain hm_10 rfl rfl (x_iaload rfl hx7) ?_
        refine OEnds.adv hm_10 1 (pc' := 42) (L' := [qr 0, qi v1, qi v2, qi v3, qi x5]) (S' := [.int v2, .int x7]) (H' := (bk0 zh zi zp zt zm zo zf zc zs zq zr ze zg zd zl zj zk zu zb zn za po)) rfl ?_
        by_cases hc18 : x7 = v2
        · simp only [if_pos hc18] at h
          refine OEnds.icmpF hm_10 rfl ((teq hc18).2) ?_
          refine OEnds.adv hm_10 3 (pc' := 51) (L' := [qr 0, qi v1, qi v2, qi v3, qi x5]) (S' := [.int 64, .int za]) (H' := (bk0 zh zi zp zt zm zo zf zc zs zq zr ze zg zd zl zj zk zu zb zn za po)) rfl ?_
          by_cases hc19 : za < (64 : Int32)
          · simp only [if_pos hc19] at h
            refine OEnds.icmpF hm_10 rfl ((tlt hc19).2.1) ?_
            refine OEnds.adv hm_10 5 (pc' := 64) (L' := [qr 0, qi v1, qi v2, qi v3, qi x5]) (S' := [.int x5, .int za, .ref 12]) (H' := (bk0 zh zi zp zt zm zo zf zc zs zq zr ze zg zd zl zj zk zu zb zn za po)) rfl ?_
            obtain ⟨A8, hA8, h⟩ := bnd h
            refine OEnds.plain hm_10 rfl rfl (x_iastore rfl (Nat.le_of_ble_eq_true rfl) hA8) ?_
            refine OEnds.adv hm_10 8 (pc' := 7) (L' := [qr 0, qi v1, qi v2, qi (v3 + (1 : Int32)), qi x5]) (S' := []) (H' := (bk0 zh zi zp zt zm zo zf zc zs zq zr A8 zg zd zl zj zk zu zb zn (za + (1 : Int32)) po)) rfl ?_
            exact ih h
          · simp only [if_neg hc19] at h
            refine OEnds.icmpT hm_10 rfl (q := 75) rfl ((flt hc19).2.1) ?_
            refine OEnds.adv hm_10 2 (pc' := 7) (L' := [qr 0, qi v1, qi v2, qi (v3 + (1 : Int32)), qi x5]) (S' := []) (H' := (bk0 zh zi zp zt zm zo zf zc zs zq zr ze zg zd zl zj zk zu zb zn za po)) rfl ?_
            exact ih h
        · simp only [if_neg hc18] at h
          refine OEnds.icmpT hm_10 rfl (q := 75) rfl ((feq hc18).2) ?_
          refine OEnds.adv hm_10 2 (pc' := 7) (L' := [qr 0, qi v1, qi v2, qi (v3 + (1 : Int32)), qi x5]) (S' := []) (H' := (bk0 zh zi zp zt zm zo zf zc zs zq zr ze zg zd zl zj zk zu zb zn za po)) rfl ?_
          exact ih h
      · simp only [if_neg hc17] at h
        refine OEnds.icmpT hm_10 rfl (q := 75) rfl ((feq hc17).2) ?_
        refine OEnds.adv hm_10 2 (pc' := 7) (L' := [qr 0, qi v1, qi v2, qi (v3 + (1 : Int32)), qi x5]) (S' := []) (H' := (bk0 zh zi zp zt zm zo zf zc zs zq zr ze zg zd zl zj zk zu zb zn za po)) rfl ?_
        exact ih h
    · simp only [if_neg hc16] at h
      refine OEnds.icmpT hm_10 rfl (q := 81) rfl ((flt hc16).2.1) ?_
      show OEnds own_P 10 81 [qr 0, qi v1, qi v2, qi v3, qu] [] (bk0 zh zi zp zt zm zo zf zc zs zq zr ze zg zd zl zj zk zu zb zn za po) _
      cases h
      exact OEnds.vret hm_10 rfl rfl
theorem ok_gatherLevel {zh zi zp zt zm : List Int32} {zo : List Int64} {zf zc zs zq zr zg zd : List Int32} {zl zj zk : Int32} {zu : Int64} {zb zn : Int32} {po : List ACell} {ze : List Int32} {za v1 v2 : Int32} {w_o_lvlIds : List Int32} {w_o_lvlN : Int32} (h : f_gatherLevel zh zi zc zb ze za v1 v2 = some (w_o_lvlIds, w_o_lvlN)) : OEnds own_P 10 0 [qr 0, qi v1, qi v2, qu, qu] [] (bk0 zh zi zp zt zm zo zf zc zs zq zr ze zg zd zl zj zk zu zb zn za po) (none, (bk0 zh zi zp zt zm zo zf zc zs zq zr w_o_lvlIds zg zd zl zj zk zu zb zn w_o_lvlN po), 0, 0) := by
  unfold f_gatherLevel at h
  refine OEnds.adv hm_10 5 (pc' := 7) (L' := [qr 0, qi v1, qi v2, qi 0, qu]) (S' := []) (H' := (bk0 zh zi zp zt zm zo zf zc zs zq zr ze zg zd zl zj zk zu zb zn 0 po)) rfl ?_
  exact ok_gatherLevel_7 100000 h
theorem ok_sortLevel_73 {zh zi zp zt zm : List Int32} {zo : List Int64} {zf zc zs zq zr zg zd : List Int32} {zl zj zk : Int32} {zu : Int64} {zb zn za : Int32} {po : List ACell} {kb : List Int32 → Int32 → Option (List Int32)} (hkb : ∀ {ze : List Int32} {v1 : Int32} {d2 d3 d4 d5 : Slot} {w_o_lvlIds : List Int32}, kb ze v1 = some w_o_lvlIds → OEnds own_P 11 2 [qr 0, qi v1, d2, d3, d4, d5] [] (bk0 zh zi zp zt zm zo zf zc zs zq zr ze zg zd zl zj zk zu zb zn za po) (none, (bk0 zh zi zp zt zm zo zf zc zs zq zr w_o_lvlIds zg zd zl zj zk zu zb zn za po), 0, 0)) : ∀ {ze : List Int32} {v1 v2 v5 : Int32} {d3 d4 : Slot} {w_o_lvlIds : List Int32}, f_sortLevel_73 kb zo za ze v1 v2 v5 = some w_o_lvlIds → OEnds own_P 11 73 [qr 0, qi v1, qi v2, d3, d4, qi v5] [] (bk0 zh zi zp zt zm zo zf zc zs zq zr ze zg zd zl zj zk zu zb zn za po) (none, (bk0 zh zi zp zt zm zo zf zc zs zq zr w_o_lvlIds zg zd zl zj zk zu zb zn za po), 0, 0) := by
  intro ze v1 v2 v5 d3 d4 w_o_lvlIds h
  unfold f_sortLevel_73 at h
  refine OEnds.adv hm_11 4 (pc' := 80) (L' := [qr 0, qi v1, qi v2, qu, qu, qi v5]) (S' := [.int v2, .int v5, .ref 12]) (H' := (bk0 zh zi zp zt zm zo zf zc zs zq zr ze zg zd zl zj zk zu zb zn za po)) rfl ?_
  obtain ⟨A15, hA15, h⟩ := bnd h
  refine OEnds.plain hm_11 rfl rfl (x_iastore rfl (Nat.le_of_ble_eq_true rfl) hA15) ?_
  refine OEnds.adv hm_11 2 (pc' := 2) (L' := [qr 0, qi (v1 + (1 : Int32)), qi v2, qu, qu, qi v5]) (S' := []) (H' := (bk0 zh zi zp zt zm zo zf zc zs zq zr A15 zg zd zl zj zk zu zb zn za po)) rfl ?_
  exact hkb h
theorem ok_sortLevel_27 {zh zi zp zt zm : List Int32} {zo : List Int64} {zf zc zs zq zr zg zd : List Int32} {zl zj zk : Int32} {zu : Int64} {zb zn za : Int32} {po : List ACell} {k73 : List Int32 → Int32 → Int32 → Int32 → Option (List Int32)} (hk73 : ∀ {ze : List Int32} {v1 v2 v5 : Int32} {d3 d4 : Slot} {w_o_lvlIds : List Int32}, k73 ze v1 v2 v5 = some w_o_lvlIds → OEnds own_P 11 73 [qr 0, qi v1, qi v2, d3, d4, qi v5] [] (bk0 zh zi zp zt zm zo zf zc zs zq zr ze zg zd zl zj zk zu zb zn za po) (none, (bk0 zh zi zp zt zm zo zf zc zs zq zr w_o_lvlIds zg zd zl zj zk zu zb zn za po), 0, 0)) : ∀ (n : Nat), ∀ {ze : List Int32} {v1 v2 : Int32} {v3 : Int64} {v5 : Int32} {w_o_lvlIds : List Int32}, f_sortLevel_27 k73 zo za n ze v1 v2 v3 v5 = some w_o_lvlIds → OEnds own_P 11 27 [qr 0, qi v1, qi v2, ql v3, qw, qi v5] [] (bk0 zh zi zp zt zm zo zf zc zs zq zr ze zg zd zl zj zk zu zb zn za po) (none, (bk0 zh zi zp zt zm zo zf zc zs zq zr w_o_lvlIds zg zd zl zj zk zu zb zn za po), 0, 0) := by
  intro n
  induction n with
  | zero => intro ze v1 v2 v3 v5 w_o_lvlIds h; cases h
  | succ n ih =>
    intro ze v1 v2 v3 v5 w_o_lvlIds h
    unfold f_sortLevel_27 at h
    refine OEnds.adv hm_11 1 (pc' := 29) (L' := [qr 0, qi v1, qi v2, ql v3, qw, qi v5]) (S' := [.int v5]) (H' := (bk0 zh zi zp zt zm zo zf zc zs zq zr ze zg zd zl zj zk zu zb zn za po)) rfl ?_
    by_cases hc20 : (0 : Int32) < v5
    · simp only [if_pos hc20] at h
      refine OEnds.ifF hm_11 rfl ((tlt hc20).2.2.2) ?_
      refine OEnds.adv hm_11 7 (pc' := 44) (L' := [qr 0, qi v1, qi v2, ql v3, qw, qi v5]) (S' := [.int (v5 - (1 : Int32)), .ref 12, .ref 6]) (H' := (bk0 zh zi zp zt zm zo zf zc zs zq zr ze zg zd zl zj zk zu zb zn za po)) rfl ?_
      obtain ⟨x11, hx11, h⟩ := bnd h
      refine OEnds.plain hm_11 rfl rfl (x_iaload rfl hx11) ?_
      show OEnds own_P 11 45 [qr 0, qi v1, qi v2, ql v3, qw, qi v5] [.int x11, .ref 6] (bk0 zh zi zp zt zm zo zf zc zs zq zr ze zg zd zl zj zk zu zb zn za po) _
      obtain ⟨x12, hx12, h⟩ := bnd h
      refine OEnds.plain hm_11 rfl rfl (x_laload rfl hx12) ?_
      refine OEnds.adv hm_11 2 (pc' := 48) (L' := [qr 0, qi v1, qi v2, ql v3, qw, qi v5]) (S' := [.int (XT.cmpL x12 v3)]) (H' := (bk0 zh zi zp zt zm zo zf zc zs zq zr ze zg zd zl zj zk zu zb zn za po)) rfl ?_
      by_cases hc21 : v3 < x12
      · simp only [if_pos hc21] at h
        refine OEnds.ifF hm_11 rfl ((tlt (c_gt.mpr hc21)).2.2.2) ?_
        refine OEnds.adv hm_11 8 (pc' := 65) (L' := [qr 0, qi v1, qi v2, ql v3, qw, qi v5]) (S' := [.int (v5 - (1 : Int32)), .ref 12, .int v5, .ref 12]) (H' := (bk0 zh zi zp zt zm zo zf zc zs zq zr ze zg zd zl zj zk zu zb zn za po)) rfl ?_
        obtain ⟨x13, hx13, h⟩ := bnd h
        refine OEnds.plain hm_11 rfl rfl (x_iaload rfl hx13) ?_
        show OEnds own_P 11 66 [qr 0, qi v1, qi v2, ql v3, qw, qi v5] [.int x13, .int v5, .ref 12] (bk0 zh zi zp zt zm zo zf zc zs zq zr ze zg zd zl zj zk zu zb zn za po) _
        obtain ⟨A14, hA14, h⟩ := bnd h
        refine OEnds.plain hm_11 rfl rfl (x_iastore rfl (Nat.le_of_ble_eq_true rfl) hA14) ?_
        refine OEnds.adv hm_11 2 (pc' := 27) (L' := [qr 0, qi v1, qi v2, ql v3, qw, qi (v5 + (-1 : Int32))]) (S' := []) (H' := (bk0 zh zi zp zt zm zo zf zc zs zq zr A14 zg zd zl zj zk zu zb zn za po)) rfl ?_
        exact ih h
      · simp only [if_neg hc21] at h
        refine OEnds.ifT hm_11 rfl (q := 73) rfl ((flt (mt c_gt.mp hc21)).2.2.2) ?_
        show OEnds own_P 11 73 [qr 0, qi v1, qi v2, ql v3, qw, qi v5] [] (bk0 zh zi zp zt zm zo zf zc zs zq zr ze zg zd zl zj zk zu zb zn za po) _
        exact hk73 h
    · simp only [if_neg hc20] at h
      refine OEnds.ifT hm_11 rfl (q := 73) rfl ((flt hc20).2.2.2) ?_
      show OEnds own_P 11 73 [qr 0, qi v1, qi v2, ql v3, qw, qi v5] [] (bk0 zh zi zp zt zm zo zf zc zs zq zr ze zg zd zl zj zk zu zb zn za po) _
      exact hk73 h
theorem ok_sortLevel_2 {zh zi zp zt zm : List Int32} {zo : List Int64} {zf zc zs zq zr zg zd : List Int32} {zl zj zk : Int32} {zu : Int64} {zb zn za : Int32} {po : List ACell} : ∀ (n : Nat), ∀ {ze : List Int32} {v1 : Int32} {d2 d3 d4 d5 : Slot} {w_o_lvlIds : List Int32}, f_sortLevel_2 zo za n ze v1 = some w_o_lvlIds → OEnds own_P 11 2 [qr 0, qi v1, d2, d3, d4, d5] [] (bk0 zh zi zp zt zm zo zf zc zs zq zr ze zg zd zl zj zk zu zb zn za po) (none, (bk0 zh zi zp zt zm zo zf zc zs zq zr w_o_lvlIds zg zd zl zj zk zu zb zn za po), 0, 0) := by
  intro n
  induction n with
  | zero => intro ze v1 d2 d3 d4 d5 w_o_lvlIds h; cases h
  | succ n ih =>
    intro ze v1 d2 d3 d4 d5 w_o_lvlIds h
    unfold f_sortLevel_2 at h
    refine OEnds.adv hm_11 3 (pc' := 7) (L' := [qr 0, qi v1, qu, qu, qu, qu]) (S' := [.int za, .int v1]) (H' := (bk0 zh zi zp zt zm zo zf zc zs zq zr ze zg zd zl zj zk zu zb zn za po)) rfl ?_
    by_cases hc22 : v1 < za
    · simp only [if_pos hc22] at h
      refine OEnds.icmpF hm_11 rfl ((tlt hc22).2.1) ?_
      refine OEnds.adv hm_11 3 (pc' := 15) (L' := [qr 0, qi v1, qu, qu, qu, qu]) (S' := [.int v1, .ref 12]) (H' := (bk0 zh zi zp zt zm zo zf zc zs zq zr ze zg zd zl zj zk zu zb zn za po)) rfl ?_
      obtain ⟨x9, hx9, h⟩ := bnd h
      refine OEnds.plain hm_11 rfl rfl (x_iaload rfl hx9) ?_
      refine OEnds.adv hm_11 4 (pc' := 22) (L' := [qr 0, qi v1, qi x9, qu, qu, qu]) (S' := [.int x9, .ref 6]) (H' := (bk0 zh zi zp zt zm zo zf zc zs zq zr ze zg zd zl zj zk zu zb zn za po)) rfl ?_
      obtain ⟨x10, hx10, h⟩ := bnd h
      refine OEnds.plain hm_11 rfl rfl (x_laload rfl hx10) ?_
      refine OEnds.adv hm_11 3 (pc' := 27) (L' := [qr 0, qi v1, qi x9, ql x10, qw, qi v1]) (S' := []) (H' := (bk0 zh zi zp zt zm zo zf zc zs zq zr ze zg zd zl zj zk zu zb zn za po)) rfl ?_
      exact ok_sortLevel_27 (k73 := f_sortLevel_73 (f_sortLevel_2 zo za n) zo za) (ok_sortLevel_73 ih) 100000 h
    · simp only [if_neg hc22] at h
      refine OEnds.icmpT hm_11 rfl (q := 87) rfl ((flt hc22).2.1) ?_
      show OEnds own_P 11 87 [qr 0, qi v1, qu, qu, qu, qu] [] (bk0 zh zi zp zt zm zo zf zc zs zq zr ze zg zd zl zj zk zu zb zn za po) _
      cases h
      exact OEnds.vret hm_11 rfl rfl
theorem ok_sortLevel {zh zi zp zt zm : List Int32} {zo : List Int64} {zf zc zs zq zr zg zd : List Int32} {zl zj zk : Int32} {zu : Int64} {zb zn za : Int32} {po : List ACell} {ze w_o_lvlIds : List Int32} (h : f_sortLevel zo za ze = some w_o_lvlIds) : OEnds own_P 11 0 [qr 0, qu, qu, qu, qu, qu] [] (bk0 zh zi zp zt zm zo zf zc zs zq zr ze zg zd zl zj zk zu zb zn za po) (none, (bk0 zh zi zp zt zm zo zf zc zs zq zr w_o_lvlIds zg zd zl zj zk zu zb zn za po), 0, 0) := by
  unfold f_sortLevel at h
  refine OEnds.adv hm_11 2 (pc' := 2) (L' := [qr 0, qi 1, qu, qu, qu, qu]) (S' := []) (H' := (bk0 zh zi zp zt zm zo zf zc zs zq zr ze zg zd zl zj zk zu zb zn za po)) rfl ?_
  exact ok_sortLevel_2 100000 h
theorem ok_topStep_80 {zh zi zp zt zm : List Int32} {zo : List Int64} {zf zc zs zq zr ze zg : List Int32} {zl zj zk : Int32} {zu : Int64} {zb zn za : Int32} {po : List ACell} : ∀ {zd : List Int32} {v2 v4 : Int32} {d1 d3 : Slot} {res : Int32} {w_o_lvlA : List Int32}, f_topStep_80 zf ze zg zj za zd v2 v4 = some (res, w_o_lvlA) → OEnds own_P 13 80 [qr 0, d1, qi v2, d3, qi v4] [] (bk0 zh zi zp zt zm zo zf zc zs zq zr ze zg zd zl zj zk zu zb zn za po) (some (.int res), (bk0 zh zi zp zt zm zo zf zc zs zq zr ze zg w_o_lvlA zl zj zk zu zb zn za po), 0, 0) := by
  intro zd v2 v4 d1 d3 res w_o_lvlA h
  unfold f_topStep_80 at h
  refine OEnds.adv hm_13 4 (pc' := 86) (L' := [qr 0, qu, qi v2, qu, qi v4]) (S' := [.int v2, .ref 14, .int v2, .ref 14]) (H' := (bk0 zh zi zp zt zm zo zf zc zs zq zr ze zg zd zl zj zk zu zb zn za po)) rfl ?_
  obtain ⟨x20, hx20, h⟩ := bnd h
  refine OEnds.plain hm_13 rfl rfl (x_iaload rfl hx20) ?_
  refine OEnds.adv hm_13 2 (pc' := 90) (L' := [qr 0, qu, qi v2, qu, qi v4]) (S' := [.int (x20 + v4), .int v2, .ref 14]) (H' := (bk0 zh zi zp zt zm zo zf zc zs zq zr ze zg zd zl zj zk zu zb zn za po)) rfl ?_
  obtain ⟨A21, hA21, h⟩ := bnd h
  refine OEnds.plain hm_13 rfl rfl (x_iastore rfl (Nat.le_of_ble_eq_true rfl) hA21) ?_
  refine OEnds.adv hm_13 1 (pc' := 93) (L' := [qr 0, qu, qi v2, qu, qi v4]) (S' := [.int v4]) (H' := (bk0 zh zi zp zt zm zo zf zc zs zq zr ze zg A21 zl zj zk zu zb zn za po)) rfl ?_
  cases h
  exact OEnds.iret hm_13 rfl rfl
theorem ok_topStep_72 {zh zi zp zt zm : List Int32} {zo : List Int64} {zf zc zs zq zr ze zg : List Int32} {zl zj zk : Int32} {zu : Int64} {zb zn za : Int32} {po : List ACell} : ∀ {zd : List Int32} {v2 v4 : Int32} {d1 d3 : Slot} {res : Int32} {w_o_lvlA : List Int32}, f_topStep_72 zf ze zg zj za zd v2 v4 = some (res, w_o_lvlA) → OEnds own_P 13 72 [qr 0, d1, qi v2, d3, qi v4] [] (bk0 zh zi zp zt zm zo zf zc zs zq zr ze zg zd zl zj zk zu zb zn za po) (some (.int res), (bk0 zh zi zp zt zm zo zf zc zs zq zr ze zg w_o_lvlA zl zj zk zu zb zn za po), 0, 0) := by
  intro zd v2 v4 d1 d3 res w_o_lvlA h
  unfold f_topStep_72 at h
  refine OEnds.adv hm_13 1 (pc' := 74) (L' := [qr 0, qu, qi v2, qu, qi v4]) (S' := [.int v4]) (H' := (bk0 zh zi zp zt zm zo zf zc zs zq zr ze zg zd zl zj zk zu zb zn za po)) rfl ?_
  by_cases hc23 : v4 < (0 : Int32)
  · simp only [if_pos hc23] at h
    refine OEnds.ifF hm_13 rfl ((tlt hc23).2.1) ?_
    refine OEnds.adv hm_13 2 (pc' := 80) (L' := [qr 0, qu, qi v2, qu, qi 0]) (S' := []) (H' := (bk0 zh zi zp zt zm zo zf zc zs zq zr ze zg zd zl zj zk zu zb zn za po)) rfl ?_
    exact ok_topStep_80 h
  · simp only [if_neg hc23] at h
    refine OEnds.ifT hm_13 rfl (q := 80) rfl ((flt hc23).2.1) ?_
    show OEnds own_P 13 80 [qr 0, qu, qi v2, qu, qi v4] [] (bk0 zh zi zp zt zm zo zf zc zs zq zr ze zg zd zl zj zk zu zb zn za po) _
    exact ok_topStep_80 h
theorem ok_topStep_57 {zh zi zp zt zm : List Int32} {zo : List Int64} {zf zc zs zq zr ze zg : List Int32} {zl zj zk : Int32} {zu : Int64} {zb zn za : Int32} {po : List ACell} : ∀ {zd : List Int32} {v2 v4 : Int32} {d1 d3 : Slot} {res : Int32} {w_o_lvlA : List Int32}, f_topStep_57 zf ze zg zj za zd v2 v4 = some (res, w_o_lvlA) → OEnds own_P 13 57 [qr 0, d1, qi v2, d3, qi v4] [] (bk0 zh zi zp zt zm zo zf zc zs zq zr ze zg zd zl zj zk zu zb zn za po) (some (.int res), (bk0 zh zi zp zt zm zo zf zc zs zq zr ze zg w_o_lvlA zl zj zk zu zb zn za po), 0, 0) := by
  intro zd v2 v4 d1 d3 res w_o_lvlA h
  unfold f_topStep_57 at h
  refine OEnds.adv hm_13 3 (pc' := 63) (L' := [qr 0, qu, qi v2, qu, qi v4]) (S' := [.int v4, .int zj]) (H' := (bk0 zh zi zp zt zm zo zf zc zs zq zr ze zg zd zl zj zk zu zb zn za po)) rfl ?_
  by_cases hc24 : zj < v4
  · simp only [if_pos hc24] at h
    refine OEnds.icmpF hm_13 rfl ((tlt hc24).2.1) ?_
    refine OEnds.adv hm_13 3 (pc' := 72) (L' := [qr 0, qu, qi v2, qu, qi zj]) (S' := []) (H' := (bk0 zh zi zp zt zm zo zf zc zs zq zr ze zg zd zl zj zk zu zb zn za po)) rfl ?_
    exact ok_topStep_72 h
  · simp only [if_neg hc24] at h
    refine OEnds.icmpT hm_13 rfl (q := 72) rfl ((flt hc24).2.1) ?_
    show OEnds own_P 13 72 [qr 0, qu, qi v2, qu, qi v4] [] (bk0 zh zi zp zt zm zo zf zc zs zq zr ze zg zd zl zj zk zu zb zn za po) _
    exact ok_topStep_72 h
theorem ok_topStep_35 {zh zi zp zt zm : List Int32} {zo : List Int64} {zf zc zs zq zr ze zg : List Int32} {zl zj zk : Int32} {zu : Int64} {zb zn za : Int32} {po : List ACell} : ∀ {zd : List Int32} {v1 v2 : Int32} {d3 d4 : Slot} {res : Int32} {w_o_lvlA : List Int32}, f_topStep_35 zf ze zg zj za zd v1 v2 = some (res, w_o_lvlA) → OEnds own_P 13 35 [qr 0, qi v1, qi v2, d3, d4] [] (bk0 zh zi zp zt zm zo zf zc zs zq zr ze zg zd zl zj zk zu zb zn za po) (some (.int res), (bk0 zh zi zp zt zm zo zf zc zs zq zr ze zg w_o_lvlA zl zj zk zu zb zn za po), 0, 0) := by
  intro zd v1 v2 d3 d4 res w_o_lvlA h
  unfold f_topStep_35 at h
  refine OEnds.adv hm_13 5 (pc' := 43) (L' := [qr 0, qi v1, qi v2, qu, qi v1]) (S' := [.int v2, .ref 13]) (H' := (bk0 zh zi zp zt zm zo zf zc zs zq zr ze zg zd zl zj zk zu zb zn za po)) rfl ?_
  obtain ⟨x18, hx18, h⟩ := bnd h
  refine OEnds.plain hm_13 rfl rfl (x_iaload rfl hx18) ?_
  refine OEnds.adv hm_13 1 (pc' := 46) (L' := [qr 0, qi v1, qi v2, qu, qi v1]) (S' := [.int v1, .int x18]) (H' := (bk0 zh zi zp zt zm zo zf zc zs zq zr ze zg zd zl zj zk zu zb zn za po)) rfl ?_
  by_cases hc25 : x18 < v1
  · simp only [if_pos hc25] at h
    refine OEnds.icmpF hm_13 rfl ((tlt hc25).2.1) ?_
    refine OEnds.adv hm_13 3 (pc' := 54) (L' := [qr 0, qi v1, qi v2, qu, qi v1]) (S' := [.int v2, .ref 13]) (H' := (bk0 zh zi zp zt zm zo zf zc zs zq zr ze zg zd zl zj zk zu zb zn za po)) rfl ?_
    obtain ⟨x19, hx19, h⟩ := bnd h
    refine OEnds.plain hm_13 rfl rfl (x_iaload rfl hx19) ?_
    refine OEnds.adv hm_13 1 (pc' := 57) (L' := [qr 0, qi v1, qi v2, qu, qi x19]) (S' := []) (H' := (bk0 zh zi zp zt zm zo zf zc zs zq zr ze zg zd zl zj zk zu zb zn za po)) rfl ?_
    exact ok_topStep_57 h
  · simp only [if_neg hc25] at h
    refine OEnds.icmpT hm_13 rfl (q := 57) rfl ((flt hc25).2.1) ?_
    show OEnds own_P 13 57 [qr 0, qi v1, qi v2, qu, qi v1] [] (bk0 zh zi zp zt zm zo zf zc zs zq zr ze zg zd zl zj zk zu zb zn za po) _
    exact ok_topStep_57 h
theorem ok_topStep_11 {zh zi zp zt zm : List Int32} {zo : List Int64} {zf zc zs zq zr ze zg : List Int32} {zl zj zk : Int32} {zu : Int64} {zb zn za : Int32} {po : List ACell} {k35 : List Int32 → Int32 → Int32 → Option (Int32 × List Int32)} (hk35 : ∀ {zd : List Int32} {v1 v2 : Int32} {d3 d4 : Slot} {res : Int32} {w_o_lvlA : List Int32}, k35 zd v1 v2 = some (res, w_o_lvlA) → OEnds own_P 13 35 [qr 0, qi v1, qi v2, d3, d4] [] (bk0 zh zi zp zt zm zo zf zc zs zq zr ze zg zd zl zj zk zu zb zn za po) (some (.int res), (bk0 zh zi zp zt zm zo zf zc zs zq zr ze zg w_o_lvlA zl zj zk zu zb zn za po), 0, 0)) : ∀ (n : Nat), ∀ {zd : List Int32} {v1 v2 : Int32} {d3 d4 : Slot} {res : Int32} {w_o_lvlA : List Int32}, f_topStep_11 k35 zf ze zg zj za n zd v1 v2 = some (res, w_o_lvlA) → OEnds own_P 13 11 [qr 0, qi v1, qi v2, d3, d4] [] (bk0 zh zi zp zt zm zo zf zc zs zq zr ze zg zd zl zj zk zu zb zn za po) (some (.int res), (bk0 zh zi zp zt zm zo zf zc zs zq zr ze zg w_o_lvlA zl zj zk zu zb zn za po), 0, 0) := by
  intro n
  induction n with
  | zero => intro zd v1 v2 d3 d4 res w_o_lvlA h; cases h
  | succ n ih =>
    intro zd v1 v2 d3 d4 res w_o_lvlA h
    unfold f_topStep_11 at h
    refine OEnds.adv hm_13 3 (pc' := 16) (L' := [qr 0, qi v1, qi v2, qu, qu]) (S' := [.int za, .int v2]) (H' := (bk0 zh zi zp zt zm zo zf zc zs zq zr ze zg zd zl zj zk zu zb zn za po)) rfl ?_
    by_cases hc26 : v2 < za
    · simp only [if_pos hc26] at h
      refine OEnds.icmpF hm_13 rfl ((tlt hc26).2.1) ?_
      refine OEnds.adv hm_13 3 (pc' := 24) (L' := [qr 0, qi v1, qi v2, qu, qu]) (S' := [.int v2, .ref 12]) (H' := (bk0 zh zi zp zt zm zo zf zc zs zq zr ze zg zd zl zj zk zu zb zn za po)) rfl ?_
      obtain ⟨x16, hx16, h⟩ := bnd h
      refine OEnds.plain hm_13 rfl rfl (x_iaload rfl hx16) ?_
      refine OEnds.adv hm_13 4 (pc' := 31) (L' := [qr 0, qi v1, qi v2, qi x16, qu]) (S' := [.int x16, .ref 7]) (H' := (bk0 zh zi zp zt zm zo zf zc zs zq zr ze zg zd zl zj zk zu zb zn za po)) rfl ?_
      obtain ⟨x17, hx17, h⟩ := bnd h
      refine OEnds.plain hm_13 rfl rfl (x_baload rfl hx17) ?_
      show OEnds own_P 13 32 [qr 0, qi v1, qi v2, qi x16, qu] [.int x17] (bk0 zh zi zp zt zm zo zf zc zs zq zr ze zg zd zl zj zk zu zb zn za po) _
      by_cases hc27 : x17 = (0 : Int32)
      · simp only [if_pos hc27] at h
        refine OEnds.ifT hm_13 rfl (q := 94) rfl ((teq hc27).1) ?_
        refine OEnds.adv hm_13 2 (pc' := 11) (L' := [qr 0, qi v1, qi (v2 + (1 : Int32)), qi x16, qu]) (S' := []) (H' := (bk0 zh zi zp zt zm zo zf zc zs zq zr ze zg zd zl zj zk zu zb zn za po)) rfl ?_
        exact ih h
      · simp only [if_neg hc27] at h
        refine OEnds.ifF hm_13 rfl ((feq hc27).1) ?_
        show OEnds own_P 13 35 [qr 0, qi v1, qi v2, qi x16, qu] [] (bk0 zh zi zp zt zm zo zf zc zs zq zr ze zg zd zl zj zk zu zb zn za po) _
        exact hk35 h
    · simp only [if_neg hc26] at h
      refine OEnds.icmpT hm_13 rfl (q := 100) rfl ((flt hc26).2.1) ?_
      refine OEnds.adv hm_13 1 (pc' := 101) (L' := [qr 0, qi v1, qi v2, qu, qu]) (S' := [.int 0]) (H' := (bk0 zh zi zp zt zm zo zf zc zs zq zr ze zg zd zl zj zk zu zb zn za po)) rfl ?_
      cases h
      exact OEnds.iret hm_13 rfl rfl
theorem ok_topStep {zh zi zp zt zm : List Int32} {zo : List Int64} {zf zc zs zq zr ze zg : List Int32} {zl zj zk : Int32} {zu : Int64} {zb zn za : Int32} {po : List ACell} {zd : List Int32} {v1 res : Int32} {w_o_lvlA : List Int32} (h : f_topStep zf ze zg zj za zd v1 = some (res, w_o_lvlA)) : OEnds own_P 13 0 [qr 0, qi v1, qu, qu, qu] [] (bk0 zh zi zp zt zm zo zf zc zs zq zr ze zg zd zl zj zk zu zb zn za po) (some (.int res), (bk0 zh zi zp zt zm zo zf zc zs zq zr ze zg w_o_lvlA zl zj zk zu zb zn za po), 0, 0) := by
  unfold f_topStep at h
  refine OEnds.adv hm_13 2 (pc' := 4) (L' := [qr 0, qi v1, qu, qu, qu]) (S' := [.int zj]) (H' := (bk0 zh zi zp zt zm zo zf zc zs zq zr ze zg zd zl zj zk zu zb zn za po)) rfl ?_
  by_cases hc28 : (0 : Int32) < zj
  · simp only [if_pos hc28] at h
    refine OEnds.ifT hm_13 rfl (q := 9) rfl ((tlt hc28).2.2.1) ?_
    refine OEnds.adv hm_13 2 (pc' := 11) (L' := [qr 0, qi v1, qi 0, qu, qu]) (S' := []) (H' := (bk0 zh zi zp zt zm zo zf zc zs zq zr ze zg zd zl zj zk zu zb zn za po)) rfl ?_
    exact ok_topStep_11 (k35 := f_topStep_35 zf ze zg zj za) ok_topStep_35 100000 h
  · simp only [if_neg hc28] at h
    refine OEnds.ifF hm_13 rfl ((flt hc28).2.2.1) ?_
    refine OEnds.adv hm_13 1 (pc' := 8) (L' := [qr 0, qi v1, qu, qu, qu]) (S' := [.int 0]) (H' := (bk0 zh zi zp zt zm zo zf zc zs zq zr ze zg zd zl zj zk zu zb zn za po)) rfl ?_
    cases h
    exact OEnds.iret hm_13 rfl rfl
theorem ok_proRataStep_102 {zh zi zp zt zm : List Int32} {zo : List Int64} {zf zc zs zq zr ze zg : List Int32} {zl zj zk : Int32} {zu : Int64} {zb zn za : Int32} {po : List ACell} {kb : List Int32 → Int32 → Int64 → Int32 → Int32 → Option (Int32 × List Int32)} (hkb : ∀ {zd : List Int32} {v1 : Int32} {v2 : Int64} {v4 v5 : Int32} {d6 d7 d8 : Slot} {res : Int32} {w_o_lvlA : List Int32}, kb zd v1 v2 v4 v5 = some (res, w_o_lvlA) → OEnds own_P 27 53 [qr 0, qi v1, ql v2, qw, qi v4, qi v5, d6, d7, d8] [] (bk0 zh zi zp zt zm zo zf zc zs zq zr ze zg zd zl zj zk zu zb zn za po) (some (.int res), (bk0 zh zi zp zt zm zo zf zc zs zq zr ze zg w_o_lvlA zl zj zk zu zb zn za po), 0, 0)) : ∀ {zd : List Int32} {v1 : Int32} {v2 : Int64} {v4 v5 v8 : Int32} {d6 d7 : Slot} {res : Int32} {w_o_lvlA : List Int32}, f_proRataStep_102 kb zg zl za zd v1 v2 v4 v5 v8 = some (res, w_o_lvlA) → OEnds own_P 27 102 [qr 0, qi v1, ql v2, qw, qi v4, qi v5, d6, d7, qi v8] [] (bk0 zh zi zp zt zm zo zf zc zs zq zr ze zg zd zl zj zk zu zb zn za po) (some (.int res), (bk0 zh zi zp zt zm zo zf zc zs zq zr ze zg w_o_lvlA zl zj zk zu zb zn za po), 0, 0) := by
  intro zd v1 v2 v4 v5 v8 d6 d7 res w_o_lvlA h
  unfold f_proRataStep_102 at h
  refine OEnds.adv hm_27 4 (pc' := 109) (L' := [qr 0, qi v1, ql v2, qw, qi v4, qi v5, qu, qu, qi v8]) (S' := [.int v5, .ref 14, .int v5, .ref 14]) (H' := (bk0 zh zi zp zt zm zo zf zc zs zq zr ze zg zd zl zj zk zu zb zn za po)) rfl ?_
  obtain ⟨x26, hx26, h⟩ := bnd h
  refine OEnds.plain hm_27 rfl rfl (x_iaload rfl hx26) ?_
  refine OEnds.adv hm_27 2 (pc' := 113) (L' := [qr 0, qi v1, ql v2, qw, qi v4, qi v5, qu, qu, qi v8]) (S' := [.int (x26 + v8), .int v5, .ref 14]) (H' := (bk0 zh zi zp zt zm zo zf zc zs zq zr ze zg zd zl zj zk zu zb zn za po)) rfl ?_
  obtain ⟨A27, hA27, h⟩ := bnd h
  refine OEnds.plain hm_27 rfl rfl (x_iastore rfl (Nat.le_of_ble_eq_true rfl) hA27) ?_
  refine OEnds.adv hm_27 6 (pc' := 53) (L' := [qr 0, qi v1, ql v2, qw, qi (v4 + v8), qi (v5 + (1 : Int32)), qu, qu, qi v8]) (S' := []) (H' := (bk0 zh zi zp zt zm zo zf zc zs zq zr ze zg A27 zl zj zk zu zb zn za po)) rfl ?_
  exact hkb h
theorem ok_proRataStep_53 {zh zi zp zt zm : List Int32} {zo : List Int64} {zf zc zs zq zr ze zg : List Int32} {zl zj zk : Int32} {zu : Int64} {zb zn za : Int32} {po : List ACell} : ∀ (n : Nat), ∀ {zd : List Int32} {v1 : Int32} {v2 : Int64} {v4 v5 : Int32} {d6 d7 d8 : Slot} {res : Int32} {w_o_lvlA : List Int32}, f_proRataStep_53 zg zl za n zd v1 v2 v4 v5 = some (res, w_o_lvlA) → OEnds own_P 27 53 [qr 0, qi v1, ql v2, qw, qi v4, qi v5, d6, d7, d8] [] (bk0 zh zi zp zt zm zo zf zc zs zq zr ze zg zd zl zj zk zu zb zn za po) (some (.int res), (bk0 zh zi zp zt zm zo zf zc zs zq zr ze zg w_o_lvlA zl zj zk zu zb zn za po), 0, 0) := by
  intro n
  induction n with
  | zero => intro zd v1 v2 v4 v5 d6 d7 d8 res w_o_lvlA h; cases h
  | succ n ih =>
    intro zd v1 v2 v4 v5 d6 d7 d8 res w_o_lvlA h
    unfold f_proRataStep_53 at h
    refine OEnds.adv hm_27 3 (pc' := 59) (L' := [qr 0, qi v1, ql v2, qw, qi v4, qi v5, qu, qu, qu]) (S' := [.int za, .int v5]) (H' := (bk0 zh zi zp zt zm zo zf zc zs zq zr ze zg zd zl zj zk zu zb zn za po)) rfl ?_
    by_cases hc29 : v5 < za
    · simp only [if_pos hc29] at h
      refine OEnds.icmpF hm_27 rfl ((tlt hc29).2.1) ?_
      refine OEnds.adv hm_27 3 (pc' := 68) (L' := [qr 0, qi v1, ql v2, qw, qi v4, qi v5, qu, qu, qu]) (S' := [.int v5, .ref 13]) (H' := (bk0 zh zi zp zt zm zo zf zc zs zq zr ze zg zd zl zj zk zu zb zn za po)) rfl ?_
      obtain ⟨x24, hx24, h⟩ := bnd h
      refine OEnds.plain hm_27 rfl rfl (x_iaload rfl hx24) ?_
      refine OEnds.adv hm_27 3 (pc' := 75) (L' := [qr 0, qi v1, ql v2, qw, qi v4, qi v5, qu, qu, qu]) (S' := [.int v5, .ref 14, .int x24]) (H' := (bk0 zh zi zp zt zm zo zf zc zs zq zr ze zg zd zl zj zk zu zb zn za po)) rfl ?_
      obtain ⟨x25, hx25, h⟩ := bnd h
      refine OEnds.plain hm_27 rfl rfl (x_iaload rfl hx25) ?_
      refine OEnds.adv hm_27 8 (pc' := 86) (L' := [qr 0, qi v1, ql v2, qw, qi v4, qi v5, ql (x24 - x25).toInt64, qw, qu]) (S' := [.long v2, .long (v1.toInt64 * (x24 - x25).toInt64)]) (H' := (bk0 zh zi zp zt zm zo zf zc zs zq zr ze zg zd zl zj zk zu zb zn za po)) rfl ?_
      by_cases hz30 : v2 = 0
      · simp only [if_pos hz30] at h
        cases h
      simp only [if_neg hz30] at h
      refine OEnds.plain hm_27 rfl rfl (x_ldiv hz30) ?_
      refine OEnds.adv hm_27 5 (pc' := 96) (L' := [qr 0, qi v1, ql v2, qw, qi v4, qi v5, ql (x24 - x25).toInt64, qw, qi ((v1.toInt64 * (x24 - x25).toInt64) / v2).toInt32]) (S' := [.int zl, .int ((v1.toInt64 * (x24 - x25).toInt64) / v2).toInt32]) (H' := (bk0 zh zi zp zt zm zo zf zc zs zq zr ze zg zd zl zj zk zu zb zn za po)) rfl ?_
      by_cases hc31 : ((v1.toInt64 * (x24 - x25).toInt64) / v2).toInt32 < zl
      · simp only [if_pos hc31] at h
        refine OEnds.icmpF hm_27 rfl ((tlt hc31).2.1) ?_
        refine OEnds.adv hm_27 2 (pc' := 102) (L' := [qr 0, qi v1, ql v2, qw, qi v4, qi v5, ql (x24 - x25).toInt64, qw, qi 0]) (S' := []) (H' := (bk0 zh zi zp zt zm zo zf zc zs zq zr ze zg zd zl zj zk zu zb zn za po)) rfl ?_
        exact ok_proRataStep_102 ih h
      · simp only [if_neg hc31] at h
        refine OEnds.icmpT hm_27 rfl (q := 102) rfl ((flt hc31).2.1) ?_
        show OEnds own_P 27 102 [qr 0, qi v1, ql v2, qw, qi v4, qi v5, ql (x24 - x25).toInt64, qw, qi ((v1.toInt64 * (x24 - x25).toInt64) / v2).toInt32] [] (bk0 zh zi zp zt zm zo zf zc zs zq zr ze zg zd zl zj zk zu zb zn za po) _
        exact ok_proRataStep_102 ih h
    · simp only [if_neg hc29] at h
      refine OEnds.icmpT hm_27 rfl (q := 127) rfl ((flt hc29).2.1) ?_
      refine OEnds.adv hm_27 1 (pc' := 129) (L' := [qr 0, qi v1, ql v2, qw, qi v4, qi v5, qu, qu, qu]) (S' := [.int v4]) (H' := (bk0 zh zi zp zt zm zo zf zc zs zq zr ze zg zd zl zj zk zu zb zn za po)) rfl ?_
      cases h
      exact OEnds.iret hm_27 rfl rfl
theorem ok_proRataStep_39 {zh zi zp zt zm : List Int32} {zo : List Int64} {zf zc zs zq zr ze zg : List Int32} {zl zj zk : Int32} {zu : Int64} {zb zn za : Int32} {po : List ACell} : ∀ {zd : List Int32} {v1 : Int32} {v2 : Int64} {d4 d5 d6 d7 d8 : Slot} {res : Int32} {w_o_lvlA : List Int32}, f_proRataStep_39 zg zl za zd v1 v2 = some (res, w_o_lvlA) → OEnds own_P 27 39 [qr 0, qi v1, ql v2, qw, d4, d5, d6, d7, d8] [] (bk0 zh zi zp zt zm zo zf zc zs zq zr ze zg zd zl zj zk zu zb zn za po) (some (.int res), (bk0 zh zi zp zt zm zo zf zc zs zq zr ze zg w_o_lvlA zl zj zk zu zb zn za po), 0, 0) := by
  intro zd v1 v2 d4 d5 d6 d7 d8 res w_o_lvlA h
  unfold f_proRataStep_39 at h
  refine OEnds.adv hm_27 3 (pc' := 42) (L' := [qr 0, qi v1, ql v2, qw, qu, qu, qu, qu, qu]) (S' := [.int (XT.cmpL v2 (0 : Int64))]) (H' := (bk0 zh zi zp zt zm zo zf zc zs zq zr ze zg zd zl zj zk zu zb zn za po)) rfl ?_
  by_cases hc32 : (0 : Int64) < v2
  · simp only [if_pos hc32] at h
    refine OEnds.ifT hm_27 rfl (q := 47) rfl ((tlt (c_gt.mpr hc32)).2.2.1) ?_
    refine OEnds.adv hm_27 4 (pc' := 53) (L' := [qr 0, qi v1, ql v2, qw, qi 0, qi 0, qu, qu, qu]) (S' := []) (H' := (bk0 zh zi zp zt zm zo zf zc zs zq zr ze zg zd zl zj zk zu zb zn za po)) rfl ?_
    exact ok_proRataStep_53 100000 h
  · simp only [if_neg hc32] at h
    refine OEnds.ifF hm_27 rfl ((flt (mt c_gt.mp hc32)).2.2.1) ?_
    refine OEnds.adv hm_27 1 (pc' := 46) (L' := [qr 0, qi v1, ql v2, qw, qu, qu, qu, qu, qu]) (S' := [.int 0]) (H' := (bk0 zh zi zp zt zm zo zf zc zs zq zr ze zg zd zl zj zk zu zb zn za po)) rfl ?_
    cases h
    exact OEnds.iret hm_27 rfl rfl
theorem ok_proRataStep_5 {zh zi zp zt zm : List Int32} {zo : List Int64} {zf zc zs zq zr ze zg : List Int32} {zl zj zk : Int32} {zu : Int64} {zb zn za : Int32} {po : List ACell} {k39 : List Int32 → Int32 → Int64 → Option (Int32 × List Int32)} (hk39 : ∀ {zd : List Int32} {v1 : Int32} {v2 : Int64} {d4 d5 d6 d7 d8 : Slot} {res : Int32} {w_o_lvlA : List Int32}, k39 zd v1 v2 = some (res, w_o_lvlA) → OEnds own_P 27 39 [qr 0, qi v1, ql v2, qw, d4, d5, d6, d7, d8] [] (bk0 zh zi zp zt zm zo zf zc zs zq zr ze zg zd zl zj zk zu zb zn za po) (some (.int res), (bk0 zh zi zp zt zm zo zf zc zs zq zr ze zg w_o_lvlA zl zj zk zu zb zn za po), 0, 0)) : ∀ (n : Nat), ∀ {zd : List Int32} {v1 : Int32} {v2 : Int64} {v4 : Int32} {d5 d6 d7 d8 : Slot} {res : Int32} {w_o_lvlA : List Int32}, f_proRataStep_5 k39 zg zl za n zd v1 v2 v4 = some (res, w_o_lvlA) → OEnds own_P 27 5 [qr 0, qi v1, ql v2, qw, qi v4, d5, d6, d7, d8] [] (bk0 zh zi zp zt zm zo zf zc zs zq zr ze zg zd zl zj zk zu zb zn za po) (some (.int res), (bk0 zh zi zp zt zm zo zf zc zs zq zr ze zg w_o_lvlA zl zj zk zu zb zn za po), 0, 0) := by
  intro n
  induction n with
  | zero => intro zd v1 v2 v4 d5 d6 d7 d8 res w_o_lvlA h; cases h
  | succ n ih =>
    intro zd v1 v2 v4 d5 d6 d7 d8 res w_o_lvlA h
    unfold f_proRataStep_5 at h
    refine OEnds.adv hm_27 3 (pc' := 11) (L' := [qr 0, qi v1, ql v2, qw, qi v4, qu, qu, qu, qu]) (S' := [.int za, .int v4]) (H' := (bk0 zh zi zp zt zm zo zf zc zs zq zr ze zg zd zl zj zk zu zb zn za po)) rfl ?_
    by_cases hc33 : v4 < za
    · simp only [if_pos hc33] at h
      refine OEnds.icmpF hm_27 rfl ((tlt hc33).2.1) ?_
      refine OEnds.adv hm_27 4 (pc' := 21) (L' := [qr 0, qi v1, ql v2, qw, qi v4, qu, qu, qu, qu]) (S' := [.int v4, .ref 13, .long v2]) (H' := (bk0 zh zi zp zt zm zo zf zc zs zq zr ze zg zd zl zj zk zu zb zn za po)) rfl ?_
      obtain ⟨x22, hx22, h⟩ := bnd h
      refine OEnds.plain hm_27 rfl rfl (x_iaload rfl hx22) ?_
      refine OEnds.adv hm_27 3 (pc' := 28) (L' := [qr 0, qi v1, ql v2, qw, qi v4, qu, qu, qu, qu]) (S' := [.int v4, .ref 14, .int x22, .long v2]) (H' := (bk0 zh zi zp zt zm zo zf zc zs zq zr ze zg zd zl zj zk zu zb zn za po)) rfl ?_
      obtain ⟨x23, hx23, h⟩ := bnd h
      refine OEnds.plain hm_27 rfl rfl (x_iaload rfl hx23) ?_
      refine OEnds.adv hm_27 6 (pc' := 5) (L' := [qr 0, qi v1, ql (v2 + (x22 - x23).toInt64), qw, qi (v4 + (1 : Int32)), qu, qu, qu, qu]) (S' := []) (H' := (bk0 zh zi zp zt zm zo zf zc zs zq zr ze zg zd zl zj zk zu zb zn za po)) rfl ?_
      exact ih h
    · simp only [if_neg hc33] at h
      refine OEnds.icmpT hm_27 rfl (q := 39) rfl ((flt hc33).2.1) ?_
      show OEnds own_P 27 39 [qr 0, qi v1, ql v2, qw, qi v4, qu, qu, qu, qu] [] (bk0 zh zi zp zt zm zo zf zc zs zq zr ze zg zd zl zj zk zu zb zn za po) _
      exact hk39 h
theorem ok_proRataStep {zh zi zp zt zm : List Int32} {zo : List Int64} {zf zc zs zq zr ze zg : List Int32} {zl zj zk : Int32} {zu : Int64} {zb zn za : Int32} {po : List ACell} {zd : List Int32} {v1 res : Int32} {w_o_lvlA : List Int32} (h : f_proRataStep zg zl za zd v1 = some (res, w_o_lvlA)) : OEnds own_P 27 0 [qr 0, qi v1, qu, qu, qu, qu, qu, qu, qu] [] (bk0 zh zi zp zt zm zo zf zc zs zq zr ze zg zd zl zj zk zu zb zn za po) (some (.int res), (bk0 zh zi zp zt zm zo zf zc zs zq zr ze zg w_o_lvlA zl zj zk zu zb zn za po), 0, 0) := by
  unfold f_proRataStep at h
  refine OEnds.adv hm_27 4 (pc' := 5) (L' := [qr 0, qi v1, ql 0, qw, qi 0, qu, qu, qu, qu]) (S' := []) (H' := (bk0 zh zi zp zt zm zo zf zc zs zq zr ze zg zd zl zj zk zu zb zn za po)) rfl ?_
  exact ok_proRataStep_5 (k39 := f_proRataStep_39 zg zl za) ok_proRataStep_39 100000 h
theorem ok_timeStep_43 {zh zi zp zt zm : List Int32} {zo : List Int64} {zf zc zs zq zr ze zg : List Int32} {zl zj zk : Int32} {zu : Int64} {zb zn za : Int32} {po : List ACell} {kb : List Int32 → Int32 → Int32 → Option (List Int32)} (hkb : ∀ {zd : List Int32} {v2 v3 : Int32} {d1 d4 d5 : Slot} {w_o_lvlA : List Int32}, kb zd v2 v3 = some w_o_lvlA → OEnds own_P 14 4 [qr 0, d1, qi v2, qi v3, d4, d5] [] (bk0 zh zi zp zt zm zo zf zc zs zq zr ze zg zd zl zj zk zu zb zn za po) (none, (bk0 zh zi zp zt zm zo zf zc zs zq zr ze zg w_o_lvlA zl zj zk zu zb zn za po), 0, 0)) : ∀ {zd : List Int32} {v2 v3 t0 : Int32} {d1 d4 d5 : Slot} {w_o_lvlA : List Int32}, f_timeStep_43 kb zg za zd v2 v3 t0 = some w_o_lvlA → OEnds own_P 14 43 [qr 0, d1, qi v2, qi v3, d4, d5] [.int t0] (bk0 zh zi zp zt zm zo zf zc zs zq zr ze zg zd zl zj zk zu zb zn za po) (none, (bk0 zh zi zp zt zm zo zf zc zs zq zr ze zg w_o_lvlA zl zj zk zu zb zn za po), 0, 0) := by
  intro zd v2 v3 t0 d1 d4 d5 w_o_lvlA h
  unfold f_timeStep_43 at h
  refine OEnds.adv hm_14 2 (pc' := 47) (L' := [qr 0, qu, qi v2, qi v3, qu, qi t0]) (S' := [.int t0]) (H' := (bk0 zh zi zp zt zm zo zf zc zs zq zr ze zg zd zl zj zk zu zb zn za po)) rfl ?_
  by_cases hc34 : (0 : Int32) < t0
  · simp only [if_pos hc34] at h
    refine OEnds.ifF hm_14 rfl ((tlt hc34).2.2.2) ?_
    refine OEnds.adv hm_14 4 (pc' := 56) (L' := [qr 0, qu, qi v2, qi v3, qu, qi t0]) (S' := [.int v3, .ref 14, .int v3, .ref 14]) (H' := (bk0 zh zi zp zt zm zo zf zc zs zq zr ze zg zd zl zj zk zu zb zn za po)) rfl ?_
    obtain ⟨x30, hx30, h⟩ := bnd h
    refine OEnds.plain hm_14 rfl rfl (x_iaload rfl hx30) ?_
    refine OEnds.adv hm_14 2 (pc' := 60) (L' := [qr 0, qu, qi v2, qi v3, qu, qi t0]) (S' := [.int (x30 + t0), .int v3, .ref 14]) (H' := (bk0 zh zi zp zt zm zo zf zc zs zq zr ze zg zd zl zj zk zu zb zn za po)) rfl ?_
    obtain ⟨A31, hA31, h⟩ := bnd h
    refine OEnds.plain hm_14 rfl rfl (x_iastore rfl (Nat.le_of_ble_eq_true rfl) hA31) ?_
    refine OEnds.adv hm_14 6 (pc' := 4) (L' := [qr 0, qu, qi (v2 - t0), qi (v3 + (1 : Int32)), qu, qi t0]) (S' := []) (H' := (bk0 zh zi zp zt zm zo zf zc zs zq zr ze zg A31 zl zj zk zu zb zn za po)) rfl ?_
    exact hkb h
  · simp only [if_neg hc34] at h
    refine OEnds.ifT hm_14 rfl (q := 66) rfl ((flt hc34).2.2.2) ?_
    refine OEnds.adv hm_14 2 (pc' := 4) (L' := [qr 0, qu, qi v2, qi (v3 + (1 : Int32)), qu, qi t0]) (S' := []) (H' := (bk0 zh zi zp zt zm zo zf zc zs zq zr ze zg zd zl zj zk zu zb zn za po)) rfl ?_
    exact hkb h
theorem ok_timeStep_4 {zh zi zp zt zm : List Int32} {zo : List Int64} {zf zc zs zq zr ze zg : List Int32} {zl zj zk : Int32} {zu : Int64} {zb zn za : Int32} {po : List ACell} : ∀ (n : Nat), ∀ {zd : List Int32} {v2 v3 : Int32} {d1 d4 d5 : Slot} {w_o_lvlA : List Int32}, f_timeStep_4 zg za n zd v2 v3 = some w_o_lvlA → OEnds own_P 14 4 [qr 0, d1, qi v2, qi v3, d4, d5] [] (bk0 zh zi zp zt zm zo zf zc zs zq zr ze zg zd zl zj zk zu zb zn za po) (none, (bk0 zh zi zp zt zm zo zf zc zs zq zr ze zg w_o_lvlA zl zj zk zu zb zn za po), 0, 0) := by
  intro n
  induction n with
  | zero => intro zd v2 v3 d1 d4 d5 w_o_lvlA h; cases h
  | succ n ih =>
    intro zd v2 v3 d1 d4 d5 w_o_lvlA h
    unfold f_timeStep_4 at h
    refine OEnds.adv hm_14 3 (pc' := 9) (L' := [qr 0, qu, qi v2, qi v3, qu, qu]) (S' := [.int za, .int v3]) (H' := (bk0 zh zi zp zt zm zo zf zc zs zq zr ze zg zd zl zj zk zu zb zn za po)) rfl ?_
    by_cases hc35 : v3 < za
    · simp only [if_pos hc35] at h
      refine OEnds.icmpF hm_14 rfl ((tlt hc35).2.1) ?_
      refine OEnds.adv hm_14 1 (pc' := 13) (L' := [qr 0, qu, qi v2, qi v3, qu, qu]) (S' := [.int v2]) (H' := (bk0 zh zi zp zt zm zo zf zc zs zq zr ze zg zd zl zj zk zu zb zn za po)) rfl ?_
      by_cases hc36 : (0 : Int32) < v2
      · simp only [if_pos hc36] at h
        refine OEnds.ifF hm_14 rfl ((tlt hc36).2.2.2) ?_
        refine OEnds.adv hm_14 3 (pc' := 21) (L' := [qr 0, qu, qi v2, qi v3, qu, qu]) (S' := [.int v3, .ref 13]) (H' := (bk0 zh zi zp zt zm zo zf zc zs zq zr ze zg zd zl zj zk zu zb zn za po)) rfl ?_
        obtain ⟨x28, hx28, h⟩ := bnd h
        refine OEnds.plain hm_14 rfl rfl (x_iaload rfl hx28) ?_
        refine OEnds.adv hm_14 3 (pc' := 27) (L' := [qr 0, qu, qi v2, qi v3, qu, qu]) (S' := [.int v3, .ref 14, .int x28]) (H' := (bk0 zh zi zp zt zm zo zf zc zs zq zr ze zg zd zl zj zk zu zb zn za po)) rfl ?_
        obtain ⟨x29, hx29, h⟩ := bnd h
        refine OEnds.plain hm_14 rfl rfl (x_iaload rfl hx29) ?_
        refine OEnds.adv hm_14 4 (pc' := 34) (L' := [qr 0, qu, qi v2, qi v3, qi (x28 - x29), qu]) (S' := [.int (x28 - x29), .int v2]) (H' := (bk0 zh zi zp zt zm zo zf zc zs zq zr ze zg zd zl zj zk zu zb zn za po)) rfl ?_
        by_cases hc37 : v2 < (x28 - x29)
        · simp only [if_pos hc37] at h
          refine OEnds.icmpF hm_14 rfl ((tlt hc37).2.1) ?_
          refine OEnds.adv hm_14 2 (pc' := 43) (L' := [qr 0, qu, qi v2, qi v3, qi (x28 - x29), qu]) (S' := [.int v2]) (H' := (bk0 zh zi zp zt zm zo zf zc zs zq zr ze zg zd zl zj zk zu zb zn za po)) rfl ?_
          exact ok_timeStep_43 ih h
        · simp only [if_neg hc37] at h
          refine OEnds.icmpT hm_14 rfl (q := 41) rfl ((flt hc37).2.1) ?_
          refine OEnds.adv hm_14 1 (pc' := 43) (L' := [qr 0, qu, qi v2, qi v3, qi (x28 - x29), qu]) (S' := [.int (x28 - x29)]) (H' := (bk0 zh zi zp zt zm zo zf zc zs zq zr ze zg zd zl zj zk zu zb zn za po)) rfl ?_
          exact ok_timeStep_43 ih h
      · simp only [if_neg hc36] at h
        refine OEnds.ifT hm_14 rfl (q := 72) rfl ((flt hc36).2.2.2) ?_
        show OEnds own_P 14 72 [qr 0, qu, qi v2, qi v3, qu, qu] [] (bk0 zh zi zp zt zm zo zf zc zs zq zr ze zg zd zl zj zk zu zb zn za po) _
        cases h
        exact OEnds.vret hm_14 rfl rfl
    · simp only [if_neg hc35] at h
      refine OEnds.icmpT hm_14 rfl (q := 72) rfl ((flt hc35).2.1) ?_
      show OEnds own_P 14 72 [qr 0, qu, qi v2, qi v3, qu, qu] [] (bk0 zh zi zp zt zm zo zf zc zs zq zr ze zg zd zl zj zk zu zb zn za po) _
      cases h
      exact OEnds.vret hm_14 rfl rfl
theorem ok_timeStep {zh zi zp zt zm : List Int32} {zo : List Int64} {zf zc zs zq zr ze zg : List Int32} {zl zj zk : Int32} {zu : Int64} {zb zn za : Int32} {po : List ACell} {zd : List Int32} {v1 : Int32} {w_o_lvlA : List Int32} (h : f_timeStep zg za zd v1 = some w_o_lvlA) : OEnds own_P 14 0 [qr 0, qi v1, qu, qu, qu, qu] [] (bk0 zh zi zp zt zm zo zf zc zs zq zr ze zg zd zl zj zk zu zb zn za po) (none, (bk0 zh zi zp zt zm zo zf zc zs zq zr ze zg w_o_lvlA zl zj zk zu zb zn za po), 0, 0) := by
  unfold f_timeStep at h
  refine OEnds.adv hm_14 4 (pc' := 4) (L' := [qr 0, qi v1, qi v1, qi 0, qu, qu]) (S' := []) (H' := (bk0 zh zi zp zt zm zo zf zc zs zq zr ze zg zd zl zj zk zu zb zn za po)) rfl ?_
  exact ok_timeStep_4 100000 h
theorem ok_allocate_67 {zh zi zp zt zm : List Int32} {zo : List Int64} {zf zc zs zq zr ze zg : List Int32} {zl zj zk : Int32} {zu : Int64} {zb zn za : Int32} {po : List ACell} : ∀ {zd : List Int32} {v3 v5 v6 : Int32} {d1 d2 d4 : Slot} {res : Int32} {w_o_lvlA : List Int32}, f_allocate_67 zf ze zg zl zj za zd v3 v5 v6 = some (res, w_o_lvlA) → OEnds own_P 12 67 [qr 0, d1, d2, qi v3, d4, qi v5, qi v6] [] (bk0 zh zi zp zt zm zo zf zc zs zq zr ze zg zd zl zj zk zu zb zn za po) (some (.int res), (bk0 zh zi zp zt zm zo zf zc zs zq zr ze zg w_o_lvlA zl zj zk zu zb zn za po), 0, 0) := by
  intro zd v3 v5 v6 d1 d2 d4 res w_o_lvlA h
  unfold f_allocate_67 at h
  refine OEnds.adv hm_12 4 (pc' := 73) (L' := [qr 0, qu, qu, qi v3, qu, qi v5, qi v6]) (S' := [.int (v5 - v6), .ref 0]) (H' := (bk0 zh zi zp zt zm zo zf zc zs zq zr ze zg zd zl zj zk zu zb zn za po)) rfl ?_
  obtain ⟨s37, hq38, h⟩ := bnd h
  refine OEnds.call0 hm_12 rfl rfl (by decide) rfl (as := [.ref 0, .int (v5 - v6)]) (rest := []) rfl rfl (ok_timeStep hq38) ?_
  refine OEnds.adv hm_12 1 (pc' := 77) (L' := [qr 0, qu, qu, qi v3, qu, qi v5, qi v6]) (S' := [.int v3]) (H' := (bk0 zh zi zp zt zm zo zf zc zs zq zr ze zg s37 zl zj zk zu zb zn za po)) rfl ?_
  cases h
  exact OEnds.iret hm_12 rfl rfl
theorem ok_allocate_37 {zh zi zp zt zm : List Int32} {zo : List Int64} {zf zc zs zq zr ze zg : List Int32} {zl zj zk : Int32} {zu : Int64} {zb zn za : Int32} {po : List ACell} : ∀ {zd : List Int32} {t0 : Int32} {d1 d2 d3 d4 d5 d6 : Slot} {res : Int32} {w_o_lvlA : List Int32}, f_allocate_37 zf ze zg zl zj za zd t0 = some (res, w_o_lvlA) → OEnds own_P 12 37 [qr 0, d1, d2, d3, d4, d5, d6] [.int t0] (bk0 zh zi zp zt zm zo zf zc zs zq zr ze zg zd zl zj zk zu zb zn za po) (some (.int res), (bk0 zh zi zp zt zm zo zf zc zs zq zr ze zg w_o_lvlA zl zj zk zu zb zn za po), 0, 0) := by
  intro zd t0 d1 d2 d3 d4 d5 d6 res w_o_lvlA h
  unfold f_allocate_37 at h
  refine OEnds.adv hm_12 3 (pc' := 40) (L' := [qr 0, qu, qu, qi t0, qu, qu, qu]) (S' := [.int t0, .ref 0]) (H' := (bk0 zh zi zp zt zm zo zf zc zs zq zr ze zg zd zl zj zk zu zb zn za po)) rfl ?_
  obtain ⟨⟨r33, s34⟩, hq39, h⟩ := bnd h
  refine OEnds.call0 hm_12 rfl rfl (by decide) rfl (as := [.ref 0, .int t0]) (rest := []) rfl rfl (ok_topStep hq39) ?_
  refine OEnds.adv hm_12 8 (pc' := 56) (L' := [qr 0, qu, qu, qi t0, qi r33, qi (t0 - r33), qi 0]) (S' := [.int (t0 - r33)]) (H' := (bk0 zh zi zp zt zm zo zf zc zs zq zr ze zg s34 zl zj zk zu zb zn za po)) rfl ?_
  by_cases hc40 : (0 : Int32) < (t0 - r33)
  · simp only [if_pos hc40] at h
    refine OEnds.ifF hm_12 rfl ((tlt hc40).2.2.2) ?_
    refine OEnds.adv hm_12 2 (pc' := 62) (L' := [qr 0, qu, qu, qi t0, qi r33, qi (t0 - r33), qi 0]) (S' := [.int (t0 - r33), .ref 0]) (H' := (bk0 zh zi zp zt zm zo zf zc zs zq zr ze zg s34 zl zj zk zu zb zn za po)) rfl ?_
    obtain ⟨⟨r35, s36⟩, hq41, h⟩ := bnd h
    refine OEnds.call0 hm_12 rfl rfl (by decide) rfl (as := [.ref 0, .int (t0 - r33)]) (rest := []) rfl rfl (ok_proRataStep hq41) ?_
    refine OEnds.adv hm_12 1 (pc' := 67) (L' := [qr 0, qu, qu, qi t0, qi r33, qi (t0 - r33), qi r35]) (S' := []) (H' := (bk0 zh zi zp zt zm zo zf zc zs zq zr ze zg s36 zl zj zk zu zb zn za po)) rfl ?_
    exact ok_allocate_67 h
  · simp only [if_neg hc40] at h
    refine OEnds.ifT hm_12 rfl (q := 67) rfl ((flt hc40).2.2.2) ?_
    show OEnds own_P 12 67 [qr 0, qu, qu, qi t0, qi r33, qi (t0 - r33), qi 0] [] (bk0 zh zi zp zt zm zo zf zc zs zq zr ze zg s34 zl zj zk zu zb zn za po) _
    exact ok_allocate_67 h
theorem ok_allocate_27 {zh zi zp zt zm : List Int32} {zo : List Int64} {zf zc zs zq zr ze zg : List Int32} {zl zj zk : Int32} {zu : Int64} {zb zn za : Int32} {po : List ACell} : ∀ {zd : List Int32} {v1 v2 : Int32} {d3 d4 d5 d6 : Slot} {res : Int32} {w_o_lvlA : List Int32}, f_allocate_27 zf ze zg zl zj za zd v1 v2 = some (res, w_o_lvlA) → OEnds own_P 12 27 [qr 0, qi v1, qi v2, d3, d4, d5, d6] [] (bk0 zh zi zp zt zm zo zf zc zs zq zr ze zg zd zl zj zk zu zb zn za po) (some (.int res), (bk0 zh zi zp zt zm zo zf zc zs zq zr ze zg w_o_lvlA zl zj zk zu zb zn za po), 0, 0) := by
  intro zd v1 v2 d3 d4 d5 d6 res w_o_lvlA h
  unfold f_allocate_27 at h
  refine OEnds.adv hm_12 2 (pc' := 29) (L' := [qr 0, qi v1, qi v2, qu, qu, qu, qu]) (S' := [.int v2, .int v1]) (H' := (bk0 zh zi zp zt zm zo zf zc zs zq zr ze zg zd zl zj zk zu zb zn za po)) rfl ?_
  by_cases hc42 : v1 < v2
  · simp only [if_pos hc42] at h
    refine OEnds.icmpF hm_12 rfl ((tlt hc42).2.1) ?_
    refine OEnds.adv hm_12 2 (pc' := 37) (L' := [qr 0, qi v1, qi v2, qu, qu, qu, qu]) (S' := [.int v1]) (H' := (bk0 zh zi zp zt zm zo zf zc zs zq zr ze zg zd zl zj zk zu zb zn za po)) rfl ?_
    exact ok_allocate_37 h
  · simp only [if_neg hc42] at h
    refine OEnds.icmpT hm_12 rfl (q := 36) rfl ((flt hc42).2.1) ?_
    refine OEnds.adv hm_12 1 (pc' := 37) (L' := [qr 0, qi v1, qi v2, qu, qu, qu, qu]) (S' := [.int v2]) (H' := (bk0 zh zi zp zt zm zo zf zc zs zq zr ze zg zd zl zj zk zu zb zn za po)) rfl ?_
    exact ok_allocate_37 h
theorem ok_allocate_4 {zh zi zp zt zm : List Int32} {zo : List Int64} {zf zc zs zq zr ze zg : List Int32} {zl zj zk : Int32} {zu : Int64} {zb zn za : Int32} {po : List ACell} {k27 : List Int32 → Int32 → Int32 → Option (Int32 × List Int32)} (hk27 : ∀ {zd : List Int32} {v1 v2 : Int32} {d3 d4 d5 d6 : Slot} {res : Int32} {w_o_lvlA : List Int32}, k27 zd v1 v2 = some (res, w_o_lvlA) → OEnds own_P 12 27 [qr 0, qi v1, qi v2, d3, d4, d5, d6] [] (bk0 zh zi zp zt zm zo zf zc zs zq zr ze zg zd zl zj zk zu zb zn za po) (some (.int res), (bk0 zh zi zp zt zm zo zf zc zs zq zr ze zg w_o_lvlA zl zj zk zu zb zn za po), 0, 0)) : ∀ (n : Nat), ∀ {zd : List Int32} {v1 v2 v3 : Int32} {d4 d5 d6 : Slot} {res : Int32} {w_o_lvlA : List Int32}, f_allocate_4 k27 zf ze zg zl zj za n zd v1 v2 v3 = some (res, w_o_lvlA) → OEnds own_P 12 4 [qr 0, qi v1, qi v2, qi v3, d4, d5, d6] [] (bk0 zh zi zp zt zm zo zf zc zs zq zr ze zg zd zl zj zk zu zb zn za po) (some (.int res), (bk0 zh zi zp zt zm zo zf zc zs zq zr ze zg w_o_lvlA zl zj zk zu zb zn za po), 0, 0) := by
  intro n
  induction n with
  | zero => intro zd v1 v2 v3 d4 d5 d6 res w_o_lvlA h; cases h
  | succ n ih =>
    intro zd v1 v2 v3 d4 d5 d6 res w_o_lvlA h
    unfold f_allocate_4 at h
    refine OEnds.adv hm_12 3 (pc' := 9) (L' := [qr 0, qi v1, qi v2, qi v3, qu, qu, qu]) (S' := [.int za, .int v3]) (H' := (bk0 zh zi zp zt zm zo zf zc zs zq zr ze zg zd zl zj zk zu zb zn za po)) rfl ?_
    by_cases hc43 : v3 < za
    · simp only [if_pos hc43] at h
      refine OEnds.icmpF hm_12 rfl ((tlt hc43).2.1) ?_
      refine OEnds.adv hm_12 4 (pc' := 18) (L' := [qr 0, qi v1, qi v2, qi v3, qu, qu, qu]) (S' := [.int v3, .ref 13, .int v2]) (H' := (bk0 zh zi zp zt zm zo zf zc zs zq zr ze zg zd zl zj zk zu zb zn za po)) rfl ?_
      obtain ⟨x32, hx32, h⟩ := bnd h
      refine OEnds.plain hm_12 rfl rfl (x_iaload rfl hx32) ?_
      refine OEnds.adv hm_12 4 (pc' := 4) (L' := [qr 0, qi v1, qi (v2 + x32), qi (v3 + (1 : Int32)), qu, qu, qu]) (S' := []) (H' := (bk0 zh zi zp zt zm zo zf zc zs zq zr ze zg zd zl zj zk zu zb zn za po)) rfl ?_
      exact ih h
    · simp only [if_neg hc43] at h
      refine OEnds.icmpT hm_12 rfl (q := 27) rfl ((flt hc43).2.1) ?_
      show OEnds own_P 12 27 [qr 0, qi v1, qi v2, qi v3, qu, qu, qu] [] (bk0 zh zi zp zt zm zo zf zc zs zq zr ze zg zd zl zj zk zu zb zn za po) _
      exact hk27 h
theorem ok_allocate {zh zi zp zt zm : List Int32} {zo : List Int64} {zf zc zs zq zr ze zg : List Int32} {zl zj zk : Int32} {zu : Int64} {zb zn za : Int32} {po : List ACell} {zd : List Int32} {v1 res : Int32} {w_o_lvlA : List Int32} (h : f_allocate zf ze zg zl zj za zd v1 = some (res, w_o_lvlA)) : OEnds own_P 12 0 [qr 0, qi v1, qu, qu, qu, qu, qu] [] (bk0 zh zi zp zt zm zo zf zc zs zq zr ze zg zd zl zj zk zu zb zn za po) (some (.int res), (bk0 zh zi zp zt zm zo zf zc zs zq zr ze zg w_o_lvlA zl zj zk zu zb zn za po), 0, 0) := by
  unfold f_allocate at h
  refine OEnds.adv hm_12 4 (pc' := 4) (L' := [qr 0, qi v1, qi 0, qi 0, qu, qu, qu]) (S' := []) (H' := (bk0 zh zi zp zt zm zo zf zc zs zq zr ze zg zd zl zj zk zu zb zn za po)) rfl ?_
  exact ok_allocate_4 (k27 := f_allocate_27 zf ze zg zl zj za) ok_allocate_27 100000 h
theorem ok_removeResting_20 {zh zi zp zt zm : List Int32} {zo : List Int64} {zf zs zq zr ze zg zd : List Int32} {zl zj zk : Int32} {zu : Int64} {zn za : Int32} {po : List ACell} : ∀ {zc : List Int32} {zb v2 : Int32} {d1 : Slot} {w_o_restIds : List Int32} {w_o_restN : Int32}, f_removeResting_20 zc zb v2 = some (w_o_restIds, w_o_restN) → OEnds own_P 28 20 [qr 0, d1, qi v2] [] (bk0 zh zi zp zt zm zo zf zc zs zq zr ze zg zd zl zj zk zu zb zn za po) (none, (bk0 zh zi zp zt zm zo zf w_o_restIds zs zq zr ze zg zd zl zj zk zu w_o_restN zn za po), 0, 0) := by
  intro zc zb v2 d1 w_o_restIds w_o_restN h
  unfold f_removeResting_20 at h
  refine OEnds.adv hm_28 9 (pc' := 35) (L' := [qr 0, qu, qi v2]) (S' := [.int (zb - (1 : Int32)), .ref 8, .int v2, .ref 8]) (H' := (bk0 zh zi zp zt zm zo zf zc zs zq zr ze zg zd zl zj zk zu zb zn za po)) rfl ?_
  obtain ⟨x39, hx39, h⟩ := bnd h
  refine OEnds.plain hm_28 rfl rfl (x_iaload rfl hx39) ?_
  show OEnds own_P 28 36 [qr 0, qu, qi v2] [.int x39, .int v2, .ref 8] (bk0 zh zi zp zt zm zo zf zc zs zq zr ze zg zd zl zj zk zu zb zn za po) _
  obtain ⟨A40, hA40, h⟩ := bnd h
  refine OEnds.plain hm_28 rfl rfl (x_iastore rfl (Nat.le_of_ble_eq_true rfl) hA40) ?_
  refine OEnds.adv hm_28 6 (pc' := 47) (L' := [qr 0, qu, qi v2]) (S' := []) (H' := (bk0 zh zi zp zt zm zo zf A40 zs zq zr ze zg zd zl zj zk zu (zb - (1 : Int32)) zn za po)) rfl ?_
  cases h
  exact OEnds.vret hm_28 rfl rfl
theorem ok_removeResting_2 {zh zi zp zt zm : List Int32} {zo : List Int64} {zf zs zq zr ze zg zd : List Int32} {zl zj zk : Int32} {zu : Int64} {zn za : Int32} {po : List ACell} {k20 : List Int32 → Int32 → Int32 → Option (List Int32 × Int32)} (hk20 : ∀ {zc : List Int32} {zb v2 : Int32} {d1 : Slot} {w_o_restIds : List Int32} {w_o_restN : Int32}, k20 zc zb v2 = some (w_o_restIds, w_o_restN) → OEnds own_P 28 20 [qr 0, d1, qi v2] [] (bk0 zh zi zp zt zm zo zf zc zs zq zr ze zg zd zl zj zk zu zb zn za po) (none, (bk0 zh zi zp zt zm zo zf w_o_restIds zs zq zr ze zg zd zl zj zk zu w_o_restN zn za po), 0, 0)) : ∀ (n : Nat), ∀ {zc : List Int32} {zb v1 v2 : Int32} {w_o_restIds : List Int32} {w_o_restN : Int32}, f_removeResting_2 k20 n zc zb v1 v2 = some (w_o_restIds, w_o_restN) → OEnds own_P 28 2 [qr 0, qi v1, qi v2] [] (bk0 zh zi zp zt zm zo zf zc zs zq zr ze zg zd zl zj zk zu zb zn za po) (none, (bk0 zh zi zp zt zm zo zf w_o_restIds zs zq zr ze zg zd zl zj zk zu w_o_restN zn za po), 0, 0) := by
  intro n
  induction n with
  | zero => intro zc zb v1 v2 w_o_restIds w_o_restN h; cases h
  | succ n ih =>
    intro zc zb v1 v2 w_o_restIds w_o_restN h
    unfold f_removeResting_2 at h
    refine OEnds.adv hm_28 3 (pc' := 7) (L' := [qr 0, qi v1, qi v2]) (S' := [.int zb, .int v2]) (H' := (bk0 zh zi zp zt zm zo zf zc zs zq zr ze zg zd zl zj zk zu zb zn za po)) rfl ?_
    by_cases hc44 : v2 < zb
    · simp only [if_pos hc44] at h
      refine OEnds.icmpF hm_28 rfl ((tlt hc44).2.1) ?_
      refine OEnds.adv hm_28 3 (pc' := 15) (L' := [qr 0, qi v1, qi v2]) (S' := [.int v2, .ref 8]) (H' := (bk0 zh zi zp zt zm zo zf zc zs zq zr ze zg zd zl zj zk zu zb zn za po)) rfl ?_
      obtain ⟨x38, hx38, h⟩ := bnd h
      refine OEnds.plain hm_28 rfl rfl (x_iaload rfl hx38) ?_
      refine OEnds.adv hm_28 1 (pc' := 17) (L' := [qr 0, qi v1, qi v2]) (S' := [.int v1, .int x38]) (H' := (bk0 zh zi zp zt zm zo zf zc zs zq zr ze zg zd zl zj zk zu zb zn za po)) rfl ?_
      by_cases hc45 : x38 = v1
      · simp only [if_pos hc45] at h
        refine OEnds.icmpF hm_28 rfl ((teq hc45).2) ?_
        show OEnds own_P 28 20 [qr 0, qi v1, qi v2] [] (bk0 zh zi zp zt zm zo zf zc zs zq zr ze zg zd zl zj zk zu zb zn za po) _
        exact hk20 h
      · simp only [if_neg hc45] at h
        refine OEnds.icmpT hm_28 rfl (q := 48) rfl ((feq hc45).2) ?_
        refine OEnds.adv hm_28 2 (pc' := 2) (L' := [qr 0, qi v1, qi (v2 + (1 : Int32))]) (S' := []) (H' := (bk0 zh zi zp zt zm zo zf zc zs zq zr ze zg zd zl zj zk zu zb zn za po)) rfl ?_
        exact ih h
    · simp only [if_neg hc44] at h
      refine OEnds.icmpT hm_28 rfl (q := 54) rfl ((flt hc44).2.1) ?_
      show OEnds own_P 28 54 [qr 0, qi v1, qi v2] [] (bk0 zh zi zp zt zm zo zf zc zs zq zr ze zg zd zl zj zk zu zb zn za po) _
      cases h
      exact OEnds.vret hm_28 rfl rfl
theorem ok_removeResting {zh zi zp zt zm : List Int32} {zo : List Int64} {zf zs zq zr ze zg zd : List Int32} {zl zj zk : Int32} {zu : Int64} {zn za : Int32} {po : List ACell} {zc : List Int32} {zb v1 : Int32} {w_o_restIds : List Int32} {w_o_restN : Int32} (h : f_removeResting zc zb v1 = some (w_o_restIds, w_o_restN)) : OEnds own_P 28 0 [qr 0, qi v1, qu] [] (bk0 zh zi zp zt zm zo zf zc zs zq zr ze zg zd zl zj zk zu zb zn za po) (none, (bk0 zh zi zp zt zm zo zf w_o_restIds zs zq zr ze zg zd zl zj zk zu w_o_restN zn za po), 0, 0) := by
  unfold f_removeResting at h
  refine OEnds.adv hm_28 2 (pc' := 2) (L' := [qr 0, qi v1, qi 0]) (S' := []) (H' := (bk0 zh zi zp zt zm zo zf zc zs zq zr ze zg zd zl zj zk zu zb zn za po)) rfl ?_
  exact ok_removeResting_2 (k20 := f_removeResting_20) ok_removeResting_20 100000 h
theorem ok_applyLevel_82 {zh zi : List Int32} {zo : List Int64} {ze zg zd : List Int32} {zl zj zk : Int32} {zu : Int64} {za : Int32} {po : List ACell} {kb : List Int32 → List Int32 → List Int32 → List Int32 → List Int32 → List Int32 → List Int32 → List Int32 → Int32 → Int32 → Int32 → Int32 → Option (List Int32 × List Int32 × List Int32 × List Int32 × List Int32 × List Int32 × List Int32 × List Int32 × Int32 × Int32)} (hkb : ∀ {zp zt zm zf zc zs zq zr : List Int32} {zb zn v1 v2 : Int32} {d3 d4 : Slot} {w_o_oRem w_o_oFilled w_o_oStatus w_o_oTop w_o_restIds w_o_fIds w_o_fQty w_o_fPrice : List Int32} {w_o_restN : Int32} {w_o_fN : Int32}, kb zp zt zm zf zc zs zq zr zb zn v1 v2 = some (w_o_oRem, w_o_oFilled, w_o_oStatus, w_o_oTop, w_o_restIds, w_o_fIds, w_o_fQty, w_o_fPrice, w_o_restN, w_o_fN) → OEnds own_P 15 2 [qr 0, qi v1, qi v2, d3, d4] [] (bk0 zh zi zp zt zm zo zf zc zs zq zr ze zg zd zl zj zk zu zb zn za po) (none, (bk0 zh zi w_o_oRem w_o_oFilled w_o_oStatus zo w_o_oTop w_o_restIds w_o_fIds w_o_fQty w_o_fPrice ze zg zd zl zj zk zu w_o_restN w_o_fN za po), 0, 0)) : ∀ {zp zt zm zf zc zs zq zr : List Int32} {zb zn v1 v2 v3 v4 : Int32} {w_o_oRem w_o_oFilled w_o_oStatus w_o_oTop w_o_restIds w_o_fIds w_o_fQty w_o_fPrice : List Int32} {w_o_restN : Int32} {w_o_fN : Int32}, f_applyLevel_82 kb ze zd za zp zt zm zf zc zs zq zr zb zn v1 v2 v3 v4 = some (w_o_oRem, w_o_oFilled, w_o_oStatus, w_o_oTop, w_o_restIds, w_o_fIds, w_o_fQty, w_o_fPrice, w_o_restN, w_o_fN) → OEnds own_P 15 82 [qr 0, qi v1, qi v2, qi v3, qi v4] [] (bk0 zh zi zp zt zm zo zf zc zs zq zr ze zg zd zl zj zk zu zb zn za po) (none, (bk0 zh zi w_o_oRem w_o_oFilled w_o_oStatus zo w_o_oTop w_o_restIds w_o_fIds w_o_fQty w_o_fPrice ze zg zd zl zj zk zu w_o_restN w_o_fN za po), 0, 0) := by
  intro zp zt zm zf zc zs zq zr zb zn v1 v2 v3 v4 w_o_oRem w_o_oFilled w_o_oStatus w_o_oTop w_o_restIds w_o_fIds w_o_fQty w_o_fPrice w_o_restN w_o_fN h
  unfold f_applyLevel_82 at h
  refine OEnds.adv hm_15 4 (pc' := 89) (L' := [qr 0, qi v1, qi v2, qi v3, qi v4]) (S' := [.int v4, .ref 3, .int v4, .ref 3]) (H' := (bk0 zh zi zp zt zm zo zf zc zs zq zr ze zg zd zl zj zk zu zb zn za po)) rfl ?_
  obtain ⟨x46, hx46, h⟩ := bnd h
  refine OEnds.plain hm_15 rfl rfl (x_iaload rfl hx46) ?_
  refine OEnds.adv hm_15 2 (pc' := 92) (L' := [qr 0, qi v1, qi v2, qi v3, qi v4]) (S' := [.int (x46 - v3), .int v4, .ref 3]) (H' := (bk0 zh zi zp zt zm zo zf zc zs zq zr ze zg zd zl zj zk zu zb zn za po)) rfl ?_
  obtain ⟨A47, hA47, h⟩ := bnd h
  refine OEnds.plain hm_15 rfl rfl (x_iastore rfl (Nat.le_of_ble_eq_true rfl) hA47) ?_
  refine OEnds.adv hm_15 4 (pc' := 100) (L' := [qr 0, qi v1, qi v2, qi v3, qi v4]) (S' := [.int v4, .ref 4, .int v4, .ref 4]) (H' := (bk0 zh zi A47 zt zm zo zf zc zs zq zr ze zg zd zl zj zk zu zb zn za po)) rfl ?_
  obtain ⟨x48, hx48, h⟩ := bnd h
  refine OEnds.plain hm_15 rfl rfl (x_iaload rfl hx48) ?_
  refine OEnds.adv hm_15 2 (pc' := 103) (L' := [qr 0, qi v1, qi v2, qi v3, qi v4]) (S' := [.int (x48 + v3), .int v4, .ref 4]) (H' := (bk0 zh zi A47 zt zm zo zf zc zs zq zr ze zg zd zl zj zk zu zb zn za po)) rfl ?_
  obtain ⟨A49, hA49, h⟩ := bnd h
  refine OEnds.plain hm_15 rfl rfl (x_iastore rfl (Nat.le_of_ble_eq_true rfl) hA49) ?_
  refine OEnds.adv hm_15 3 (pc' := 110) (L' := [qr 0, qi v1, qi v2, qi v3, qi v4]) (S' := [.int v4, .ref 3]) (H' := (bk0 zh zi A47 A49 zm zo zf zc zs zq zr ze zg zd zl zj zk zu zb zn za po)) rfl ?_
  obtain ⟨x50, hx50, h⟩ := bnd h
  refine OEnds.plain hm_15 rfl rfl (x_iaload rfl hx50) ?_
  show OEnds own_P 15 111 [qr 0, qi v1, qi v2, qi v3, qi v4] [.int x50] (bk0 zh zi A47 A49 zm zo zf zc zs zq zr ze zg zd zl zj zk zu zb zn za po) _
  by_cases hc46 : (0 : Int32) < x50
  · simp only [if_pos hc46] at h
    refine OEnds.ifT hm_15 rfl (q := 144) rfl ((tlt hc46).2.2.1) ?_
    refine OEnds.adv hm_15 2 (pc' := 2) (L' := [qr 0, qi v1, qi (v2 + (1 : Int32)), qi v3, qi v4]) (S' := []) (H' := (bk0 zh zi A47 A49 zm zo zf zc zs zq zr ze zg zd zl zj zk zu zb zn za po)) rfl ?_
    exact hkb h
  · simp only [if_neg hc46] at h
    refine OEnds.ifF hm_15 rfl ((flt hc46).2.2.1) ?_
    refine OEnds.adv hm_15 4 (pc' := 121) (L' := [qr 0, qi v1, qi v2, qi v3, qi v4]) (S' := [.int 0, .int v4, .ref 3]) (H' := (bk0 zh zi A47 A49 zm zo zf zc zs zq zr ze zg zd zl zj zk zu zb zn za po)) rfl ?_
    obtain ⟨A51, hA51, h⟩ := bnd h
    refine OEnds.plain hm_15 rfl rfl (x_iastore rfl (Nat.le_of_ble_eq_true rfl) hA51) ?_
    refine OEnds.adv hm_15 4 (pc' := 129) (L' := [qr 0, qi v1, qi v2, qi v3, qi v4]) (S' := [.int 2, .int v4, .ref 5]) (H' := (bk0 zh zi A51 A49 zm zo zf zc zs zq zr ze zg zd zl zj zk zu zb zn za po)) rfl ?_
    obtain ⟨A52, hA52, h⟩ := bnd h
    refine OEnds.plain hm_15 rfl rfl (x_iastore rfl (Nat.le_of_ble_eq_true rfl) hA52) ?_
    refine OEnds.adv hm_15 4 (pc' := 137) (L' := [qr 0, qi v1, qi v2, qi v3, qi v4]) (S' := [.int 0, .int v4, .ref 7]) (H' := (bk0 zh zi A51 A49 A52 zo zf zc zs zq zr ze zg zd zl zj zk zu zb zn za po)) rfl ?_
    obtain ⟨A53, hA53, h⟩ := bnd h
    refine OEnds.plain hm_15 rfl rfl (x_bastore rfl (Nat.le_of_ble_eq_true rfl) hA53) ?_
    refine OEnds.adv hm_15 2 (pc' := 141) (L' := [qr 0, qi v1, qi v2, qi v3, qi v4]) (S' := [.int v4, .ref 0]) (H' := (bk0 zh zi A51 A49 A52 zo A53 zc zs zq zr ze zg zd zl zj zk zu zb zn za po)) rfl ?_
    obtain ⟨⟨s54, s55⟩, hq47, h⟩ := bnd h
    refine OEnds.call0 hm_15 rfl rfl (by decide) rfl (as := [.ref 0, .int v4]) (rest := []) rfl rfl (ok_removeResting hq47) ?_
    refine OEnds.adv hm_15 2 (pc' := 2) (L' := [qr 0, qi v1, qi (v2 + (1 : Int32)), qi v3, qi v4]) (S' := []) (H' := (bk0 zh zi A51 A49 A52 zo A53 s54 zs zq zr ze zg zd zl zj zk zu s55 zn za po)) rfl ?_
    exact hkb h
theorem ok_applyLevel_2 {zh zi : List Int32} {zo : List Int64} {ze zg zd : List Int32} {zl zj zk : Int32} {zu : Int64} {za : Int32} {po : List ACell} : ∀ (n : Nat), ∀ {zp zt zm zf zc zs zq zr : List Int32} {zb zn v1 v2 : Int32} {d3 d4 : Slot} {w_o_oRem w_o_oFilled w_o_oStatus w_o_oTop w_o_restIds w_o_fIds w_o_fQty w_o_fPrice : List Int32} {w_o_restN : Int32} {w_o_fN : Int32}, f_applyLevel_2 ze zd za n zp zt zm zf zc zs zq zr zb zn v1 v2 = some (w_o_oRem, w_o_oFilled, w_o_oStatus, w_o_oTop, w_o_restIds, w_o_fIds, w_o_fQty, w_o_fPrice, w_o_restN, w_o_fN) → OEnds own_P 15 2 [qr 0, qi v1, qi v2, d3, d4] [] (bk0 zh zi zp zt zm zo zf zc zs zq zr ze zg zd zl zj zk zu zb zn za po) (none, (bk0 zh zi w_o_oRem w_o_oFilled w_o_oStatus zo w_o_oTop w_o_restIds w_o_fIds w_o_fQty w_o_fPrice ze zg zd zl zj zk zu w_o_restN w_o_fN za po), 0, 0) := by
  intro n
  induction n with
  | zero => intro zp zt zm zf zc zs zq zr zb zn v1 v2 d3 d4 w_o_oRem w_o_oFilled w_o_oStatus w_o_oTop w_o_restIds w_o_fIds w_o_fQty w_o_fPrice w_o_restN w_o_fN h; cases h
  | succ n ih =>
    intro zp zt zm zf zc zs zq zr zb zn v1 v2 d3 d4 w_o_oRem w_o_oFilled w_o_oStatus w_o_oTop w_o_restIds w_o_fIds w_o_fQty w_o_fPrice w_o_restN w_o_fN h
    unfold f_applyLevel_2 at h
    refine OEnds.adv hm_15 3 (pc' := 7) (L' := [qr 0, qi v1, qi v2, qu, qu]) (S' := [.int za, .int v2]) (H' := (bk0 zh zi zp zt zm zo zf zc zs zq zr ze zg zd zl zj zk zu zb zn za po)) rfl ?_
    by_cases hc48 : v2 < za
    · simp only [if_pos hc48] at h
      refine OEnds.icmpF hm_15 rfl ((tlt hc48).2.1) ?_
      refine OEnds.adv hm_15 3 (pc' := 15) (L' := [qr 0, qi v1, qi v2, qu, qu]) (S' := [.int v2, .ref 14]) (H' := (bk0 zh zi zp zt zm zo zf zc zs zq zr ze zg zd zl zj zk zu zb zn za po)) rfl ?_
      obtain ⟨x41, hx41, h⟩ := bnd h
      refine OEnds.plain hm_15 rfl rfl (x_iaload rfl hx41) ?_
      refine OEnds.adv hm_15 2 (pc' := 18) (L' := [qr 0, qi v1, qi v2, qi x41, qu]) (S' := [.int x41]) (H' := (bk0 zh zi zp zt zm zo zf zc zs zq zr ze zg zd zl zj zk zu zb zn za po)) rfl ?_
      by_cases hc49 : (0 : Int32) < x41
      · simp only [if_pos hc49] at h
        refine OEnds.ifT hm_15 rfl (q := 24) rfl ((tlt hc49).2.2.1) ?_
        refine OEnds.adv hm_15 3 (pc' := 29) (L' := [qr 0, qi v1, qi v2, qi x41, qu]) (S' := [.int v2, .ref 12]) (H' := (bk0 zh zi zp zt zm zo zf zc zs zq zr ze zg zd zl zj zk zu zb zn za po)) rfl ?_
        obtain ⟨x42, hx42, h⟩ := bnd h
        refine OEnds.plain hm_15 rfl rfl (x_iaload rfl hx42) ?_
        refine OEnds.adv hm_15 4 (pc' := 38) (L' := [qr 0, qi v1, qi v2, qi x41, qi x42]) (S' := [.int 64, .int zn]) (H' := (bk0 zh zi zp zt zm zo zf zc zs zq zr ze zg zd zl zj zk zu zb zn za po)) rfl ?_
        by_cases hc50 : zn < (64 : Int32)
        · simp only [if_pos hc50] at h
          refine OEnds.icmpF hm_15 rfl ((tlt hc50).2.1) ?_
          refine OEnds.adv hm_15 5 (pc' := 51) (L' := [qr 0, qi v1, qi v2, qi x41, qi x42]) (S' := [.int x42, .int zn, .ref 9]) (H' := (bk0 zh zi zp zt zm zo zf zc zs zq zr ze zg zd zl zj zk zu zb zn za po)) rfl ?_
          obtain ⟨A43, hA43, h⟩ := bnd h
          refine OEnds.plain hm_15 rfl rfl (x_iastore rfl (Nat.le_of_ble_eq_true rfl) hA43) ?_
          refine OEnds.adv hm_15 5 (pc' := 61) (L' := [qr 0, qi v1, qi v2, qi x41, qi x42]) (S' := [.int v1, .int zn, .ref 11]) (H' := (bk0 zh zi zp zt zm zo zf zc A43 zq zr ze zg zd zl zj zk zu zb zn za po)) rfl ?_
          obtain ⟨A44, hA44, h⟩ := bnd h
          refine OEnds.plain hm_15 rfl rfl (x_iastore rfl (Nat.le_of_ble_eq_true rfl) hA44) ?_
          refine OEnds.adv hm_15 5 (pc' := 71) (L' := [qr 0, qi v1, qi v2, qi x41, qi x42]) (S' := [.int x41, .int zn, .ref 10]) (H' := (bk0 zh zi zp zt zm zo zf zc A43 zq A44 ze zg zd zl zj zk zu zb zn za po)) rfl ?_
          obtain ⟨A45, hA45, h⟩ := bnd h
          refine OEnds.plain hm_15 rfl rfl (x_iastore rfl (Nat.le_of_ble_eq_true rfl) hA45) ?_
          refine OEnds.adv hm_15 6 (pc' := 82) (L' := [qr 0, qi v1, qi v2, qi x41, qi x42]) (S' := []) (H' := (bk0 zh zi zp zt zm zo zf zc A43 A45 A44 ze zg zd zl zj zk zu zb (zn + (1 : Int32)) za po)) rfl ?_
          exact ok_applyLevel_82 ih h
        · simp only [if_neg hc50] at h
          refine OEnds.icmpT hm_15 rfl (q := 82) rfl ((flt hc50).2.1) ?_
          show OEnds own_P 15 82 [qr 0, qi v1, qi v2, qi x41, qi x42] [] (bk0 zh zi zp zt zm zo zf zc zs zq zr ze zg zd zl zj zk zu zb zn za po) _
          exact ok_applyLevel_82 ih h
      · simp only [if_neg hc49] at h
        refine OEnds.ifF hm_15 rfl ((flt hc49).2.2.1) ?_
        refine OEnds.adv hm_15 3 (pc' := 2) (L' := [qr 0, qi v1, qi (v2 + (1 : Int32)), qi x41, qu]) (S' := []) (H' := (bk0 zh zi zp zt zm zo zf zc zs zq zr ze zg zd zl zj zk zu zb zn za po)) rfl ?_
        exact ih h
    · simp only [if_neg hc48] at h
      refine OEnds.icmpT hm_15 rfl (q := 150) rfl ((flt hc48).2.1) ?_
      show OEnds own_P 15 150 [qr 0, qi v1, qi v2, qu, qu] [] (bk0 zh zi zp zt zm zo zf zc zs zq zr ze zg zd zl zj zk zu zb zn za po) _
      cases h
      exact OEnds.vret hm_15 rfl rfl
theorem ok_applyLevel {zh zi : List Int32} {zo : List Int64} {ze zg zd : List Int32} {zl zj zk : Int32} {zu : Int64} {za : Int32} {po : List ACell} {zp zt zm zf zc zs zq zr : List Int32} {zb zn v1 : Int32} {w_o_oRem w_o_oFilled w_o_oStatus w_o_oTop w_o_restIds w_o_fIds w_o_fQty w_o_fPrice : List Int32} {w_o_restN w_o_fN : Int32} (h : f_applyLevel ze zd za zp zt zm zf zc zs zq zr zb zn v1 = some (w_o_oRem, w_o_oFilled, w_o_oStatus, w_o_oTop, w_o_restIds, w_o_fIds, w_o_fQty, w_o_fPrice, w_o_restN, w_o_fN)) : OEnds own_P 15 0 [qr 0, qi v1, qu, qu, qu] [] (bk0 zh zi zp zt zm zo zf zc zs zq zr ze zg zd zl zj zk zu zb zn za po) (none, (bk0 zh zi w_o_oRem w_o_oFilled w_o_oStatus zo w_o_oTop w_o_restIds w_o_fIds w_o_fQty w_o_fPrice ze zg zd zl zj zk zu w_o_restN w_o_fN za po), 0, 0) := by
  unfold f_applyLevel at h
  refine OEnds.adv hm_15 2 (pc' := 2) (L' := [qr 0, qi v1, qi 0, qu, qu]) (S' := []) (H' := (bk0 zh zi zp zt zm zo zf zc zs zq zr ze zg zd zl zj zk zu zb zn za po)) rfl ?_
  exact ok_applyLevel_2 100000 h
theorem ok_matchLevel_59 {zh zi : List Int32} {zo : List Int64} {zl zj zk : Int32} {zu : Int64} {po : List ACell} : ∀ {zp zt zm zf zc zs zq zr ze zg zd : List Int32} {zb zn za v2 v3 : Int32} {d1 d4 d5 : Slot} {res : Int32} {w_o_oRem w_o_oFilled w_o_oStatus w_o_oTop w_o_restIds w_o_fIds w_o_fQty w_o_fPrice w_o_lvlIds w_o_lvlR w_o_lvlA : List Int32} {w_o_restN w_o_fN : Int32} {w_o_lvlN : Int32}, f_matchLevel_59 zh zi zo zl zj zp zt zm zf zc zs zq zr ze zg zd zb zn za v2 v3 = some (res, w_o_oRem, w_o_oFilled, w_o_oStatus, w_o_oTop, w_o_restIds, w_o_fIds, w_o_fQty, w_o_fPrice, w_o_lvlIds, w_o_lvlR, w_o_lvlA, w_o_restN, w_o_fN, w_o_lvlN) → OEnds own_P 9 59 [qr 0, d1, qi v2, qi v3, d4, d5] [] (bk0 zh zi zp zt zm zo zf zc zs zq zr ze zg zd zl zj zk zu zb zn za po) (some (.int res), (bk0 zh zi w_o_oRem w_o_oFilled w_o_oStatus zo w_o_oTop w_o_restIds w_o_fIds w_o_fQty w_o_fPrice w_o_lvlIds w_o_lvlR w_o_lvlA zl zj zk zu w_o_restN w_o_fN w_o_lvlN po), 0, 0) := by
  intro zp zt zm zf zc zs zq zr ze zg zd zb zn za v2 v3 d1 d4 d5 res w_o_oRem w_o_oFilled w_o_oStatus w_o_oTop w_o_restIds w_o_fIds w_o_fQty w_o_fPrice w_o_lvlIds w_o_lvlR w_o_lvlA w_o_restN w_o_fN w_o_lvlN h
  unfold f_matchLevel_59 at h
  refine OEnds.adv hm_9 2 (pc' := 61) (L' := [qr 0, qu, qi v2, qi v3, qu, qu]) (S' := [.int v3, .ref 0]) (H' := (bk0 zh zi zp zt zm zo zf zc zs zq zr ze zg zd zl zj zk zu zb zn za po)) rfl ?_
  obtain ⟨⟨r63, s64⟩, hq51, h⟩ := bnd h
  refine OEnds.call0 hm_9 rfl rfl (by decide) rfl (as := [.ref 0, .int v3]) (rest := []) rfl rfl (ok_allocate hq51) ?_
  refine OEnds.adv hm_9 3 (pc' := 68) (L' := [qr 0, qu, qi v2, qi v3, qi r63, qu]) (S' := [.int v2, .ref 0]) (H' := (bk0 zh zi zp zt zm zo zf zc zs zq zr ze zg s64 zl zj zk zu zb zn za po)) rfl ?_
  obtain ⟨⟨s65, s66, s67, s68, s69, s70, s71, s72, s73, s74⟩, hq52, h⟩ := bnd h
  refine OEnds.call0 hm_9 rfl rfl (by decide) rfl (as := [.ref 0, .int v2]) (rest := []) rfl rfl (ok_applyLevel hq52) ?_
  refine OEnds.adv hm_9 1 (pc' := 73) (L' := [qr 0, qu, qi v2, qi v3, qi r63, qu]) (S' := [.int r63]) (H' := (bk0 zh zi s65 s66 s67 zo s68 s69 s70 s71 s72 ze zg s64 zl zj zk zu s73 s74 za po)) rfl ?_
  cases h
  exact OEnds.iret hm_9 rfl rfl
theorem ok_matchLevel_13 {zh zi : List Int32} {zo : List Int64} {zl zj zk : Int32} {zu : Int64} {po : List ACell} {k59 : List Int32 → List Int32 → List Int32 → List Int32 → List Int32 → List Int32 → List Int32 → List Int32 → List Int32 → List Int32 → List Int32 → Int32 → Int32 → Int32 → Int32 → Int32 → Option (Int32 × List Int32 × List Int32 × List Int32 × List Int32 × List Int32 × List Int32 × List Int32 × List Int32 × List Int32 × List Int32 × List Int32 × Int32 × Int32 × Int32)} (hk59 : ∀ {zp zt zm zf zc zs zq zr ze zg zd : List Int32} {zb zn za v2 v3 : Int32} {d1 d4 d5 : Slot} {res : Int32} {w_o_oRem w_o_oFilled w_o_oStatus w_o_oTop w_o_restIds w_o_fIds w_o_fQty w_o_fPrice w_o_lvlIds w_o_lvlR w_o_lvlA : List Int32} {w_o_restN w_o_fN : Int32} {w_o_lvlN : Int32}, k59 zp zt zm zf zc zs zq zr ze zg zd zb zn za v2 v3 = some (res, w_o_oRem, w_o_oFilled, w_o_oStatus, w_o_oTop, w_o_restIds, w_o_fIds, w_o_fQty, w_o_fPrice, w_o_lvlIds, w_o_lvlR, w_o_lvlA, w_o_restN, w_o_fN, w_o_lvlN) → OEnds own_P 9 59 [qr 0, d1, qi v2, qi v3, d4, d5] [] (bk0 zh zi zp zt zm zo zf zc zs zq zr ze zg zd zl zj zk zu zb zn za po) (some (.int res), (bk0 zh zi w_o_oRem w_o_oFilled w_o_oStatus zo w_o_oTop w_o_restIds w_o_fIds w_o_fQty w_o_fPrice w_o_lvlIds w_o_lvlR w_o_lvlA zl zj zk zu w_o_restN w_o_fN w_o_lvlN po), 0, 0)) : ∀ (n : Nat), ∀ {zp zt zm zf zc zs zq zr ze zg zd : List Int32} {zb zn za v2 v3 v4 : Int32} {d1 d5 : Slot} {res : Int32} {w_o_oRem w_o_oFilled w_o_oStatus w_o_oTop w_o_restIds w_o_fIds w_o_fQty w_o_fPrice w_o_lvlIds w_o_lvlR w_o_lvlA : List Int32} {w_o_restN w_o_fN : Int32} {w_o_lvlN : Int32}, f_matchLevel_13 k59 zh zi zo zl zj n zp zt zm zf zc zs zq zr ze zg zd zb zn za v2 v3 v4 = some (res, w_o_oRem, w_o_oFilled, w_o_oStatus, w_o_oTop, w_o_restIds, w_o_fIds, w_o_fQty, w_o_fPrice, w_o_lvlIds, w_o_lvlR, w_o_lvlA, w_o_restN, w_o_fN, w_o_lvlN) → OEnds own_P 9 13 [qr 0, d1, qi v2, qi v3, qi v4, d5] [] (bk0 zh zi zp zt zm zo zf zc zs zq zr ze zg zd zl zj zk zu zb zn za po) (some (.int res), (bk0 zh zi w_o_oRem w_o_oFilled w_o_oStatus zo w_o_oTop w_o_restIds w_o_fIds w_o_fQty w_o_fPrice w_o_lvlIds w_o_lvlR w_o_lvlA zl zj zk zu w_o_restN w_o_fN w_o_lvlN po), 0, 0) := by
  intro n
  induction n with
  | zero => intro zp zt zm zf zc zs zq zr ze zg zd zb zn za v2 v3 v4 d1 d5 res w_o_oRem w_o_oFilled w_o_oStatus w_o_oTop w_o_restIds w_o_fIds w_o_fQty w_o_fPrice w_o_lvlIds w_o_lvlR w_o_lvlA w_o_restN w_o_fN w_o_lvlN h; cases h
  | succ n ih =>
    intro zp zt zm zf zc zs zq zr ze zg zd zb zn za v2 v3 v4 d1 d5 res w_o_oRem w_o_oFilled w_o_oStatus w_o_oTop w_o_restIds w_o_fIds w_o_fQty w_o_fPrice w_o_lvlIds w_o_lvlR w_o_lvlA w_o_restN w_o_fN w_o_lvlN h
    unfold f_matchLevel_13 at h
    refine OEnds.adv hm_9 3 (pc' := 19) (L' := [qr 0, qu, qi v2, qi v3, qi v4, qu]) (S' := [.int za, .int v4]) (H' := (bk0 zh zi zp zt zm zo zf zc zs zq zr ze zg zd zl zj zk zu zb zn za po)) rfl ?_
    by_cases hc53 : v4 < za
    · simp only [if_pos hc53] at h
      refine OEnds.icmpF hm_9 rfl ((tlt hc53).2.1) ?_
      refine OEnds.adv hm_9 3 (pc' := 28) (L' := [qr 0, qu, qi v2, qi v3, qi v4, qu]) (S' := [.int v4, .ref 12]) (H' := (bk0 zh zi zp zt zm zo zf zc zs zq zr ze zg zd zl zj zk zu zb zn za po)) rfl ?_
      obtain ⟨x59, hx59, h⟩ := bnd h
      refine OEnds.plain hm_9 rfl rfl (x_iaload rfl hx59) ?_
      refine OEnds.adv hm_9 7 (pc' := 43) (L' := [qr 0, qu, qi v2, qi v3, qi v4, qi x59]) (S' := [.int x59, .ref 3, .int v4, .ref 13]) (H' := (bk0 zh zi zp zt zm zo zf zc zs zq zr ze zg zd zl zj zk zu zb zn za po)) rfl ?_
      obtain ⟨x60, hx60, h⟩ := bnd h
      refine OEnds.plain hm_9 rfl rfl (x_iaload rfl hx60) ?_
      show OEnds own_P 9 44 [qr 0, qu, qi v2, qi v3, qi v4, qi x59] [.int x60, .int v4, .ref 13] (bk0 zh zi zp zt zm zo zf zc zs zq zr ze zg zd zl zj zk zu zb zn za po) _
      obtain ⟨A61, hA61, h⟩ := bnd h
      refine OEnds.plain hm_9 rfl rfl (x_iastore rfl (Nat.le_of_ble_eq_true rfl) hA61) ?_
      refine OEnds.adv hm_9 4 (pc' := 52) (L' := [qr 0, qu, qi v2, qi v3, qi v4, qi x59]) (S' := [.int 0, .int v4, .ref 14]) (H' := (bk0 zh zi zp zt zm zo zf zc zs zq zr ze A61 zd zl zj zk zu zb zn za po)) rfl ?_
      obtain ⟨A62, hA62, h⟩ := bnd h
      refine OEnds.plain hm_9 rfl rfl (x_iastore rfl (Nat.le_of_ble_eq_true rfl) hA62) ?_
      refine OEnds.adv hm_9 2 (pc' := 13) (L' := [qr 0, qu, qi v2, qi v3, qi (v4 + (1 : Int32)), qi x59]) (S' := []) (H' := (bk0 zh zi zp zt zm zo zf zc zs zq zr ze A61 A62 zl zj zk zu zb zn za po)) rfl ?_
      exact ih h
    · simp only [if_neg hc53] at h
      refine OEnds.icmpT hm_9 rfl (q := 59) rfl ((flt hc53).2.1) ?_
      show OEnds own_P 9 59 [qr 0, qu, qi v2, qi v3, qi v4, qu] [] (bk0 zh zi zp zt zm zo zf zc zs zq zr ze zg zd zl zj zk zu zb zn za po) _
      exact hk59 h
theorem ok_matchLevel {zh zi : List Int32} {zo : List Int64} {zl zj zk : Int32} {zu : Int64} {po : List ACell} {zp zt zm zf zc zs zq zr ze zg zd : List Int32} {zb zn za v1 v2 v3 res : Int32} {w_o_oRem w_o_oFilled w_o_oStatus w_o_oTop w_o_restIds w_o_fIds w_o_fQty w_o_fPrice w_o_lvlIds w_o_lvlR w_o_lvlA : List Int32} {w_o_restN w_o_fN w_o_lvlN : Int32} (h : f_matchLevel zh zi zo zl zj zp zt zm zf zc zs zq zr ze zg zd zb zn za v1 v2 v3 = some (res, w_o_oRem, w_o_oFilled, w_o_oStatus, w_o_oTop, w_o_restIds, w_o_fIds, w_o_fQty, w_o_fPrice, w_o_lvlIds, w_o_lvlR, w_o_lvlA, w_o_restN, w_o_fN, w_o_lvlN)) : OEnds own_P 9 0 [qr 0, qi v1, qi v2, qi v3, qu, qu] [] (bk0 zh zi zp zt zm zo zf zc zs zq zr ze zg zd zl zj zk zu zb zn za po) (some (.int res), (bk0 zh zi w_o_oRem w_o_oFilled w_o_oStatus zo w_o_oTop w_o_restIds w_o_fIds w_o_fQty w_o_fPrice w_o_lvlIds w_o_lvlR w_o_lvlA zl zj zk zu w_o_restN w_o_fN w_o_lvlN po), 0, 0) := by
  unfold f_matchLevel at h
  refine OEnds.adv hm_9 3 (pc' := 3) (L' := [qr 0, qi v1, qi v2, qi v3, qu, qu]) (S' := [.int v2, .int v1, .ref 0]) (H' := (bk0 zh zi zp zt zm zo zf zc zs zq zr ze zg zd zl zj zk zu zb zn za po)) rfl ?_
  obtain ⟨⟨s56, s57⟩, hq54, h⟩ := bnd h
  refine OEnds.call0 hm_9 rfl rfl (by decide) rfl (as := [.ref 0, .int v1, .int v2]) (rest := []) rfl rfl (ok_gatherLevel hq54) ?_
  refine OEnds.adv hm_9 1 (pc' := 7) (L' := [qr 0, qi v1, qi v2, qi v3, qu, qu]) (S' := [.ref 0]) (H' := (bk0 zh zi zp zt zm zo zf zc zs zq zr s56 zg zd zl zj zk zu zb zn s57 po)) rfl ?_
  obtain ⟨s58, hq55, h⟩ := bnd h
  refine OEnds.call0 hm_9 rfl rfl (by decide) rfl (as := [.ref 0]) (rest := []) rfl rfl (ok_sortLevel hq55) ?_
  refine OEnds.adv hm_9 2 (pc' := 13) (L' := [qr 0, qi v1, qi v2, qi v3, qi 0, qu]) (S' := []) (H' := (bk0 zh zi zp zt zm zo zf zc zs zq zr s58 zg zd zl zj zk zu zb zn s57 po)) rfl ?_
  exact ok_matchLevel_13 (k59 := f_matchLevel_59 zh zi zo zl zj) ok_matchLevel_59 100000 h
theorem ok_matchIncoming_12 {zh zi : List Int32} {zo : List Int64} {zl zj zk : Int32} {zu : Int64} {po : List ACell} : ∀ (n : Nat), ∀ {zp zt zm zf zc zs zq zr ze zg zd : List Int32} {zb zn za v1 v2 v3 v5 v6 v7 : Int32} {d4 d8 d9 : Slot} {res : Int32} {w_o_oRem w_o_oFilled w_o_oStatus w_o_oTop w_o_restIds w_o_fIds w_o_fQty w_o_fPrice w_o_lvlIds w_o_lvlR w_o_lvlA : List Int32} {w_o_restN w_o_fN : Int32} {w_o_lvlN : Int32}, f_matchIncoming_12 zh zi zo zl zj n zp zt zm zf zc zs zq zr ze zg zd zb zn za v1 v2 v3 v5 v6 v7 = some (res, w_o_oRem, w_o_oFilled, w_o_oStatus, w_o_oTop, w_o_restIds, w_o_fIds, w_o_fQty, w_o_fPrice, w_o_lvlIds, w_o_lvlR, w_o_lvlA, w_o_restN, w_o_fN, w_o_lvlN) → OEnds own_P 3 12 [qr 0, qi v1, qi v2, qi v3, d4, qi v5, qi v6, qi v7, d8, d9] [] (bk0 zh zi zp zt zm zo zf zc zs zq zr ze zg zd zl zj zk zu zb zn za po) (some (.int res), (bk0 zh zi w_o_oRem w_o_oFilled w_o_oStatus zo w_o_oTop w_o_restIds w_o_fIds w_o_fQty w_o_fPrice w_o_lvlIds w_o_lvlR w_o_lvlA zl zj zk zu w_o_restN w_o_fN w_o_lvlN po), 0, 0) := by
  intro n
  induction n with
  | zero => intro zp zt zm zf zc zs zq zr ze zg zd zb zn za v1 v2 v3 v5 v6 v7 d4 d8 d9 res w_o_oRem w_o_oFilled w_o_oStatus w_o_oTop w_o_restIds w_o_fIds w_o_fQty w_o_fPrice w_o_lvlIds w_o_lvlR w_o_lvlA w_o_restN w_o_fN w_o_lvlN h; cases h
  | succ n ih =>
    intro zp zt zm zf zc zs zq zr ze zg zd zb zn za v1 v2 v3 v5 v6 v7 d4 d8 d9 res w_o_oRem w_o_oFilled w_o_oStatus w_o_oTop w_o_restIds w_o_fIds w_o_fQty w_o_fPrice w_o_lvlIds w_o_lvlR w_o_lvlA w_o_restN w_o_fN w_o_lvlN h
    unfold f_matchIncoming_12 at h
    refine OEnds.adv hm_3 2 (pc' := 16) (L' := [qr 0, qi v1, qi v2, qi v3, qu, qi v5, qi v6, qi v7, qu, qu]) (S' := [.int 64, .int v7]) (H' := (bk0 zh zi zp zt zm zo zf zc zs zq zr ze zg zd zl zj zk zu zb zn za po)) rfl ?_
    by_cases hc56 : (64 : Int32) < v7
    · simp only [if_pos hc56] at h
      refine OEnds.icmpT hm_3 rfl (q := 98) rfl ((tlt hc56).2.2.1) ?_
      refine OEnds.adv hm_3 1 (pc' := 100) (L' := [qr 0, qi v1, qi v2, qi v3, qu, qi v5, qi v6, qi v7, qu, qu]) (S' := [.int v5]) (H' := (bk0 zh zi zp zt zm zo zf zc zs zq zr ze zg zd zl zj zk zu zb zn za po)) rfl ?_
      cases h
      exact OEnds.iret hm_3 rfl rfl
    · simp only [if_neg hc56] at h
      refine OEnds.icmpF hm_3 rfl ((flt hc56).2.2.1) ?_
      refine OEnds.adv hm_3 1 (pc' := 21) (L' := [qr 0, qi v1, qi v2, qi v3, qu, qi v5, qi v6, qi v7, qu, qu]) (S' := [.int v5]) (H' := (bk0 zh zi zp zt zm zo zf zc zs zq zr ze zg zd zl zj zk zu zb zn za po)) rfl ?_
      by_cases hc57 : (0 : Int32) < v5
      · simp only [if_pos hc57] at h
        refine OEnds.ifF hm_3 rfl ((tlt hc57).2.2.2) ?_
        refine OEnds.adv hm_3 2 (pc' := 27) (L' := [qr 0, qi v1, qi v2, qi v3, qu, qi v5, qi v6, qi v7, qu, qu]) (S' := [.int v6, .ref 0]) (H' := (bk0 zh zi zp zt zm zo zf zc zs zq zr ze zg zd zl zj zk zu zb zn za po)) rfl ?_
        obtain ⟨r75, hq58, h⟩ := bnd h
        refine OEnds.call0 hm_3 rfl rfl (by decide) rfl (as := [.ref 0, .int v6]) (rest := []) rfl rfl (ok_bestOf hq58) ?_
        refine OEnds.adv hm_3 2 (pc' := 34) (L' := [qr 0, qi v1, qi v2, qi v3, qu, qi v5, qi v6, qi v7, qi r75, qu]) (S' := [.int r75]) (H' := (bk0 zh zi zp zt zm zo zf zc zs zq zr ze zg zd zl zj zk zu zb zn za po)) rfl ?_
        by_cases hc59 : r75 = (0 : Int32)
        · simp only [if_pos hc59] at h
          refine OEnds.ifF hm_3 rfl ((teq hc59).2) ?_
          refine OEnds.adv hm_3 2 (pc' := 100) (L' := [qr 0, qi v1, qi v2, qi v3, qu, qi v5, qi v6, qi v7, qi r75, qu]) (S' := [.int v5]) (H' := (bk0 zh zi zp zt zm zo zf zc zs zq zr ze zg zd zl zj zk zu zb zn za po)) rfl ?_
          cases h
          exact OEnds.iret hm_3 rfl rfl
        · simp only [if_neg hc59] at h
          refine OEnds.ifT hm_3 rfl (q := 40) rfl ((feq hc59).2) ?_
          refine OEnds.adv hm_3 4 (pc' := 45) (L' := [qr 0, qi v1, qi v2, qi v3, qu, qi v5, qi v6, qi v7, qi r75, qu]) (S' := [.int r75, .int v3, .int v2, .ref 0]) (H' := (bk0 zh zi zp zt zm zo zf zc zs zq zr ze zg zd zl zj zk zu zb zn za po)) rfl ?_
          obtain ⟨r76, hq60, h⟩ := bnd h
          refine OEnds.call0 hm_3 rfl rfl (by decide) rfl (as := [.ref 0, .int v2, .int v3, .int r75]) (rest := []) rfl rfl (ok_crosses hq60) ?_
          show OEnds own_P 3 48 [qr 0, qi v1, qi v2, qi v3, qu, qi v5, qi v6, qi v7, qi r75, qu] [.int r76] (bk0 zh zi zp zt zm zo zf zc zs zq zr ze zg zd zl zj zk zu zb zn za po) _
          by_cases hc61 : r76 = (0 : Int32)
          · simp only [if_pos hc61] at h
            refine OEnds.ifF hm_3 rfl ((teq hc61).2) ?_
            refine OEnds.adv hm_3 2 (pc' := 100) (L' := [qr 0, qi v1, qi v2, qi v3, qu, qi v5, qi v6, qi v7, qi r75, qu]) (S' := [.int v5]) (H' := (bk0 zh zi zp zt zm zo zf zc zs zq zr ze zg zd zl zj zk zu zb zn za po)) rfl ?_
            cases h
            exact OEnds.iret hm_3 rfl rfl
          · simp only [if_neg hc61] at h
            refine OEnds.ifT hm_3 rfl (q := 54) rfl ((feq hc61).2) ?_
            refine OEnds.adv hm_3 4 (pc' := 61) (L' := [qr 0, qi v1, qi v2, qi v3, qu, qi v5, qi v6, qi v7, qi r75, qu]) (S' := [.int v5, .int r75, .int v6, .ref 0]) (H' := (bk0 zh zi zp zt zm zo zf zc zs zq zr ze zg zd zl zj zk zu zb zn za po)) rfl ?_
            obtain ⟨⟨r77, s78, s79, s80, s81, s82, s83, s84, s85, s86, s87, s88, s89, s90, s91⟩, hq62, h⟩ := bnd h
            refine OEnds.call0 hm_3 rfl rfl (by decide) rfl (as := [.ref 0, .int v6, .int r75, .int v5]) (rest := []) rfl rfl (ok_matchLevel hq62) ?_
            refine OEnds.adv hm_3 2 (pc' := 68) (L' := [qr 0, qi v1, qi v2, qi v3, qu, qi v5, qi v6, qi v7, qi r75, qi r77]) (S' := [.int r77]) (H' := (bk0 zh zi s78 s79 s80 zo s81 s82 s83 s84 s85 s86 s87 s88 zl zj zk zu s89 s90 s91 po)) rfl ?_
            by_cases hc63 : (0 : Int32) < r77
            · simp only [if_pos hc63] at h
              refine OEnds.ifT hm_3 rfl (q := 74) rfl ((tlt hc63).2.2.1) ?_
              refine OEnds.adv hm_3 8 (pc' := 87) (L' := [qr 0, qi v1, qi v2, qi v3, qu, qi (v5 - r77), qi v6, qi v7, qi r75, qi r77]) (S' := [.int v1, .ref 4, .int v1, .ref 4]) (H' := (bk0 zh zi s78 s79 s80 zo s81 s82 s83 s84 s85 s86 s87 s88 zl zj zk zu s89 s90 s91 po)) rfl ?_
              obtain ⟨x92, hx92, h⟩ := bnd h
              refine OEnds.plain hm_3 rfl rfl (x_iaload rfl hx92) ?_
              refine OEnds.adv hm_3 2 (pc' := 91) (L' := [qr 0, qi v1, qi v2, qi v3, qu, qi (v5 - r77), qi v6, qi v7, qi r75, qi r77]) (S' := [.int (x92 + r77), .int v1, .ref 4]) (H' := (bk0 zh zi s78 s79 s80 zo s81 s82 s83 s84 s85 s86 s87 s88 zl zj zk zu s89 s90 s91 po)) rfl ?_
              obtain ⟨A93, hA93, h⟩ := bnd h
              refine OEnds.plain hm_3 rfl rfl (x_iastore rfl (Nat.le_of_ble_eq_true rfl) hA93) ?_
              refine OEnds.adv hm_3 2 (pc' := 12) (L' := [qr 0, qi v1, qi v2, qi v3, qu, qi (v5 - r77), qi v6, qi (v7 + (1 : Int32)), qi r75, qi r77]) (S' := []) (H' := (bk0 zh zi s78 A93 s80 zo s81 s82 s83 s84 s85 s86 s87 s88 zl zj zk zu s89 s90 s91 po)) rfl ?_
              exact ih h
            · simp only [if_neg hc63] at h
              refine OEnds.ifF hm_3 rfl ((flt hc63).2.2.1) ?_
              refine OEnds.adv hm_3 2 (pc' := 100) (L' := [qr 0, qi v1, qi v2, qi v3, qu, qi v5, qi v6, qi v7, qi r75, qi r77]) (S' := [.int v5]) (H' := (bk0 zh zi s78 s79 s80 zo s81 s82 s83 s84 s85 s86 s87 s88 zl zj zk zu s89 s90 s91 po)) rfl ?_
              cases h
              exact OEnds.iret hm_3 rfl rfl
      · simp only [if_neg hc57] at h
        refine OEnds.ifT hm_3 rfl (q := 98) rfl ((flt hc57).2.2.2) ?_
        refine OEnds.adv hm_3 1 (pc' := 100) (L' := [qr 0, qi v1, qi v2, qi v3, qu, qi v5, qi v6, qi v7, qu, qu]) (S' := [.int v5]) (H' := (bk0 zh zi zp zt zm zo zf zc zs zq zr ze zg zd zl zj zk zu zb zn za po)) rfl ?_
        cases h
        exact OEnds.iret hm_3 rfl rfl
theorem ok_matchIncoming {zh zi : List Int32} {zo : List Int64} {zl zj zk : Int32} {zu : Int64} {po : List ACell} {zp zt zm zf zc zs zq zr ze zg zd : List Int32} {zb zn za v1 v2 v3 v4 res : Int32} {w_o_oRem w_o_oFilled w_o_oStatus w_o_oTop w_o_restIds w_o_fIds w_o_fQty w_o_fPrice w_o_lvlIds w_o_lvlR w_o_lvlA : List Int32} {w_o_restN w_o_fN w_o_lvlN : Int32} (h : f_matchIncoming zh zi zo zl zj zp zt zm zf zc zs zq zr ze zg zd zb zn za v1 v2 v3 v4 = some (res, w_o_oRem, w_o_oFilled, w_o_oStatus, w_o_oTop, w_o_restIds, w_o_fIds, w_o_fQty, w_o_fPrice, w_o_lvlIds, w_o_lvlR, w_o_lvlA, w_o_restN, w_o_fN, w_o_lvlN)) : OEnds own_P 3 0 [qr 0, qi v1, qi v2, qi v3, qi v4, qu, qu, qu, qu, qu] [] (bk0 zh zi zp zt zm zo zf zc zs zq zr ze zg zd zl zj zk zu zb zn za po) (some (.int res), (bk0 zh zi w_o_oRem w_o_oFilled w_o_oStatus zo w_o_oTop w_o_restIds w_o_fIds w_o_fQty w_o_fPrice w_o_lvlIds w_o_lvlR w_o_lvlA zl zj zk zu w_o_restN w_o_fN w_o_lvlN po), 0, 0) := by
  unfold f_matchIncoming at h
  refine OEnds.adv hm_3 8 (pc' := 12) (L' := [qr 0, qi v1, qi v2, qi v3, qi v4, qi v4, qi ((1 : Int32) - v2), qi 0, qu, qu]) (S' := []) (H' := (bk0 zh zi zp zt zm zo zf zc zs zq zr ze zg zd zl zj zk zu zb zn za po)) rfl ?_
  exact ok_matchIncoming_12 100000 h
theorem ok_clearFlags_2 {zh zi zp zt zm : List Int32} {zo : List Int64} {zc zs zq zr ze zg zd : List Int32} {zl zj zk : Int32} {zu : Int64} {zb zn za : Int32} {po : List ACell} : ∀ (n : Nat), ∀ {zf : List Int32} {v1 v2 : Int32} {d3 : Slot} {w_o_oTop : List Int32}, f_clearFlags_2 zh zc zb n zf v1 v2 = some w_o_oTop → OEnds own_P 6 2 [qr 0, qi v1, qi v2, d3] [] (bk0 zh zi zp zt zm zo zf zc zs zq zr ze zg zd zl zj zk zu zb zn za po) (none, (bk0 zh zi zp zt zm zo w_o_oTop zc zs zq zr ze zg zd zl zj zk zu zb zn za po), 0, 0) := by
  intro n
  induction n with
  | zero => intro zf v1 v2 d3 w_o_oTop h; cases h
  | succ n ih =>
    intro zf v1 v2 d3 w_o_oTop h
    unfold f_clearFlags_2 at h
    refine OEnds.adv hm_6 3 (pc' := 7) (L' := [qr 0, qi v1, qi v2, qu]) (S' := [.int zb, .int v2]) (H' := (bk0 zh zi zp zt zm zo zf zc zs zq zr ze zg zd zl zj zk zu zb zn za po)) rfl ?_
    by_cases hc64 : v2 < zb
    · simp only [if_pos hc64] at h
      refine OEnds.icmpF hm_6 rfl ((tlt hc64).2.1) ?_
      refine OEnds.adv hm_6 3 (pc' := 15) (L' := [qr 0, qi v1, qi v2, qu]) (S' := [.int v2, .ref 8]) (H' := (bk0 zh zi zp zt zm zo zf zc zs zq zr ze zg zd zl zj zk zu zb zn za po)) rfl ?_
      obtain ⟨x94, hx94, h⟩ := bnd h
      refine OEnds.plain hm_6 rfl rfl (x_iaload rfl hx94) ?_
      refine OEnds.adv hm_6 4 (pc' := 22) (L' := [qr 0, qi v1, qi v2, qi x94]) (S' := [.int x94, .ref 1]) (H' := (bk0 zh zi zp zt zm zo zf zc zs zq zr ze zg zd zl zj zk zu zb zn za po)) rfl ?_
      obtain ⟨x95, hx95, h⟩ := bnd h
      refine OEnds.plain hm_6 rfl rfl (x_iaload rfl hx95) ?_
      refine OEnds.adv hm_6 1 (pc' := 24) (L' := [qr 0, qi v1, qi v2, qi x94]) (S' := [.int v1, .int x95]) (H' := (bk0 zh zi zp zt zm zo zf zc zs zq zr ze zg zd zl zj zk zu zb zn za po)) rfl ?_
      by_cases hc65 : x95 = v1
      · simp only [if_pos hc65] at h
        refine OEnds.icmpF hm_6 rfl ((teq hc65).2) ?_
        refine OEnds.adv hm_6 4 (pc' := 33) (L' := [qr 0, qi v1, qi v2, qi x94]) (S' := [.int 0, .int x94, .ref 7]) (H' := (bk0 zh zi zp zt zm zo zf zc zs zq zr ze zg zd zl zj zk zu zb zn za po)) rfl ?_
        obtain ⟨A96, hA96, h⟩ := bnd h
        refine OEnds.plain hm_6 rfl rfl (x_bastore rfl (Nat.le_of_ble_eq_true rfl) hA96) ?_
        refine OEnds.adv hm_6 2 (pc' := 2) (L' := [qr 0, qi v1, qi (v2 + (1 : Int32)), qi x94]) (S' := []) (H' := (bk0 zh zi zp zt zm zo A96 zc zs zq zr ze zg zd zl zj zk zu zb zn za po)) rfl ?_
        exact ih h
      · simp only [if_neg hc65] at h
        refine OEnds.icmpT hm_6 rfl (q := 34) rfl ((feq hc65).2) ?_
        refine OEnds.adv hm_6 2 (pc' := 2) (L' := [qr 0, qi v1, qi (v2 + (1 : Int32)), qi x94]) (S' := []) (H' := (bk0 zh zi zp zt zm zo zf zc zs zq zr ze zg zd zl zj zk zu zb zn za po)) rfl ?_
        exact ih h
    · simp only [if_neg hc64] at h
      refine OEnds.icmpT hm_6 rfl (q := 40) rfl ((flt hc64).2.1) ?_
      show OEnds own_P 6 40 [qr 0, qi v1, qi v2, qu] [] (bk0 zh zi zp zt zm zo zf zc zs zq zr ze zg zd zl zj zk zu zb zn za po) _
      cases h
      exact OEnds.vret hm_6 rfl rfl
theorem ok_clearFlags {zh zi zp zt zm : List Int32} {zo : List Int64} {zc zs zq zr ze zg zd : List Int32} {zl zj zk : Int32} {zu : Int64} {zb zn za : Int32} {po : List ACell} {zf : List Int32} {v1 : Int32} {w_o_oTop : List Int32} (h : f_clearFlags zh zc zb zf v1 = some w_o_oTop) : OEnds own_P 6 0 [qr 0, qi v1, qu, qu] [] (bk0 zh zi zp zt zm zo zf zc zs zq zr ze zg zd zl zj zk zu zb zn za po) (none, (bk0 zh zi zp zt zm zo w_o_oTop zc zs zq zr ze zg zd zl zj zk zu zb zn za po), 0, 0) := by
  unfold f_clearFlags at h
  refine OEnds.adv hm_6 2 (pc' := 2) (L' := [qr 0, qi v1, qi 0, qu]) (S' := []) (H' := (bk0 zh zi zp zt zm zo zf zc zs zq zr ze zg zd zl zj zk zu zb zn za po)) rfl ?_
  exact ok_clearFlags_2 100000 h
theorem ok_finishIncoming_90 {zh zi zt zs zq zr ze zg zd : List Int32} {zl zj zk zn za : Int32} {po : List ACell} : ∀ {zp zm : List Int32} {zo : List Int64} {zf zc : List Int32} {zu : Int64} {zb v1 v4 v7 : Int32} {d2 d3 d5 d6 : Slot} {w_o_oRem w_o_oStatus : List Int32} {w_o_oStamp : List Int64} {w_o_oTop w_o_restIds : List Int32} {w_o_stampCounter : Int64} {w_o_restN : Int32}, f_finishIncoming_90 zh zi zp zm zo zf zc zu zb v1 v4 v7 = some (w_o_oRem, w_o_oStatus, w_o_oStamp, w_o_oTop, w_o_restIds, w_o_stampCounter, w_o_restN) → OEnds own_P 5 90 [qr 0, qi v1, d2, d3, qi v4, d5, d6, qi v7] [] (bk0 zh zi zp zt zm zo zf zc zs zq zr ze zg zd zl zj zk zu zb zn za po) (none, (bk0 zh zi w_o_oRem zt w_o_oStatus w_o_oStamp w_o_oTop w_o_restIds zs zq zr ze zg zd zl zj zk w_o_stampCounter w_o_restN zn za po), 0, 0) := by
  intro zp zm zo zf zc zu zb v1 v4 v7 d2 d3 d5 d6 w_o_oRem w_o_oStatus w_o_oStamp w_o_oTop w_o_restIds w_o_stampCounter w_o_restN h
  unfold f_finishIncoming_90 at h
  refine OEnds.adv hm_5 11 (pc' := 109) (L' := [qr 0, qi v1, qu, qu, qi v4, qu, qu, qi v7]) (S' := [.long (zu + (1 : Int64)), .int v1, .ref 6]) (H' := (bk0 zh zi zp zt zm zo zf zc zs zq zr ze zg zd zl zj zk (zu + (1 : Int64)) zb zn za po)) rfl ?_
  obtain ⟨A102, hA102, h⟩ := bnd h
  refine OEnds.plain hm_5 rfl rfl (x_lastore rfl (Nat.le_of_ble_eq_true rfl) hA102) ?_
  refine OEnds.adv hm_5 4 (pc' := 117) (L' := [qr 0, qi v1, qu, qu, qi v4, qu, qu, qi v7]) (S' := [.int v4, .int v1, .ref 3]) (H' := (bk0 zh zi zp zt zm A102 zf zc zs zq zr ze zg zd zl zj zk (zu + (1 : Int64)) zb zn za po)) rfl ?_
  obtain ⟨A103, hA103, h⟩ := bnd h
  refine OEnds.plain hm_5 rfl rfl (x_iastore rfl (Nat.le_of_ble_eq_true rfl) hA103) ?_
  refine OEnds.adv hm_5 4 (pc' := 124) (L' := [qr 0, qi v1, qu, qu, qi v4, qu, qu, qi v7]) (S' := [.int 1, .int v1, .ref 5]) (H' := (bk0 zh zi A103 zt zm A102 zf zc zs zq zr ze zg zd zl zj zk (zu + (1 : Int64)) zb zn za po)) rfl ?_
  obtain ⟨A104, hA104, h⟩ := bnd h
  refine OEnds.plain hm_5 rfl rfl (x_iastore rfl (Nat.le_of_ble_eq_true rfl) hA104) ?_
  refine OEnds.adv hm_5 4 (pc' := 132) (L' := [qr 0, qi v1, qu, qu, qi v4, qu, qu, qi v7]) (S' := [.int v7, .int v1, .ref 7]) (H' := (bk0 zh zi A103 zt A104 A102 zf zc zs zq zr ze zg zd zl zj zk (zu + (1 : Int64)) zb zn za po)) rfl ?_
  obtain ⟨A105, hA105, h⟩ := bnd h
  refine OEnds.plain hm_5 rfl rfl (x_bastore rfl (Nat.le_of_ble_eq_true rfl) hA105) ?_
  refine OEnds.adv hm_5 5 (pc' := 142) (L' := [qr 0, qi v1, qu, qu, qi v4, qu, qu, qi v7]) (S' := [.int v1, .int zb, .ref 8]) (H' := (bk0 zh zi A103 zt A104 A102 A105 zc zs zq zr ze zg zd zl zj zk (zu + (1 : Int64)) zb zn za po)) rfl ?_
  obtain ⟨A106, hA106, h⟩ := bnd h
  refine OEnds.plain hm_5 rfl rfl (x_iastore rfl (Nat.le_of_ble_eq_true rfl) hA106) ?_
  refine OEnds.adv hm_5 6 (pc' := 153) (L' := [qr 0, qi v1, qu, qu, qi v4, qu, qu, qi v7]) (S' := []) (H' := (bk0 zh zi A103 zt A104 A102 A105 A106 zs zq zr ze zg zd zl zj zk (zu + (1 : Int64)) (zb + (1 : Int32)) zn za po)) rfl ?_
  cases h
  exact OEnds.vret hm_5 rfl rfl
theorem ok_finishIncoming_78 {zh zi zt zs zq zr ze zg zd : List Int32} {zl zj zk zn za : Int32} {po : List ACell} : ∀ {zp zm : List Int32} {zo : List Int64} {zf zc : List Int32} {zu : Int64} {zb v1 v2 v4 t0 : Int32} {d3 d5 d6 d7 : Slot} {w_o_oRem w_o_oStatus : List Int32} {w_o_oStamp : List Int64} {w_o_oTop w_o_restIds : List Int32} {w_o_stampCounter : Int64} {w_o_restN : Int32}, f_finishIncoming_78 zh zi zp zm zo zf zc zu zb v1 v2 v4 t0 = some (w_o_oRem, w_o_oStatus, w_o_oStamp, w_o_oTop, w_o_restIds, w_o_stampCounter, w_o_restN) → OEnds own_P 5 78 [qr 0, qi v1, qi v2, d3, qi v4, d5, d6, d7] [.int t0] (bk0 zh zi zp zt zm zo zf zc zs zq zr ze zg zd zl zj zk zu zb zn za po) (none, (bk0 zh zi w_o_oRem zt w_o_oStatus w_o_oStamp w_o_oTop w_o_restIds zs zq zr ze zg zd zl zj zk w_o_stampCounter w_o_restN zn za po), 0, 0) := by
  intro zp zm zo zf zc zu zb v1 v2 v4 t0 d3 d5 d6 d7 w_o_oRem w_o_oStatus w_o_oStamp w_o_oTop w_o_restIds w_o_stampCounter w_o_restN h
  unfold f_finishIncoming_78 at h
  refine OEnds.adv hm_5 2 (pc' := 82) (L' := [qr 0, qi v1, qi v2, qu, qi v4, qu, qu, qi t0]) (S' := [.int t0]) (H' := (bk0 zh zi zp zt zm zo zf zc zs zq zr ze zg zd zl zj zk zu zb zn za po)) rfl ?_
  by_cases hc66 : t0 = (0 : Int32)
  · simp only [if_pos hc66] at h
    refine OEnds.ifT hm_5 rfl (q := 90) rfl ((teq hc66).1) ?_
    show OEnds own_P 5 90 [qr 0, qi v1, qi v2, qu, qi v4, qu, qu, qi t0] [] (bk0 zh zi zp zt zm zo zf zc zs zq zr ze zg zd zl zj zk zu zb zn za po) _
    exact ok_finishIncoming_90 h
  · simp only [if_neg hc66] at h
    refine OEnds.ifF hm_5 rfl ((feq hc66).1) ?_
    refine OEnds.adv hm_5 2 (pc' := 87) (L' := [qr 0, qi v1, qi v2, qu, qi v4, qu, qu, qi t0]) (S' := [.int v2, .ref 0]) (H' := (bk0 zh zi zp zt zm zo zf zc zs zq zr ze zg zd zl zj zk zu zb zn za po)) rfl ?_
    obtain ⟨s101, hq67, h⟩ := bnd h
    refine OEnds.call0 hm_5 rfl rfl (by decide) rfl (as := [.ref 0, .int v2]) (rest := []) rfl rfl (ok_clearFlags hq67) ?_
    show OEnds own_P 5 90 [qr 0, qi v1, qi v2, qu, qi v4, qu, qu, qi t0] [] (bk0 zh zi zp zt zm zo s101 zc zs zq zr ze zg zd zl zj zk zu zb zn za po) _
    exact ok_finishIncoming_90 h
theorem ok_finishIncoming_35 {zh zi zt zs zq zr ze zg zd : List Int32} {zl zj zk zn za : Int32} {po : List ACell} : ∀ {zp zm : List Int32} {zo : List Int64} {zf zc : List Int32} {zu : Int64} {zb v1 : Int32} {d2 d3 d4 d5 d6 d7 : Slot} {w_o_oRem w_o_oStatus : List Int32} {w_o_oStamp : List Int64} {w_o_oTop w_o_restIds : List Int32} {w_o_stampCounter : Int64} {w_o_restN : Int32}, f_finishIncoming_35 zh zi zp zm zo zf zc zu zb v1 = some (w_o_oRem, w_o_oStatus, w_o_oStamp, w_o_oTop, w_o_restIds, w_o_stampCounter, w_o_restN) → OEnds own_P 5 35 [qr 0, qi v1, d2, d3, d4, d5, d6, d7] [] (bk0 zh zi zp zt zm zo zf zc zs zq zr ze zg zd zl zj zk zu zb zn za po) (none, (bk0 zh zi w_o_oRem zt w_o_oStatus w_o_oStamp w_o_oTop w_o_restIds zs zq zr ze zg zd zl zj zk w_o_stampCounter w_o_restN zn za po), 0, 0) := by
  intro zp zm zo zf zc zu zb v1 d2 d3 d4 d5 d6 d7 w_o_oRem w_o_oStatus w_o_oStamp w_o_oTop w_o_restIds w_o_stampCounter w_o_restN h
  unfold f_finishIncoming_35 at h
  refine OEnds.adv hm_5 4 (pc' := 41) (L' := [qr 0, qi v1, qu, qu, qu, qu, qu, qu]) (S' := [.int 4, .int v1, .ref 5]) (H' := (bk0 zh zi zp zt zm zo zf zc zs zq zr ze zg zd zl zj zk zu zb zn za po)) rfl ?_
  obtain ⟨A107, hA107, h⟩ := bnd h
  refine OEnds.plain hm_5 rfl rfl (x_iastore rfl (Nat.le_of_ble_eq_true rfl) hA107) ?_
  refine OEnds.adv hm_5 4 (pc' := 48) (L' := [qr 0, qi v1, qu, qu, qu, qu, qu, qu]) (S' := [.int 0, .int v1, .ref 3]) (H' := (bk0 zh zi zp zt A107 zo zf zc zs zq zr ze zg zd zl zj zk zu zb zn za po)) rfl ?_
  obtain ⟨A108, hA108, h⟩ := bnd h
  refine OEnds.plain hm_5 rfl rfl (x_iastore rfl (Nat.le_of_ble_eq_true rfl) hA108) ?_
  show OEnds own_P 5 49 [qr 0, qi v1, qu, qu, qu, qu, qu, qu] [] (bk0 zh zi A108 zt A107 zo zf zc zs zq zr ze zg zd zl zj zk zu zb zn za po) _
  cases h
  exact OEnds.vret hm_5 rfl rfl
theorem ok_finishIncoming {zh zi zt zs zq zr ze zg zd : List Int32} {zl zj zk zn za : Int32} {po : List ACell} {zp zm : List Int32} {zo : List Int64} {zf zc : List Int32} {zu : Int64} {zb v1 v2 v3 v4 v5 : Int32} {w_o_oRem w_o_oStatus : List Int32} {w_o_oStamp : List Int64} {w_o_oTop w_o_restIds : List Int32} {w_o_stampCounter : Int64} {w_o_restN : Int32} (h : f_finishIncoming zh zi zp zm zo zf zc zu zb v1 v2 v3 v4 v5 = some (w_o_oRem, w_o_oStatus, w_o_oStamp, w_o_oTop, w_o_restIds, w_o_stampCounter, w_o_restN)) : OEnds own_P 5 0 [qr 0, qi v1, qi v2, qi v3, qi v4, qi v5, qu, qu] [] (bk0 zh zi zp zt zm zo zf zc zs zq zr ze zg zd zl zj zk zu zb zn za po) (none, (bk0 zh zi w_o_oRem zt w_o_oStatus w_o_oStamp w_o_oTop w_o_restIds zs zq zr ze zg zd zl zj zk w_o_stampCounter w_o_restN zn za po), 0, 0) := by
  unfold f_finishIncoming at h
  refine OEnds.adv hm_5 1 (pc' := 2) (L' := [qr 0, qi v1, qi v2, qi v3, qi v4, qi v5, qu, qu]) (S' := [.int v4]) (H' := (bk0 zh zi zp zt zm zo zf zc zs zq zr ze zg zd zl zj zk zu zb zn za po)) rfl ?_
  by_cases hc68 : v4 = (0 : Int32)
  · simp only [if_pos hc68] at h
    refine OEnds.ifF hm_5 rfl ((teq hc68).2) ?_
    refine OEnds.adv hm_5 4 (pc' := 11) (L' := [qr 0, qi v1, qi v2, qi v3, qi v4, qi v5, qu, qu]) (S' := [.int 2, .int v1, .ref 5]) (H' := (bk0 zh zi zp zt zm zo zf zc zs zq zr ze zg zd zl zj zk zu zb zn za po)) rfl ?_
    obtain ⟨A99, hA99, h⟩ := bnd h
    refine OEnds.plain hm_5 rfl rfl (x_iastore rfl (Nat.le_of_ble_eq_true rfl) hA99) ?_
    refine OEnds.adv hm_5 4 (pc' := 18) (L' := [qr 0, qi v1, qi v2, qi v3, qi v4, qi v5, qu, qu]) (S' := [.int 0, .int v1, .ref 3]) (H' := (bk0 zh zi zp zt A99 zo zf zc zs zq zr ze zg zd zl zj zk zu zb zn za po)) rfl ?_
    obtain ⟨A100, hA100, h⟩ := bnd h
    refine OEnds.plain hm_5 rfl rfl (x_iastore rfl (Nat.le_of_ble_eq_true rfl) hA100) ?_
    show OEnds own_P 5 19 [qr 0, qi v1, qi v2, qi v3, qi v4, qi v5, qu, qu] [] (bk0 zh zi A100 zt A99 zo zf zc zs zq zr ze zg zd zl zj zk zu zb zn za po) _
    cases h
    exact OEnds.vret hm_5 rfl rfl
  · simp only [if_neg hc68] at h
    refine OEnds.ifT hm_5 rfl (q := 20) rfl ((feq hc68).2) ?_
    refine OEnds.adv hm_5 2 (pc' := 23) (L' := [qr 0, qi v1, qi v2, qi v3, qi v4, qi v5, qu, qu]) (S' := [.int 1, .int v5]) (H' := (bk0 zh zi zp zt zm zo zf zc zs zq zr ze zg zd zl zj zk zu zb zn za po)) rfl ?_
    by_cases hc69 : v5 = (1 : Int32)
    · simp only [if_pos hc69] at h
      refine OEnds.icmpT hm_5 rfl (q := 35) rfl ((teq hc69).1) ?_
      show OEnds own_P 5 35 [qr 0, qi v1, qi v2, qi v3, qi v4, qi v5, qu, qu] [] (bk0 zh zi zp zt zm zo zf zc zs zq zr ze zg zd zl zj zk zu zb zn za po) _
      exact ok_finishIncoming_35 h
    · simp only [if_neg hc69] at h
      refine OEnds.icmpF hm_5 rfl ((feq hc69).1) ?_
      refine OEnds.adv hm_5 3 (pc' := 32) (L' := [qr 0, qi v1, qi v2, qi v3, qi v4, qi v5, qu, qu]) (S' := [.int 64, .int zb]) (H' := (bk0 zh zi zp zt zm zo zf zc zs zq zr ze zg zd zl zj zk zu zb zn za po)) rfl ?_
      by_cases hc70 : zb < (64 : Int32)
      · simp only [if_pos hc70] at h
        refine OEnds.icmpT hm_5 rfl (q := 50) rfl ((tlt hc70).1) ?_
        refine OEnds.adv hm_5 2 (pc' := 52) (L' := [qr 0, qi v1, qi v2, qi v3, qi v4, qi v5, qu, qu]) (S' := [.int v2, .ref 0]) (H' := (bk0 zh zi zp zt zm zo zf zc zs zq zr ze zg zd zl zj zk zu zb zn za po)) rfl ?_
        obtain ⟨r97, hq71, h⟩ := bnd h
        refine OEnds.call0 hm_5 rfl rfl (by decide) rfl (as := [.ref 0, .int v2]) (rest := []) rfl rfl (ok_bestOf hq71) ?_
        refine OEnds.adv hm_5 2 (pc' := 59) (L' := [qr 0, qi v1, qi v2, qi v3, qi v4, qi v5, qi r97, qu]) (S' := [.int r97]) (H' := (bk0 zh zi zp zt zm zo zf zc zs zq zr ze zg zd zl zj zk zu zb zn za po)) rfl ?_
        by_cases hc72 : r97 = (0 : Int32)
        · simp only [if_pos hc72] at h
          refine OEnds.ifT hm_5 rfl (q := 73) rfl ((teq hc72).1) ?_
          refine OEnds.adv hm_5 2 (pc' := 78) (L' := [qr 0, qi v1, qi v2, qi v3, qi v4, qi v5, qi r97, qu]) (S' := [.int 1]) (H' := (bk0 zh zi zp zt zm zo zf zc zs zq zr ze zg zd zl zj zk zu zb zn za po)) rfl ?_
          exact ok_finishIncoming_78 h
        · simp only [if_neg hc72] at h
          refine OEnds.ifF hm_5 rfl ((feq hc72).1) ?_
          refine OEnds.adv hm_5 4 (pc' := 67) (L' := [qr 0, qi v1, qi v2, qi v3, qi v4, qi v5, qi r97, qu]) (S' := [.int r97, .int v3, .int v2, .ref 0]) (H' := (bk0 zh zi zp zt zm zo zf zc zs zq zr ze zg zd zl zj zk zu zb zn za po)) rfl ?_
          obtain ⟨r98, hq73, h⟩ := bnd h
          refine OEnds.call0 hm_5 rfl rfl (by decide) rfl (as := [.ref 0, .int v2, .int v3, .int r97]) (rest := []) rfl rfl (ok_better hq73) ?_
          show OEnds own_P 5 70 [qr 0, qi v1, qi v2, qi v3, qi v4, qi v5, qi r97, qu] [.int r98] (bk0 zh zi zp zt zm zo zf zc zs zq zr ze zg zd zl zj zk zu zb zn za po) _
          by_cases hc74 : r98 = (0 : Int32)
          · simp only [if_pos hc74] at h
            refine OEnds.ifT hm_5 rfl (q := 77) rfl ((teq hc74).1) ?_
            refine OEnds.adv hm_5 1 (pc' := 78) (L' := [qr 0, qi v1, qi v2, qi v3, qi v4, qi v5, qi r97, qu]) (S' := [.int 0]) (H' := (bk0 zh zi zp zt zm zo zf zc zs zq zr ze zg zd zl zj zk zu zb zn za po)) rfl ?_
            exact ok_finishIncoming_78 h
          · simp only [if_neg hc74] at h
            refine OEnds.ifF hm_5 rfl ((feq hc74).1) ?_
            refine OEnds.adv hm_5 2 (pc' := 78) (L' := [qr 0, qi v1, qi v2, qi v3, qi v4, qi v5, qi r97, qu]) (S' := [.int 1]) (H' := (bk0 zh zi zp zt zm zo zf zc zs zq zr ze zg zd zl zj zk zu zb zn za po)) rfl ?_
            exact ok_finishIncoming_78 h
      · simp only [if_neg hc70] at h
        refine OEnds.icmpF hm_5 rfl ((flt hc70).1) ?_
        show OEnds own_P 5 35 [qr 0, qi v1, qi v2, qi v3, qi v4, qi v5, qu, qu] [] (bk0 zh zi zp zt zm zo zf zc zs zq zr ze zg zd zl zj zk zu zb zn za po) _
        exact ok_finishIncoming_35 h
theorem ok_submit_55 {zl zj : Int32} {po : List ACell} : ∀ {zh zi zp zt zm : List Int32} {zo : List Int64} {zf zc zs zq zr ze zg zd : List Int32} {zk : Int32} {zu : Int64} {zb zn za v1 v2 v3 v4 : Int32} {d5 d6 : Slot} {res : Int32} {w_o_oSide w_o_oPrice w_o_oRem w_o_oFilled w_o_oStatus : List Int32} {w_o_oStamp : List Int64} {w_o_oTop w_o_restIds w_o_fIds w_o_fQty w_o_fPrice w_o_lvlIds w_o_lvlR w_o_lvlA : List Int32} {w_o_accepted : Int32} {w_o_stampCounter : Int64} {w_o_restN w_o_fN : Int32} {w_o_lvlN : Int32}, f_submit_55 zl zj zh zi zp zt zm zo zf zc zs zq zr ze zg zd zk zu zb zn za v1 v2 v3 v4 = some (res, w_o_oSide, w_o_oPrice, w_o_oRem, w_o_oFilled, w_o_oStatus, w_o_oStamp, w_o_oTop, w_o_restIds, w_o_fIds, w_o_fQty, w_o_fPrice, w_o_lvlIds, w_o_lvlR, w_o_lvlA, w_o_accepted, w_o_stampCounter, w_o_restN, w_o_fN, w_o_lvlN) → OEnds own_P 2 55 [qr 0, qi v1, qi v2, qi v3, qi v4, d5, d6] [] (bk0 zh zi zp zt zm zo zf zc zs zq zr ze zg zd zl zj zk zu zb zn za po) (some (.int res), (bk0 w_o_oSide w_o_oPrice w_o_oRem w_o_oFilled w_o_oStatus w_o_oStamp w_o_oTop w_o_restIds w_o_fIds w_o_fQty w_o_fPrice w_o_lvlIds w_o_lvlR w_o_lvlA zl zj w_o_accepted w_o_stampCounter w_o_restN w_o_fN w_o_lvlN po), 0, 0) := by
  intro zh zi zp zt zm zo zf zc zs zq zr ze zg zd zk zu zb zn za v1 v2 v3 v4 d5 d6 res w_o_oSide w_o_oPrice w_o_oRem w_o_oFilled w_o_oStatus w_o_oStamp w_o_oTop w_o_restIds w_o_fIds w_o_fQty w_o_fPrice w_o_lvlIds w_o_lvlR w_o_lvlA w_o_accepted w_o_stampCounter w_o_restN w_o_fN w_o_lvlN h
  unfold f_submit_55 at h
  refine OEnds.adv hm_2 3 (pc' := 62) (L' := [qr 0, qi v1, qi v2, qi v3, qi v4, qu, qu]) (S' := [.int 255, .int zk]) (H' := (bk0 zh zi zp zt zm zo zf zc zs zq zr ze zg zd zl zj zk zu zb zn za po)) rfl ?_
  by_cases hc75 : zk < (255 : Int32)
  · simp only [if_pos hc75] at h
    refine OEnds.icmpT hm_2 rfl (q := 68) rfl ((tlt hc75).1) ?_
    refine OEnds.adv hm_2 16 (pc' := 96) (L' := [qr 0, qi v1, qi v2, qi v3, qi v4, qi (zk + (1 : Int32)), qu]) (S' := [.int v1, .int (zk + (1 : Int32)), .ref 1]) (H' := (bk0 zh zi zp zt zm zo zf zc zs zq zr ze zg zd zl zj (zk + (1 : Int32)) zu zb 0 za po)) rfl ?_
    obtain ⟨A109, hA109, h⟩ := bnd h
    refine OEnds.plain hm_2 rfl rfl (x_iastore rfl (Nat.le_of_ble_eq_true rfl) hA109) ?_
    refine OEnds.adv hm_2 4 (pc' := 104) (L' := [qr 0, qi v1, qi v2, qi v3, qi v4, qi (zk + (1 : Int32)), qu]) (S' := [.int v2, .int (zk + (1 : Int32)), .ref 2]) (H' := (bk0 A109 zi zp zt zm zo zf zc zs zq zr ze zg zd zl zj (zk + (1 : Int32)) zu zb 0 za po)) rfl ?_
    obtain ⟨A110, hA110, h⟩ := bnd h
    refine OEnds.plain hm_2 rfl rfl (x_iastore rfl (Nat.le_of_ble_eq_true rfl) hA110) ?_
    refine OEnds.adv hm_2 4 (pc' := 112) (L' := [qr 0, qi v1, qi v2, qi v3, qi v4, qi (zk + (1 : Int32)), qu]) (S' := [.int 0, .int (zk + (1 : Int32)), .ref 3]) (H' := (bk0 A109 A110 zp zt zm zo zf zc zs zq zr ze zg zd zl zj (zk + (1 : Int32)) zu zb 0 za po)) rfl ?_
    obtain ⟨A111, hA111, h⟩ := bnd h
    refine OEnds.plain hm_2 rfl rfl (x_iastore rfl (Nat.le_of_ble_eq_true rfl) hA111) ?_
    refine OEnds.adv hm_2 4 (pc' := 120) (L' := [qr 0, qi v1, qi v2, qi v3, qi v4, qi (zk + (1 : Int32)), qu]) (S' := [.int 0, .int (zk + (1 : Int32)), .ref 4]) (H' := (bk0 A109 A110 A111 zt zm zo zf zc zs zq zr ze zg zd zl zj (zk + (1 : Int32)) zu zb 0 za po)) rfl ?_
    obtain ⟨A112, hA112, h⟩ := bnd h
    refine OEnds.plain hm_2 rfl rfl (x_iastore rfl (Nat.le_of_ble_eq_true rfl) hA112) ?_
    refine OEnds.adv hm_2 4 (pc' := 128) (L' := [qr 0, qi v1, qi v2, qi v3, qi v4, qi (zk + (1 : Int32)), qu]) (S' := [.int 0, .int (zk + (1 : Int32)), .ref 7]) (H' := (bk0 A109 A110 A111 A112 zm zo zf zc zs zq zr ze zg zd zl zj (zk + (1 : Int32)) zu zb 0 za po)) rfl ?_
    obtain ⟨A113, hA113, h⟩ := bnd h
    refine OEnds.plain hm_2 rfl rfl (x_bastore rfl (Nat.le_of_ble_eq_true rfl) hA113) ?_
    refine OEnds.adv hm_2 4 (pc' := 136) (L' := [qr 0, qi v1, qi v2, qi v3, qi v4, qi (zk + (1 : Int32)), qu]) (S' := [.long 0, .int (zk + (1 : Int32)), .ref 6]) (H' := (bk0 A109 A110 A111 A112 zm zo A113 zc zs zq zr ze zg zd zl zj (zk + (1 : Int32)) zu zb 0 za po)) rfl ?_
    obtain ⟨A114, hA114, h⟩ := bnd h
    refine OEnds.plain hm_2 rfl rfl (x_lastore rfl (Nat.le_of_ble_eq_true rfl) hA114) ?_
    refine OEnds.adv hm_2 5 (pc' := 143) (L' := [qr 0, qi v1, qi v2, qi v3, qi v4, qi (zk + (1 : Int32)), qu]) (S' := [.int v3, .int v2, .int v1, .int (zk + (1 : Int32)), .ref 0]) (H' := (bk0 A109 A110 A111 A112 zm A114 A113 zc zs zq zr ze zg zd zl zj (zk + (1 : Int32)) zu zb 0 za po)) rfl ?_
    obtain ⟨⟨r115, s116, s117, s118, s119, s120, s121, s122, s123, s124, s125, s126, s127, s128, s129⟩, hq76, h⟩ := bnd h
    refine OEnds.call0 hm_2 rfl rfl (by decide) rfl (as := [.ref 0, .int (zk + (1 : Int32)), .int v1, .int v2, .int v3]) (rest := []) rfl rfl (ok_matchIncoming hq76) ?_
    refine OEnds.adv hm_2 7 (pc' := 157) (L' := [qr 0, qi v1, qi v2, qi v3, qi v4, qi (zk + (1 : Int32)), qi r115]) (S' := [.int v4, .int r115, .int v2, .int v1, .int (zk + (1 : Int32)), .ref 0]) (H' := (bk0 A109 A110 s116 s117 s118 A114 s119 s120 s121 s122 s123 s124 s125 s126 zl zj (zk + (1 : Int32)) zu s127 s128 s129 po)) rfl ?_
    obtain ⟨⟨s130, s131, s132, s133, s134, s135, s136⟩, hq77, h⟩ := bnd h
    refine OEnds.call0 hm_2 rfl rfl (by decide) rfl (as := [.ref 0, .int (zk + (1 : Int32)), .int v1, .int v2, .int r115, .int v4]) (rest := []) rfl rfl (ok_finishIncoming hq77) ?_
    refine OEnds.adv hm_2 1 (pc' := 162) (L' := [qr 0, qi v1, qi v2, qi v3, qi v4, qi (zk + (1 : Int32)), qi r115]) (S' := [.int (zk + (1 : Int32))]) (H' := (bk0 A109 A110 s130 s117 s131 s132 s133 s134 s121 s122 s123 s124 s125 s126 zl zj (zk + (1 : Int32)) s135 s136 s128 s129 po)) rfl ?_
    cases h
    exact OEnds.iret hm_2 rfl rfl
  · simp only [if_neg hc75] at h
    refine OEnds.icmpF hm_2 rfl ((flt hc75).1) ?_
    refine OEnds.adv hm_2 1 (pc' := 67) (L' := [qr 0, qi v1, qi v2, qi v3, qi v4, qu, qu]) (S' := [.int (-5)]) (H' := (bk0 zh zi zp zt zm zo zf zc zs zq zr ze zg zd zl zj zk zu zb zn za po)) rfl ?_
    cases h
    exact OEnds.iret hm_2 rfl rfl
theorem ok_submit_11 {zl zj : Int32} {po : List ACell} : ∀ {zh zi zp zt zm : List Int32} {zo : List Int64} {zf zc zs zq zr ze zg zd : List Int32} {zk : Int32} {zu : Int64} {zb zn za v1 v2 v3 v4 : Int32} {d5 d6 : Slot} {res : Int32} {w_o_oSide w_o_oPrice w_o_oRem w_o_oFilled w_o_oStatus : List Int32} {w_o_oStamp : List Int64} {w_o_oTop w_o_restIds w_o_fIds w_o_fQty w_o_fPrice w_o_lvlIds w_o_lvlR w_o_lvlA : List Int32} {w_o_accepted : Int32} {w_o_stampCounter : Int64} {w_o_restN w_o_fN : Int32} {w_o_lvlN : Int32}, f_submit_11 zl zj zh zi zp zt zm zo zf zc zs zq zr ze zg zd zk zu zb zn za v1 v2 v3 v4 = some (res, w_o_oSide, w_o_oPrice, w_o_oRem, w_o_oFilled, w_o_oStatus, w_o_oStamp, w_o_oTop, w_o_restIds, w_o_fIds, w_o_fQty, w_o_fPrice, w_o_lvlIds, w_o_lvlR, w_o_lvlA, w_o_accepted, w_o_stampCounter, w_o_restN, w_o_fN, w_o_lvlN) → OEnds own_P 2 11 [qr 0, qi v1, qi v2, qi v3, qi v4, d5, d6] [] (bk0 zh zi zp zt zm zo zf zc zs zq zr ze zg zd zl zj zk zu zb zn za po) (some (.int res), (bk0 w_o_oSide w_o_oPrice w_o_oRem w_o_oFilled w_o_oStatus w_o_oStamp w_o_oTop w_o_restIds w_o_fIds w_o_fQty w_o_fPrice w_o_lvlIds w_o_lvlR w_o_lvlA zl zj w_o_accepted w_o_stampCounter w_o_restN w_o_fN w_o_lvlN po), 0, 0) := by
  intro zh zi zp zt zm zo zf zc zs zq zr ze zg zd zk zu zb zn za v1 v2 v3 v4 d5 d6 res w_o_oSide w_o_oPrice w_o_oRem w_o_oFilled w_o_oStatus w_o_oStamp w_o_oTop w_o_restIds w_o_fIds w_o_fQty w_o_fPrice w_o_lvlIds w_o_lvlR w_o_lvlA w_o_accepted w_o_stampCounter w_o_restN w_o_fN w_o_lvlN h
  unfold f_submit_11 at h
  refine OEnds.adv hm_2 2 (pc' := 13) (L' := [qr 0, qi v1, qi v2, qi v3, qi v4, qu, qu]) (S' := [.int 1, .int v2]) (H' := (bk0 zh zi zp zt zm zo zf zc zs zq zr ze zg zd zl zj zk zu zb zn za po)) rfl ?_
  by_cases hc78 : v2 < (1 : Int32)
  · simp only [if_pos hc78] at h
    refine OEnds.icmpT hm_2 rfl (q := 23) rfl ((tlt hc78).1) ?_
    refine OEnds.adv hm_2 1 (pc' := 25) (L' := [qr 0, qi v1, qi v2, qi v3, qi v4, qu, qu]) (S' := [.int (-2)]) (H' := (bk0 zh zi zp zt zm zo zf zc zs zq zr ze zg zd zl zj zk zu zb zn za po)) rfl ?_
    cases h
    exact OEnds.iret hm_2 rfl rfl
  · simp only [if_neg hc78] at h
    refine OEnds.icmpF hm_2 rfl ((flt hc78).1) ?_
    refine OEnds.adv hm_2 2 (pc' := 20) (L' := [qr 0, qi v1, qi v2, qi v3, qi v4, qu, qu]) (S' := [.int 1000, .int v2]) (H' := (bk0 zh zi zp zt zm zo zf zc zs zq zr ze zg zd zl zj zk zu zb zn za po)) rfl ?_
    by_cases hc79 : (1000 : Int32) < v2
    · simp only [if_pos hc79] at h
      refine OEnds.icmpF hm_2 rfl ((tlt hc79).2.2.2) ?_
      refine OEnds.adv hm_2 1 (pc' := 25) (L' := [qr 0, qi v1, qi v2, qi v3, qi v4, qu, qu]) (S' := [.int (-2)]) (H' := (bk0 zh zi zp zt zm zo zf zc zs zq zr ze zg zd zl zj zk zu zb zn za po)) rfl ?_
      cases h
      exact OEnds.iret hm_2 rfl rfl
    · simp only [if_neg hc79] at h
      refine OEnds.icmpT hm_2 rfl (q := 26) rfl ((flt hc79).2.2.2) ?_
      refine OEnds.adv hm_2 2 (pc' := 28) (L' := [qr 0, qi v1, qi v2, qi v3, qi v4, qu, qu]) (S' := [.int 1, .int v3]) (H' := (bk0 zh zi zp zt zm zo zf zc zs zq zr ze zg zd zl zj zk zu zb zn za po)) rfl ?_
      by_cases hc80 : v3 < (1 : Int32)
      · simp only [if_pos hc80] at h
        refine OEnds.icmpT hm_2 rfl (q := 38) rfl ((tlt hc80).1) ?_
        refine OEnds.adv hm_2 1 (pc' := 40) (L' := [qr 0, qi v1, qi v2, qi v3, qi v4, qu, qu]) (S' := [.int (-3)]) (H' := (bk0 zh zi zp zt zm zo zf zc zs zq zr ze zg zd zl zj zk zu zb zn za po)) rfl ?_
        cases h
        exact OEnds.iret hm_2 rfl rfl
      · simp only [if_neg hc80] at h
        refine OEnds.icmpF hm_2 rfl ((flt hc80).1) ?_
        refine OEnds.adv hm_2 2 (pc' := 35) (L' := [qr 0, qi v1, qi v2, qi v3, qi v4, qu, qu]) (S' := [.int 10000, .int v3]) (H' := (bk0 zh zi zp zt zm zo zf zc zs zq zr ze zg zd zl zj zk zu zb zn za po)) rfl ?_
        by_cases hc81 : (10000 : Int32) < v3
        · simp only [if_pos hc81] at h
          refine OEnds.icmpF hm_2 rfl ((tlt hc81).2.2.2) ?_
          refine OEnds.adv hm_2 1 (pc' := 40) (L' := [qr 0, qi v1, qi v2, qi v3, qi v4, qu, qu]) (S' := [.int (-3)]) (H' := (bk0 zh zi zp zt zm zo zf zc zs zq zr ze zg zd zl zj zk zu zb zn za po)) rfl ?_
          cases h
          exact OEnds.iret hm_2 rfl rfl
        · simp only [if_neg hc81] at h
          refine OEnds.icmpT hm_2 rfl (q := 41) rfl ((flt hc81).2.2.2) ?_
          refine OEnds.adv hm_2 1 (pc' := 43) (L' := [qr 0, qi v1, qi v2, qi v3, qi v4, qu, qu]) (S' := [.int v4]) (H' := (bk0 zh zi zp zt zm zo zf zc zs zq zr ze zg zd zl zj zk zu zb zn za po)) rfl ?_
          by_cases hc82 : v4 = (0 : Int32)
          · simp only [if_pos hc82] at h
            refine OEnds.ifT hm_2 rfl (q := 55) rfl ((teq hc82).1) ?_
            show OEnds own_P 2 55 [qr 0, qi v1, qi v2, qi v3, qi v4, qu, qu] [] (bk0 zh zi zp zt zm zo zf zc zs zq zr ze zg zd zl zj zk zu zb zn za po) _
            exact ok_submit_55 h
          · simp only [if_neg hc82] at h
            refine OEnds.ifF hm_2 rfl ((feq hc82).1) ?_
            refine OEnds.adv hm_2 2 (pc' := 49) (L' := [qr 0, qi v1, qi v2, qi v3, qi v4, qu, qu]) (S' := [.int 1, .int v4]) (H' := (bk0 zh zi zp zt zm zo zf zc zs zq zr ze zg zd zl zj zk zu zb zn za po)) rfl ?_
            by_cases hc83 : v4 = (1 : Int32)
            · simp only [if_pos hc83] at h
              refine OEnds.icmpT hm_2 rfl (q := 55) rfl ((teq hc83).1) ?_
              show OEnds own_P 2 55 [qr 0, qi v1, qi v2, qi v3, qi v4, qu, qu] [] (bk0 zh zi zp zt zm zo zf zc zs zq zr ze zg zd zl zj zk zu zb zn za po) _
              exact ok_submit_55 h
            · simp only [if_neg hc83] at h
              refine OEnds.icmpF hm_2 rfl ((feq hc83).1) ?_
              refine OEnds.adv hm_2 1 (pc' := 54) (L' := [qr 0, qi v1, qi v2, qi v3, qi v4, qu, qu]) (S' := [.int (-4)]) (H' := (bk0 zh zi zp zt zm zo zf zc zs zq zr ze zg zd zl zj zk zu zb zn za po)) rfl ?_
              cases h
              exact OEnds.iret hm_2 rfl rfl
theorem ok_submit {zl zj : Int32} {po : List ACell} {zh zi zp zt zm : List Int32} {zo : List Int64} {zf zc zs zq zr ze zg zd : List Int32} {zk : Int32} {zu : Int64} {zb zn za v1 v2 v3 v4 res : Int32} {w_o_oSide w_o_oPrice w_o_oRem w_o_oFilled w_o_oStatus : List Int32} {w_o_oStamp : List Int64} {w_o_oTop w_o_restIds w_o_fIds w_o_fQty w_o_fPrice w_o_lvlIds w_o_lvlR w_o_lvlA : List Int32} {w_o_accepted : Int32} {w_o_stampCounter : Int64} {w_o_restN w_o_fN w_o_lvlN : Int32} (h : f_submit zl zj zh zi zp zt zm zo zf zc zs zq zr ze zg zd zk zu zb zn za v1 v2 v3 v4 = some (res, w_o_oSide, w_o_oPrice, w_o_oRem, w_o_oFilled, w_o_oStatus, w_o_oStamp, w_o_oTop, w_o_restIds, w_o_fIds, w_o_fQty, w_o_fPrice, w_o_lvlIds, w_o_lvlR, w_o_lvlA, w_o_accepted, w_o_stampCounter, w_o_restN, w_o_fN, w_o_lvlN)) : OEnds own_P 2 0 [qr 0, qi v1, qi v2, qi v3, qi v4, qu, qu] [] (bk0 zh zi zp zt zm zo zf zc zs zq zr ze zg zd zl zj zk zu zb zn za po) (some (.int res), (bk0 w_o_oSide w_o_oPrice w_o_oRem w_o_oFilled w_o_oStatus w_o_oStamp w_o_oTop w_o_restIds w_o_fIds w_o_fQty w_o_fPrice w_o_lvlIds w_o_lvlR w_o_lvlA zl zj w_o_accepted w_o_stampCounter w_o_restN w_o_fN w_o_lvlN po), 0, 0) := by
  unfold f_submit at h
  refine OEnds.adv hm_2 1 (pc' := 1) (L' := [qr 0, qi v1, qi v2, qi v3, qi v4, qu, qu]) (S' := [.int v1]) (H' := (bk0 zh zi zp zt zm zo zf zc zs zq zr ze zg zd zl zj zk zu zb zn za po)) rfl ?_
  by_cases hc84 : v1 = (0 : Int32)
  · simp only [if_pos hc84] at h
    refine OEnds.ifT hm_2 rfl (q := 11) rfl ((teq hc84).1) ?_
    show OEnds own_P 2 11 [qr 0, qi v1, qi v2, qi v3, qi v4, qu, qu] [] (bk0 zh zi zp zt zm zo zf zc zs zq zr ze zg zd zl zj zk zu zb zn za po) _
    exact ok_submit_11 h
  · simp only [if_neg hc84] at h
    refine OEnds.ifF hm_2 rfl ((feq hc84).1) ?_
    refine OEnds.adv hm_2 2 (pc' := 6) (L' := [qr 0, qi v1, qi v2, qi v3, qi v4, qu, qu]) (S' := [.int 1, .int v1]) (H' := (bk0 zh zi zp zt zm zo zf zc zs zq zr ze zg zd zl zj zk zu zb zn za po)) rfl ?_
    by_cases hc85 : v1 = (1 : Int32)
    · simp only [if_pos hc85] at h
      refine OEnds.icmpT hm_2 rfl (q := 11) rfl ((teq hc85).1) ?_
      show OEnds own_P 2 11 [qr 0, qi v1, qi v2, qi v3, qi v4, qu, qu] [] (bk0 zh zi zp zt zm zo zf zc zs zq zr ze zg zd zl zj zk zu zb zn za po) _
      exact ok_submit_11 h
    · simp only [if_neg hc85] at h
      refine OEnds.icmpF hm_2 rfl ((feq hc85).1) ?_
      refine OEnds.adv hm_2 1 (pc' := 10) (L' := [qr 0, qi v1, qi v2, qi v3, qi v4, qu, qu]) (S' := [.int (-1)]) (H' := (bk0 zh zi zp zt zm zo zf zc zs zq zr ze zg zd zl zj zk zu zb zn za po)) rfl ?_
      cases h
      exact OEnds.iret hm_2 rfl rfl
theorem ok_fillCount {zh zi zp zt zm : List Int32} {zo : List Int64} {zf zc zs zq zr ze zg zd : List Int32} {zl zj zk : Int32} {zu : Int64} {zb zn za : Int32} {po : List ACell} {res : Int32} (h : f_fillCount zn = some res) : OEnds own_P 16 0 [qr 0] [] (bk0 zh zi zp zt zm zo zf zc zs zq zr ze zg zd zl zj zk zu zb zn za po) (some (.int res), (bk0 zh zi zp zt zm zo zf zc zs zq zr ze zg zd zl zj zk zu zb zn za po), 0, 0) := by
  unfold f_fillCount at h
  refine OEnds.adv hm_16 2 (pc' := 4) (L' := [qr 0]) (S' := [.int zn]) (H' := (bk0 zh zi zp zt zm zo zf zc zs zq zr ze zg zd zl zj zk zu zb zn za po)) rfl ?_
  cases h
  exact OEnds.iret hm_16 rfl rfl
theorem ok_fillId {zh zi zp zt zm : List Int32} {zo : List Int64} {zf zc zs zq zr ze zg zd : List Int32} {zl zj zk : Int32} {zu : Int64} {zb zn za : Int32} {po : List ACell} {v1 res : Int32} (h : f_fillId zs zn v1 = some res) : OEnds own_P 17 0 [qr 0, qi v1] [] (bk0 zh zi zp zt zm zo zf zc zs zq zr ze zg zd zl zj zk zu zb zn za po) (some (.int res), (bk0 zh zi zp zt zm zo zf zc zs zq zr ze zg zd zl zj zk zu zb zn za po), 0, 0) := by
  unfold f_fillId at h
  refine OEnds.adv hm_17 1 (pc' := 1) (L' := [qr 0, qi v1]) (S' := [.int v1]) (H' := (bk0 zh zi zp zt zm zo zf zc zs zq zr ze zg zd zl zj zk zu zb zn za po)) rfl ?_
  by_cases hc86 : v1 < (0 : Int32)
  · simp only [if_pos hc86] at h
    refine OEnds.ifT hm_17 rfl (q := 12) rfl ((tlt hc86).1) ?_
    refine OEnds.adv hm_17 1 (pc' := 13) (L' := [qr 0, qi v1]) (S' := [.int 0]) (H' := (bk0 zh zi zp zt zm zo zf zc zs zq zr ze zg zd zl zj zk zu zb zn za po)) rfl ?_
    cases h
    exact OEnds.iret hm_17 rfl rfl
  · simp only [if_neg hc86] at h
    refine OEnds.ifF hm_17 rfl ((flt hc86).1) ?_
    refine OEnds.adv hm_17 3 (pc' := 9) (L' := [qr 0, qi v1]) (S' := [.int zn, .int v1]) (H' := (bk0 zh zi zp zt zm zo zf zc zs zq zr ze zg zd zl zj zk zu zb zn za po)) rfl ?_
    by_cases hc87 : v1 < zn
    · simp only [if_pos hc87] at h
      refine OEnds.icmpT hm_17 rfl (q := 14) rfl ((tlt hc87).1) ?_
      refine OEnds.adv hm_17 3 (pc' := 19) (L' := [qr 0, qi v1]) (S' := [.int v1, .ref 9]) (H' := (bk0 zh zi zp zt zm zo zf zc zs zq zr ze zg zd zl zj zk zu zb zn za po)) rfl ?_
      obtain ⟨x137, hx137, h⟩ := bnd h
      refine OEnds.plain hm_17 rfl rfl (x_iaload rfl hx137) ?_
      show OEnds own_P 17 20 [qr 0, qi v1] [.int x137] (bk0 zh zi zp zt zm zo zf zc zs zq zr ze zg zd zl zj zk zu zb zn za po) _
      cases h
      exact OEnds.iret hm_17 rfl rfl
    · simp only [if_neg hc87] at h
      refine OEnds.icmpF hm_17 rfl ((flt hc87).1) ?_
      refine OEnds.adv hm_17 1 (pc' := 13) (L' := [qr 0, qi v1]) (S' := [.int 0]) (H' := (bk0 zh zi zp zt zm zo zf zc zs zq zr ze zg zd zl zj zk zu zb zn za po)) rfl ?_
      cases h
      exact OEnds.iret hm_17 rfl rfl
theorem ok_fillQty {zh zi zp zt zm : List Int32} {zo : List Int64} {zf zc zs zq zr ze zg zd : List Int32} {zl zj zk : Int32} {zu : Int64} {zb zn za : Int32} {po : List ACell} {v1 res : Int32} (h : f_fillQty zq zn v1 = some res) : OEnds own_P 18 0 [qr 0, qi v1] [] (bk0 zh zi zp zt zm zo zf zc zs zq zr ze zg zd zl zj zk zu zb zn za po) (some (.int res), (bk0 zh zi zp zt zm zo zf zc zs zq zr ze zg zd zl zj zk zu zb zn za po), 0, 0) := by
  unfold f_fillQty at h
  refine OEnds.adv hm_18 1 (pc' := 1) (L' := [qr 0, qi v1]) (S' := [.int v1]) (H' := (bk0 zh zi zp zt zm zo zf zc zs zq zr ze zg zd zl zj zk zu zb zn za po)) rfl ?_
  by_cases hc88 : v1 < (0 : Int32)
  · simp only [if_pos hc88] at h
    refine OEnds.ifT hm_18 rfl (q := 12) rfl ((tlt hc88).1) ?_
    refine OEnds.adv hm_18 1 (pc' := 13) (L' := [qr 0, qi v1]) (S' := [.int 0]) (H' := (bk0 zh zi zp zt zm zo zf zc zs zq zr ze zg zd zl zj zk zu zb zn za po)) rfl ?_
    cases h
    exact OEnds.iret hm_18 rfl rfl
  · simp only [if_neg hc88] at h
    refine OEnds.ifF hm_18 rfl ((flt hc88).1) ?_
    refine OEnds.adv hm_18 3 (pc' := 9) (L' := [qr 0, qi v1]) (S' := [.int zn, .int v1]) (H' := (bk0 zh zi zp zt zm zo zf zc zs zq zr ze zg zd zl zj zk zu zb zn za po)) rfl ?_
    by_cases hc89 : v1 < zn
    · simp only [if_pos hc89] at h
      refine OEnds.icmpT hm_18 rfl (q := 14) rfl ((tlt hc89).1) ?_
      refine OEnds.adv hm_18 3 (pc' := 19) (L' := [qr 0, qi v1]) (S' := [.int v1, .ref 10]) (H' := (bk0 zh zi zp zt zm zo zf zc zs zq zr ze zg zd zl zj zk zu zb zn za po)) rfl ?_
      obtain ⟨x138, hx138, h⟩ := bnd h
      refine OEnds.plain hm_18 rfl rfl (x_iaload rfl hx138) ?_
      show OEnds own_P 18 20 [qr 0, qi v1] [.int x138] (bk0 zh zi zp zt zm zo zf zc zs zq zr ze zg zd zl zj zk zu zb zn za po) _
      cases h
      exact OEnds.iret hm_18 rfl rfl
    · simp only [if_neg hc89] at h
      refine OEnds.icmpF hm_18 rfl ((flt hc89).1) ?_
      refine OEnds.adv hm_18 1 (pc' := 13) (L' := [qr 0, qi v1]) (S' := [.int 0]) (H' := (bk0 zh zi zp zt zm zo zf zc zs zq zr ze zg zd zl zj zk zu zb zn za po)) rfl ?_
      cases h
      exact OEnds.iret hm_18 rfl rfl
theorem ok_fillPrice {zh zi zp zt zm : List Int32} {zo : List Int64} {zf zc zs zq zr ze zg zd : List Int32} {zl zj zk : Int32} {zu : Int64} {zb zn za : Int32} {po : List ACell} {v1 res : Int32} (h : f_fillPrice zr zn v1 = some res) : OEnds own_P 19 0 [qr 0, qi v1] [] (bk0 zh zi zp zt zm zo zf zc zs zq zr ze zg zd zl zj zk zu zb zn za po) (some (.int res), (bk0 zh zi zp zt zm zo zf zc zs zq zr ze zg zd zl zj zk zu zb zn za po), 0, 0) := by
  unfold f_fillPrice at h
  refine OEnds.adv hm_19 1 (pc' := 1) (L' := [qr 0, qi v1]) (S' := [.int v1]) (H' := (bk0 zh zi zp zt zm zo zf zc zs zq zr ze zg zd zl zj zk zu zb zn za po)) rfl ?_
  by_cases hc90 : v1 < (0 : Int32)
  · simp only [if_pos hc90] at h
    refine OEnds.ifT hm_19 rfl (q := 12) rfl ((tlt hc90).1) ?_
    refine OEnds.adv hm_19 1 (pc' := 13) (L' := [qr 0, qi v1]) (S' := [.int 0]) (H' := (bk0 zh zi zp zt zm zo zf zc zs zq zr ze zg zd zl zj zk zu zb zn za po)) rfl ?_
    cases h
    exact OEnds.iret hm_19 rfl rfl
  · simp only [if_neg hc90] at h
    refine OEnds.ifF hm_19 rfl ((flt hc90).1) ?_
    refine OEnds.adv hm_19 3 (pc' := 9) (L' := [qr 0, qi v1]) (S' := [.int zn, .int v1]) (H' := (bk0 zh zi zp zt zm zo zf zc zs zq zr ze zg zd zl zj zk zu zb zn za po)) rfl ?_
    by_cases hc91 : v1 < zn
    · simp only [if_pos hc91] at h
      refine OEnds.icmpT hm_19 rfl (q := 14) rfl ((tlt hc91).1) ?_
      refine OEnds.adv hm_19 3 (pc' := 19) (L' := [qr 0, qi v1]) (S' := [.int v1, .ref 11]) (H' := (bk0 zh zi zp zt zm zo zf zc zs zq zr ze zg zd zl zj zk zu zb zn za po)) rfl ?_
      obtain ⟨x139, hx139, h⟩ := bnd h
      refine OEnds.plain hm_19 rfl rfl (x_iaload rfl hx139) ?_
      show OEnds own_P 19 20 [qr 0, qi v1] [.int x139] (bk0 zh zi zp zt zm zo zf zc zs zq zr ze zg zd zl zj zk zu zb zn za po) _
      cases h
      exact OEnds.iret hm_19 rfl rfl
    · simp only [if_neg hc91] at h
      refine OEnds.icmpF hm_19 rfl ((flt hc91).1) ?_
      refine OEnds.adv hm_19 1 (pc' := 13) (L' := [qr 0, qi v1]) (S' := [.int 0]) (H' := (bk0 zh zi zp zt zm zo zf zc zs zq zr ze zg zd zl zj zk zu zb zn za po)) rfl ?_
      cases h
      exact OEnds.iret hm_19 rfl rfl
theorem ok_isResting {zh zi zp zt zm : List Int32} {zo : List Int64} {zf zc zs zq zr ze zg zd : List Int32} {zl zj zk : Int32} {zu : Int64} {zb zn za : Int32} {po : List ACell} {v1 res : Int32} (h : f_isResting zm zk v1 = some res) : OEnds own_P 21 0 [qr 0, qi v1] [] (bk0 zh zi zp zt zm zo zf zc zs zq zr ze zg zd zl zj zk zu zb zn za po) (some (.int res), (bk0 zh zi zp zt zm zo zf zc zs zq zr ze zg zd zl zj zk zu zb zn za po), 0, 0) := by
  unfold f_isResting at h
  refine OEnds.adv hm_21 2 (pc' := 2) (L' := [qr 0, qi v1]) (S' := [.int 1, .int v1]) (H' := (bk0 zh zi zp zt zm zo zf zc zs zq zr ze zg zd zl zj zk zu zb zn za po)) rfl ?_
  by_cases hc92 : v1 < (1 : Int32)
  · simp only [if_pos hc92] at h
    refine OEnds.icmpT hm_21 rfl (q := 27) rfl ((tlt hc92).1) ?_
    refine OEnds.adv hm_21 1 (pc' := 28) (L' := [qr 0, qi v1]) (S' := [.int 0]) (H' := (bk0 zh zi zp zt zm zo zf zc zs zq zr ze zg zd zl zj zk zu zb zn za po)) rfl ?_
    cases h
    exact OEnds.iret hm_21 rfl rfl
  · simp only [if_neg hc92] at h
    refine OEnds.icmpF hm_21 rfl ((flt hc92).1) ?_
    refine OEnds.adv hm_21 3 (pc' := 10) (L' := [qr 0, qi v1]) (S' := [.int zk, .int v1]) (H' := (bk0 zh zi zp zt zm zo zf zc zs zq zr ze zg zd zl zj zk zu zb zn za po)) rfl ?_
    by_cases hc93 : zk < v1
    · simp only [if_pos hc93] at h
      refine OEnds.icmpT hm_21 rfl (q := 27) rfl ((tlt hc93).2.2.1) ?_
      refine OEnds.adv hm_21 1 (pc' := 28) (L' := [qr 0, qi v1]) (S' := [.int 0]) (H' := (bk0 zh zi zp zt zm zo zf zc zs zq zr ze zg zd zl zj zk zu zb zn za po)) rfl ?_
      cases h
      exact OEnds.iret hm_21 rfl rfl
    · simp only [if_neg hc93] at h
      refine OEnds.icmpF hm_21 rfl ((flt hc93).2.2.1) ?_
      refine OEnds.adv hm_21 3 (pc' := 18) (L' := [qr 0, qi v1]) (S' := [.int v1, .ref 5]) (H' := (bk0 zh zi zp zt zm zo zf zc zs zq zr ze zg zd zl zj zk zu zb zn za po)) rfl ?_
      obtain ⟨x140, hx140, h⟩ := bnd h
      refine OEnds.plain hm_21 rfl rfl (x_iaload rfl hx140) ?_
      refine OEnds.adv hm_21 1 (pc' := 20) (L' := [qr 0, qi v1]) (S' := [.int 1, .int x140]) (H' := (bk0 zh zi zp zt zm zo zf zc zs zq zr ze zg zd zl zj zk zu zb zn za po)) rfl ?_
      by_cases hc94 : x140 = (1 : Int32)
      · simp only [if_pos hc94] at h
        refine OEnds.icmpF hm_21 rfl ((teq hc94).2) ?_
        refine OEnds.adv hm_21 2 (pc' := 28) (L' := [qr 0, qi v1]) (S' := [.int 1]) (H' := (bk0 zh zi zp zt zm zo zf zc zs zq zr ze zg zd zl zj zk zu zb zn za po)) rfl ?_
        cases h
        exact OEnds.iret hm_21 rfl rfl
      · simp only [if_neg hc94] at h
        refine OEnds.icmpT hm_21 rfl (q := 27) rfl ((feq hc94).2) ?_
        refine OEnds.adv hm_21 1 (pc' := 28) (L' := [qr 0, qi v1]) (S' := [.int 0]) (H' := (bk0 zh zi zp zt zm zo zf zc zs zq zr ze zg zd zl zj zk zu zb zn za po)) rfl ?_
        cases h
        exact OEnds.iret hm_21 rfl rfl
theorem ok_remaining {zh zi zp zt zm : List Int32} {zo : List Int64} {zf zc zs zq zr ze zg zd : List Int32} {zl zj zk : Int32} {zu : Int64} {zb zn za : Int32} {po : List ACell} {v1 res : Int32} (h : f_remaining zp zm zk v1 = some res) : OEnds own_P 20 0 [qr 0, qi v1] [] (bk0 zh zi zp zt zm zo zf zc zs zq zr ze zg zd zl zj zk zu zb zn za po) (some (.int res), (bk0 zh zi zp zt zm zo zf zc zs zq zr ze zg zd zl zj zk zu zb zn za po), 0, 0) := by
  unfold f_remaining at h
  refine OEnds.adv hm_20 2 (pc' := 2) (L' := [qr 0, qi v1]) (S' := [.int v1, .ref 0]) (H' := (bk0 zh zi zp zt zm zo zf zc zs zq zr ze zg zd zl zj zk zu zb zn za po)) rfl ?_
  obtain ⟨r141, hq95, h⟩ := bnd h
  refine OEnds.call0 hm_20 rfl rfl (by decide) rfl (as := [.ref 0, .int v1]) (rest := []) rfl rfl (ok_isResting hq95) ?_
  show OEnds own_P 20 5 [qr 0, qi v1] [.int r141] (bk0 zh zi zp zt zm zo zf zc zs zq zr ze zg zd zl zj zk zu zb zn za po) _
  by_cases hc96 : r141 = (0 : Int32)
  · simp only [if_pos hc96] at h
    refine OEnds.ifF hm_20 rfl ((teq hc96).2) ?_
    refine OEnds.adv hm_20 1 (pc' := 9) (L' := [qr 0, qi v1]) (S' := [.int 0]) (H' := (bk0 zh zi zp zt zm zo zf zc zs zq zr ze zg zd zl zj zk zu zb zn za po)) rfl ?_
    cases h
    exact OEnds.iret hm_20 rfl rfl
  · simp only [if_neg hc96] at h
    refine OEnds.ifT hm_20 rfl (q := 10) rfl ((feq hc96).2) ?_
    refine OEnds.adv hm_20 3 (pc' := 15) (L' := [qr 0, qi v1]) (S' := [.int v1, .ref 3]) (H' := (bk0 zh zi zp zt zm zo zf zc zs zq zr ze zg zd zl zj zk zu zb zn za po)) rfl ?_
    obtain ⟨x142, hx142, h⟩ := bnd h
    refine OEnds.plain hm_20 rfl rfl (x_iaload rfl hx142) ?_
    show OEnds own_P 20 16 [qr 0, qi v1] [.int x142] (bk0 zh zi zp zt zm zo zf zc zs zq zr ze zg zd zl zj zk zu zb zn za po) _
    cases h
    exact OEnds.iret hm_20 rfl rfl
theorem ok_status {zh zi zp zt zm : List Int32} {zo : List Int64} {zf zc zs zq zr ze zg zd : List Int32} {zl zj zk : Int32} {zu : Int64} {zb zn za : Int32} {po : List ACell} {v1 res : Int32} (h : f_status zm zk v1 = some res) : OEnds own_P 22 0 [qr 0, qi v1] [] (bk0 zh zi zp zt zm zo zf zc zs zq zr ze zg zd zl zj zk zu zb zn za po) (some (.int res), (bk0 zh zi zp zt zm zo zf zc zs zq zr ze zg zd zl zj zk zu zb zn za po), 0, 0) := by
  unfold f_status at h
  refine OEnds.adv hm_22 2 (pc' := 2) (L' := [qr 0, qi v1]) (S' := [.int 1, .int v1]) (H' := (bk0 zh zi zp zt zm zo zf zc zs zq zr ze zg zd zl zj zk zu zb zn za po)) rfl ?_
  by_cases hc97 : v1 < (1 : Int32)
  · simp only [if_pos hc97] at h
    refine OEnds.icmpT hm_22 rfl (q := 13) rfl ((tlt hc97).1) ?_
    refine OEnds.adv hm_22 1 (pc' := 14) (L' := [qr 0, qi v1]) (S' := [.int 0]) (H' := (bk0 zh zi zp zt zm zo zf zc zs zq zr ze zg zd zl zj zk zu zb zn za po)) rfl ?_
    cases h
    exact OEnds.iret hm_22 rfl rfl
  · simp only [if_neg hc97] at h
    refine OEnds.icmpF hm_22 rfl ((flt hc97).1) ?_
    refine OEnds.adv hm_22 3 (pc' := 10) (L' := [qr 0, qi v1]) (S' := [.int zk, .int v1]) (H' := (bk0 zh zi zp zt zm zo zf zc zs zq zr ze zg zd zl zj zk zu zb zn za po)) rfl ?_
    by_cases hc98 : zk < v1
    · simp only [if_pos hc98] at h
      refine OEnds.icmpF hm_22 rfl ((tlt hc98).2.2.2) ?_
      refine OEnds.adv hm_22 1 (pc' := 14) (L' := [qr 0, qi v1]) (S' := [.int 0]) (H' := (bk0 zh zi zp zt zm zo zf zc zs zq zr ze zg zd zl zj zk zu zb zn za po)) rfl ?_
      cases h
      exact OEnds.iret hm_22 rfl rfl
    · simp only [if_neg hc98] at h
      refine OEnds.icmpT hm_22 rfl (q := 15) rfl ((flt hc98).2.2.2) ?_
      refine OEnds.adv hm_22 3 (pc' := 20) (L' := [qr 0, qi v1]) (S' := [.int v1, .ref 5]) (H' := (bk0 zh zi zp zt zm zo zf zc zs zq zr ze zg zd zl zj zk zu zb zn za po)) rfl ?_
      obtain ⟨x143, hx143, h⟩ := bnd h
      refine OEnds.plain hm_22 rfl rfl (x_iaload rfl hx143) ?_
      show OEnds own_P 22 21 [qr 0, qi v1] [.int x143] (bk0 zh zi zp zt zm zo zf zc zs zq zr ze zg zd zl zj zk zu zb zn za po) _
      cases h
      exact OEnds.iret hm_22 rfl rfl
theorem ok_isTop {zh zi zp zt zm : List Int32} {zo : List Int64} {zf zc zs zq zr ze zg zd : List Int32} {zl zj zk : Int32} {zu : Int64} {zb zn za : Int32} {po : List ACell} {v1 res : Int32} (h : f_isTop zm zf zk v1 = some res) : OEnds own_P 23 0 [qr 0, qi v1] [] (bk0 zh zi zp zt zm zo zf zc zs zq zr ze zg zd zl zj zk zu zb zn za po) (some (.int res), (bk0 zh zi zp zt zm zo zf zc zs zq zr ze zg zd zl zj zk zu zb zn za po), 0, 0) := by
  unfold f_isTop at h
  refine OEnds.adv hm_23 2 (pc' := 2) (L' := [qr 0, qi v1]) (S' := [.int v1, .ref 0]) (H' := (bk0 zh zi zp zt zm zo zf zc zs zq zr ze zg zd zl zj zk zu zb zn za po)) rfl ?_
  obtain ⟨r144, hq99, h⟩ := bnd h
  refine OEnds.call0 hm_23 rfl rfl (by decide) rfl (as := [.ref 0, .int v1]) (rest := []) rfl rfl (ok_isResting hq99) ?_
  show OEnds own_P 23 5 [qr 0, qi v1] [.int r144] (bk0 zh zi zp zt zm zo zf zc zs zq zr ze zg zd zl zj zk zu zb zn za po) _
  by_cases hc100 : r144 = (0 : Int32)
  · simp only [if_pos hc100] at h
    refine OEnds.ifT hm_23 rfl (q := 21) rfl ((teq hc100).1) ?_
    refine OEnds.adv hm_23 1 (pc' := 22) (L' := [qr 0, qi v1]) (S' := [.int 0]) (H' := (bk0 zh zi zp zt zm zo zf zc zs zq zr ze zg zd zl zj zk zu zb zn za po)) rfl ?_
    cases h
    exact OEnds.iret hm_23 rfl rfl
  · simp only [if_neg hc100] at h
    refine OEnds.ifF hm_23 rfl ((feq hc100).1) ?_
    refine OEnds.adv hm_23 3 (pc' := 13) (L' := [qr 0, qi v1]) (S' := [.int v1, .ref 7]) (H' := (bk0 zh zi zp zt zm zo zf zc zs zq zr ze zg zd zl zj zk zu zb zn za po)) rfl ?_
    obtain ⟨x145, hx145, h⟩ := bnd h
    refine OEnds.plain hm_23 rfl rfl (x_baload rfl hx145) ?_
    show OEnds own_P 23 14 [qr 0, qi v1] [.int x145] (bk0 zh zi zp zt zm zo zf zc zs zq zr ze zg zd zl zj zk zu zb zn za po) _
    by_cases hc101 : x145 = (0 : Int32)
    · simp only [if_pos hc101] at h
      refine OEnds.ifT hm_23 rfl (q := 21) rfl ((teq hc101).1) ?_
      refine OEnds.adv hm_23 1 (pc' := 22) (L' := [qr 0, qi v1]) (S' := [.int 0]) (H' := (bk0 zh zi zp zt zm zo zf zc zs zq zr ze zg zd zl zj zk zu zb zn za po)) rfl ?_
      cases h
      exact OEnds.iret hm_23 rfl rfl
    · simp only [if_neg hc101] at h
      refine OEnds.ifF hm_23 rfl ((feq hc101).1) ?_
      refine OEnds.adv hm_23 2 (pc' := 22) (L' := [qr 0, qi v1]) (S' := [.int 1]) (H' := (bk0 zh zi zp zt zm zo zf zc zs zq zr ze zg zd zl zj zk zu zb zn za po)) rfl ?_
      cases h
      exact OEnds.iret hm_23 rfl rfl
theorem ok_filled {zh zi zp zt zm : List Int32} {zo : List Int64} {zf zc zs zq zr ze zg zd : List Int32} {zl zj zk : Int32} {zu : Int64} {zb zn za : Int32} {po : List ACell} {v1 res : Int32} (h : f_filled zt zk v1 = some res) : OEnds own_P 24 0 [qr 0, qi v1] [] (bk0 zh zi zp zt zm zo zf zc zs zq zr ze zg zd zl zj zk zu zb zn za po) (some (.int res), (bk0 zh zi zp zt zm zo zf zc zs zq zr ze zg zd zl zj zk zu zb zn za po), 0, 0) := by
  unfold f_filled at h
  refine OEnds.adv hm_24 2 (pc' := 2) (L' := [qr 0, qi v1]) (S' := [.int 1, .int v1]) (H' := (bk0 zh zi zp zt zm zo zf zc zs zq zr ze zg zd zl zj zk zu zb zn za po)) rfl ?_
  by_cases hc102 : v1 < (1 : Int32)
  · simp only [if_pos hc102] at h
    refine OEnds.icmpT hm_24 rfl (q := 13) rfl ((tlt hc102).1) ?_
    refine OEnds.adv hm_24 1 (pc' := 14) (L' := [qr 0, qi v1]) (S' := [.int 0]) (H' := (bk0 zh zi zp zt zm zo zf zc zs zq zr ze zg zd zl zj zk zu zb zn za po)) rfl ?_
    cases h
    exact OEnds.iret hm_24 rfl rfl
  · simp only [if_neg hc102] at h
    refine OEnds.icmpF hm_24 rfl ((flt hc102).1) ?_
    refine OEnds.adv hm_24 3 (pc' := 10) (L' := [qr 0, qi v1]) (S' := [.int zk, .int v1]) (H' := (bk0 zh zi zp zt zm zo zf zc zs zq zr ze zg zd zl zj zk zu zb zn za po)) rfl ?_
    by_cases hc103 : zk < v1
    · simp only [if_pos hc103] at h
      refine OEnds.icmpF hm_24 rfl ((tlt hc103).2.2.2) ?_
      refine OEnds.adv hm_24 1 (pc' := 14) (L' := [qr 0, qi v1]) (S' := [.int 0]) (H' := (bk0 zh zi zp zt zm zo zf zc zs zq zr ze zg zd zl zj zk zu zb zn za po)) rfl ?_
      cases h
      exact OEnds.iret hm_24 rfl rfl
    · simp only [if_neg hc103] at h
      refine OEnds.icmpT hm_24 rfl (q := 15) rfl ((flt hc103).2.2.2) ?_
      refine OEnds.adv hm_24 3 (pc' := 20) (L' := [qr 0, qi v1]) (S' := [.int v1, .ref 4]) (H' := (bk0 zh zi zp zt zm zo zf zc zs zq zr ze zg zd zl zj zk zu zb zn za po)) rfl ?_
      obtain ⟨x146, hx146, h⟩ := bnd h
      refine OEnds.plain hm_24 rfl rfl (x_iaload rfl hx146) ?_
      show OEnds own_P 24 21 [qr 0, qi v1] [.int x146] (bk0 zh zi zp zt zm zo zf zc zs zq zr ze zg zd zl zj zk zu zb zn za po) _
      cases h
      exact OEnds.iret hm_24 rfl rfl
theorem ok_depthAt_30 {zh zi zp zt zm : List Int32} {zo : List Int64} {zf zc zs zq zr ze zg zd : List Int32} {zl zj zk : Int32} {zu : Int64} {zb zn za : Int32} {po : List ACell} : ∀ (n : Nat), ∀ {v1 v2 v3 v4 : Int32} {d5 : Slot} {res : Int32}, f_depthAt_30 zh zi zp zc zb n v1 v2 v3 v4 = some res → OEnds own_P 25 30 [qr 0, qi v1, qi v2, qi v3, qi v4, d5] [] (bk0 zh zi zp zt zm zo zf zc zs zq zr ze zg zd zl zj zk zu zb zn za po) (some (.int res), (bk0 zh zi zp zt zm zo zf zc zs zq zr ze zg zd zl zj zk zu zb zn za po), 0, 0) := by
  intro n
  induction n with
  | zero => intro v1 v2 v3 v4 d5 res h; cases h
  | succ n ih =>
    intro v1 v2 v3 v4 d5 res h
    unfold f_depthAt_30 at h
    refine OEnds.adv hm_25 3 (pc' := 36) (L' := [qr 0, qi v1, qi v2, qi v3, qi v4, qu]) (S' := [.int zb, .int v4]) (H' := (bk0 zh zi zp zt zm zo zf zc zs zq zr ze zg zd zl zj zk zu zb zn za po)) rfl ?_
    by_cases hc104 : v4 < zb
    · simp only [if_pos hc104] at h
      refine OEnds.icmpF hm_25 rfl ((tlt hc104).2.1) ?_
      refine OEnds.adv hm_25 3 (pc' := 45) (L' := [qr 0, qi v1, qi v2, qi v3, qi v4, qu]) (S' := [.int v4, .ref 8]) (H' := (bk0 zh zi zp zt zm zo zf zc zs zq zr ze zg zd zl zj zk zu zb zn za po)) rfl ?_
      obtain ⟨x147, hx147, h⟩ := bnd h
      refine OEnds.plain hm_25 rfl rfl (x_iaload rfl hx147) ?_
      refine OEnds.adv hm_25 4 (pc' := 54) (L' := [qr 0, qi v1, qi v2, qi v3, qi v4, qi x147]) (S' := [.int x147, .ref 1]) (H' := (bk0 zh zi zp zt zm zo zf zc zs zq zr ze zg zd zl zj zk zu zb zn za po)) rfl ?_
      obtain ⟨x148, hx148, h⟩ := bnd h
      refine OEnds.plain hm_25 rfl rfl (x_iaload rfl hx148) ?_
      refine OEnds.adv hm_25 1 (pc' := 56) (L' := [qr 0, qi v1, qi v2, qi v3, qi v4, qi x147]) (S' := [.int v1, .int x148]) (H' := (bk0 zh zi zp zt zm zo zf zc zs zq zr ze zg zd zl zj zk zu zb zn za po)) rfl ?_
      by_cases hc105 : x148 = v1
      · simp only [if_pos hc105] at h
        refine OEnds.icmpF hm_25 rfl ((teq hc105).2) ?_
        refine OEnds.adv hm_25 3 (pc' := 65) (L' := [qr 0, qi v1, qi v2, qi v3, qi v4, qi x147]) (S' := [.int x147, .ref 2]) (H' := (bk0 zh zi zp zt zm zo zf zc zs zq zr ze zg zd zl zj zk zu zb zn za po)) rfl ?_
        obtain ⟨x149, hx149, h⟩ := bnd h
        refine OEnds.plain hm_25 rfl rfl (x_iaload rfl hx149) ?_
        refine OEnds.adv hm_25 1 (pc' := 67) (L' := [qr 0, qi v1, qi v2, qi v3, qi v4, qi x147]) (S' := [.int v2, .int x149]) (H' := (bk0 zh zi zp zt zm zo zf zc zs zq zr ze zg zd zl zj zk zu zb zn za po)) rfl ?_
        by_cases hc106 : x149 = v2
        · simp only [if_pos hc106] at h
          refine OEnds.icmpF hm_25 rfl ((teq hc106).2) ?_
          refine OEnds.adv hm_25 4 (pc' := 77) (L' := [qr 0, qi v1, qi v2, qi v3, qi v4, qi x147]) (S' := [.int x147, .ref 3, .int v3]) (H' := (bk0 zh zi zp zt zm zo zf zc zs zq zr ze zg zd zl zj zk zu zb zn za po)) rfl ?_
          obtain ⟨x150, hx150, h⟩ := bnd h
          refine OEnds.plain hm_25 rfl rfl (x_iaload rfl hx150) ?_
          refine OEnds.adv hm_25 4 (pc' := 30) (L' := [qr 0, qi v1, qi v2, qi (v3 + x150), qi (v4 + (1 : Int32)), qi x147]) (S' := []) (H' := (bk0 zh zi zp zt zm zo zf zc zs zq zr ze zg zd zl zj zk zu zb zn za po)) rfl ?_
          exact ih h
        · simp only [if_neg hc106] at h
          refine OEnds.icmpT hm_25 rfl (q := 80) rfl ((feq hc106).2) ?_
          refine OEnds.adv hm_25 2 (pc' := 30) (L' := [qr 0, qi v1, qi v2, qi v3, qi (v4 + (1 : Int32)), qi x147]) (S' := []) (H' := (bk0 zh zi zp zt zm zo zf zc zs zq zr ze zg zd zl zj zk zu zb zn za po)) rfl ?_
          exact ih h
      · simp only [if_neg hc105] at h
        refine OEnds.icmpT hm_25 rfl (q := 80) rfl ((feq hc105).2) ?_
        refine OEnds.adv hm_25 2 (pc' := 30) (L' := [qr 0, qi v1, qi v2, qi v3, qi (v4 + (1 : Int32)), qi x147]) (S' := []) (H' := (bk0 zh zi zp zt zm zo zf zc zs zq zr ze zg zd zl zj zk zu zb zn za po)) rfl ?_
        exact ih h
    · simp only [if_neg hc104] at h
      refine OEnds.icmpT hm_25 rfl (q := 86) rfl ((flt hc104).2.1) ?_
      refine OEnds.adv hm_25 1 (pc' := 87) (L' := [qr 0, qi v1, qi v2, qi v3, qi v4, qu]) (S' := [.int v3]) (H' := (bk0 zh zi zp zt zm zo zf zc zs zq zr ze zg zd zl zj zk zu zb zn za po)) rfl ?_
      cases h
      exact OEnds.iret hm_25 rfl rfl
theorem ok_depthAt_11 {zh zi zp zt zm : List Int32} {zo : List Int64} {zf zc zs zq zr ze zg zd : List Int32} {zl zj zk : Int32} {zu : Int64} {zb zn za : Int32} {po : List ACell} : ∀ {v1 v2 : Int32} {d3 d4 d5 : Slot} {res : Int32}, f_depthAt_11 zh zi zp zc zb v1 v2 = some res → OEnds own_P 25 11 [qr 0, qi v1, qi v2, d3, d4, d5] [] (bk0 zh zi zp zt zm zo zf zc zs zq zr ze zg zd zl zj zk zu zb zn za po) (some (.int res), (bk0 zh zi zp zt zm zo zf zc zs zq zr ze zg zd zl zj zk zu zb zn za po), 0, 0) := by
  intro v1 v2 d3 d4 d5 res h
  unfold f_depthAt_11 at h
  refine OEnds.adv hm_25 2 (pc' := 13) (L' := [qr 0, qi v1, qi v2, qu, qu, qu]) (S' := [.int 1, .int v2]) (H' := (bk0 zh zi zp zt zm zo zf zc zs zq zr ze zg zd zl zj zk zu zb zn za po)) rfl ?_
  by_cases hc107 : v2 < (1 : Int32)
  · simp only [if_pos hc107] at h
    refine OEnds.icmpT hm_25 rfl (q := 23) rfl ((tlt hc107).1) ?_
    refine OEnds.adv hm_25 1 (pc' := 24) (L' := [qr 0, qi v1, qi v2, qu, qu, qu]) (S' := [.int 0]) (H' := (bk0 zh zi zp zt zm zo zf zc zs zq zr ze zg zd zl zj zk zu zb zn za po)) rfl ?_
    cases h
    exact OEnds.iret hm_25 rfl rfl
  · simp only [if_neg hc107] at h
    refine OEnds.icmpF hm_25 rfl ((flt hc107).1) ?_
    refine OEnds.adv hm_25 2 (pc' := 20) (L' := [qr 0, qi v1, qi v2, qu, qu, qu]) (S' := [.int 1000, .int v2]) (H' := (bk0 zh zi zp zt zm zo zf zc zs zq zr ze zg zd zl zj zk zu zb zn za po)) rfl ?_
    by_cases hc108 : (1000 : Int32) < v2
    · simp only [if_pos hc108] at h
      refine OEnds.icmpF hm_25 rfl ((tlt hc108).2.2.2) ?_
      refine OEnds.adv hm_25 1 (pc' := 24) (L' := [qr 0, qi v1, qi v2, qu, qu, qu]) (S' := [.int 0]) (H' := (bk0 zh zi zp zt zm zo zf zc zs zq zr ze zg zd zl zj zk zu zb zn za po)) rfl ?_
      cases h
      exact OEnds.iret hm_25 rfl rfl
    · simp only [if_neg hc108] at h
      refine OEnds.icmpT hm_25 rfl (q := 25) rfl ((flt hc108).2.2.2) ?_
      refine OEnds.adv hm_25 4 (pc' := 30) (L' := [qr 0, qi v1, qi v2, qi 0, qi 0, qu]) (S' := []) (H' := (bk0 zh zi zp zt zm zo zf zc zs zq zr ze zg zd zl zj zk zu zb zn za po)) rfl ?_
      exact ok_depthAt_30 100000 h
theorem ok_depthAt {zh zi zp zt zm : List Int32} {zo : List Int64} {zf zc zs zq zr ze zg zd : List Int32} {zl zj zk : Int32} {zu : Int64} {zb zn za : Int32} {po : List ACell} {v1 v2 res : Int32} (h : f_depthAt zh zi zp zc zb v1 v2 = some res) : OEnds own_P 25 0 [qr 0, qi v1, qi v2, qu, qu, qu] [] (bk0 zh zi zp zt zm zo zf zc zs zq zr ze zg zd zl zj zk zu zb zn za po) (some (.int res), (bk0 zh zi zp zt zm zo zf zc zs zq zr ze zg zd zl zj zk zu zb zn za po), 0, 0) := by
  unfold f_depthAt at h
  refine OEnds.adv hm_25 1 (pc' := 1) (L' := [qr 0, qi v1, qi v2, qu, qu, qu]) (S' := [.int v1]) (H' := (bk0 zh zi zp zt zm zo zf zc zs zq zr ze zg zd zl zj zk zu zb zn za po)) rfl ?_
  by_cases hc109 : v1 = (0 : Int32)
  · simp only [if_pos hc109] at h
    refine OEnds.ifT hm_25 rfl (q := 11) rfl ((teq hc109).1) ?_
    show OEnds own_P 25 11 [qr 0, qi v1, qi v2, qu, qu, qu] [] (bk0 zh zi zp zt zm zo zf zc zs zq zr ze zg zd zl zj zk zu zb zn za po) _
    exact ok_depthAt_11 h
  · simp only [if_neg hc109] at h
    refine OEnds.ifF hm_25 rfl ((feq hc109).1) ?_
    refine OEnds.adv hm_25 2 (pc' := 6) (L' := [qr 0, qi v1, qi v2, qu, qu, qu]) (S' := [.int 1, .int v1]) (H' := (bk0 zh zi zp zt zm zo zf zc zs zq zr ze zg zd zl zj zk zu zb zn za po)) rfl ?_
    by_cases hc110 : v1 = (1 : Int32)
    · simp only [if_pos hc110] at h
      refine OEnds.icmpT hm_25 rfl (q := 11) rfl ((teq hc110).1) ?_
      show OEnds own_P 25 11 [qr 0, qi v1, qi v2, qu, qu, qu] [] (bk0 zh zi zp zt zm zo zf zc zs zq zr ze zg zd zl zj zk zu zb zn za po) _
      exact ok_depthAt_11 h
    · simp only [if_neg hc110] at h
      refine OEnds.icmpF hm_25 rfl ((feq hc110).1) ?_
      refine OEnds.adv hm_25 1 (pc' := 10) (L' := [qr 0, qi v1, qi v2, qu, qu, qu]) (S' := [.int 0]) (H' := (bk0 zh zi zp zt zm zo zf zc zs zq zr ze zg zd zl zj zk zu zb zn za po)) rfl ?_
      cases h
      exact OEnds.iret hm_25 rfl rfl
theorem ok_bestPrice_11 {zh zi zp zt zm : List Int32} {zo : List Int64} {zf zc zs zq zr ze zg zd : List Int32} {zl zj zk : Int32} {zu : Int64} {zb zn za : Int32} {po : List ACell} : ∀ {v1 : Int32} {res : Int32}, f_bestPrice_11 zh zi zc zb v1 = some res → OEnds own_P 26 11 [qr 0, qi v1] [] (bk0 zh zi zp zt zm zo zf zc zs zq zr ze zg zd zl zj zk zu zb zn za po) (some (.int res), (bk0 zh zi zp zt zm zo zf zc zs zq zr ze zg zd zl zj zk zu zb zn za po), 0, 0) := by
  intro v1 res h
  unfold f_bestPrice_11 at h
  refine OEnds.adv hm_26 2 (pc' := 13) (L' := [qr 0, qi v1]) (S' := [.int v1, .ref 0]) (H' := (bk0 zh zi zp zt zm zo zf zc zs zq zr ze zg zd zl zj zk zu zb zn za po)) rfl ?_
  obtain ⟨r151, hq111, h⟩ := bnd h
  refine OEnds.call0 hm_26 rfl rfl (by decide) rfl (as := [.ref 0, .int v1]) (rest := []) rfl rfl (ok_bestOf hq111) ?_
  show OEnds own_P 26 16 [qr 0, qi v1] [.int r151] (bk0 zh zi zp zt zm zo zf zc zs zq zr ze zg zd zl zj zk zu zb zn za po) _
  cases h
  exact OEnds.iret hm_26 rfl rfl
theorem ok_bestPrice {zh zi zp zt zm : List Int32} {zo : List Int64} {zf zc zs zq zr ze zg zd : List Int32} {zl zj zk : Int32} {zu : Int64} {zb zn za : Int32} {po : List ACell} {v1 res : Int32} (h : f_bestPrice zh zi zc zb v1 = some res) : OEnds own_P 26 0 [qr 0, qi v1] [] (bk0 zh zi zp zt zm zo zf zc zs zq zr ze zg zd zl zj zk zu zb zn za po) (some (.int res), (bk0 zh zi zp zt zm zo zf zc zs zq zr ze zg zd zl zj zk zu zb zn za po), 0, 0) := by
  unfold f_bestPrice at h
  refine OEnds.adv hm_26 1 (pc' := 1) (L' := [qr 0, qi v1]) (S' := [.int v1]) (H' := (bk0 zh zi zp zt zm zo zf zc zs zq zr ze zg zd zl zj zk zu zb zn za po)) rfl ?_
  by_cases hc112 : v1 = (0 : Int32)
  · simp only [if_pos hc112] at h
    refine OEnds.ifT hm_26 rfl (q := 11) rfl ((teq hc112).1) ?_
    show OEnds own_P 26 11 [qr 0, qi v1] [] (bk0 zh zi zp zt zm zo zf zc zs zq zr ze zg zd zl zj zk zu zb zn za po) _
    exact ok_bestPrice_11 h
  · simp only [if_neg hc112] at h
    refine OEnds.ifF hm_26 rfl ((feq hc112).1) ?_
    refine OEnds.adv hm_26 2 (pc' := 6) (L' := [qr 0, qi v1]) (S' := [.int 1, .int v1]) (H' := (bk0 zh zi zp zt zm zo zf zc zs zq zr ze zg zd zl zj zk zu zb zn za po)) rfl ?_
    by_cases hc113 : v1 = (1 : Int32)
    · simp only [if_pos hc113] at h
      refine OEnds.icmpT hm_26 rfl (q := 11) rfl ((teq hc113).1) ?_
      show OEnds own_P 26 11 [qr 0, qi v1] [] (bk0 zh zi zp zt zm zo zf zc zs zq zr ze zg zd zl zj zk zu zb zn za po) _
      exact ok_bestPrice_11 h
    · simp only [if_neg hc113] at h
      refine OEnds.icmpF hm_26 rfl ((feq hc113).1) ?_
      refine OEnds.adv hm_26 1 (pc' := 10) (L' := [qr 0, qi v1]) (S' := [.int 0]) (H' := (bk0 zh zi zp zt zm zo zf zc zs zq zr ze zg zd zl zj zk zu zb zn za po)) rfl ?_
      cases h
      exact OEnds.iret hm_26 rfl rfl
theorem ok_L_law_720 : ∀ {t0 t1 zai zaj zv : Int32} {zak : Int64} {zab zae zal : Int32} {zy zz zx zac zw : List Int32} {zam : List Int64} {zad zaa zaf zag zah zan zao zap : List Int32} {d0 d1 d2 d3 d4 d5 d6 d7 d8 d9 d10 d11 d12 d13 d14 d15 d16 d17 d18 d19 d20 d21 d22 : Slot} {res : Int32}, f_L_law_720 t0 t1 = some res → OEndsQ own_P 0 720 [d0, d1, d2, d3, d4, d5, d6, d7, d8, d9, d10, d11, d12, d13, d14, d15, d16, d17, d18, d19, d20, d21, d22] [.int t0, .int t1] (bk0 zy zz zx zac zw zam zad zaa zaf zag zah zan zao zap zai zaj zv zak zab zae zal []) (LawQ res 0 0) := by
  intro t0 t1 zai zaj zv zak zab zae zal zy zz zx zac zw zam zad zaa zaf zag zah zan zao zap d0 d1 d2 d3 d4 d5 d6 d7 d8 d9 d10 d11 d12 d13 d14 d15 d16 d17 d18 d19 d20 d21 d22 res h
  unfold f_L_law_720 at h
  by_cases hc114 : t1 = t0
  · simp only [if_pos hc114] at h
    refine OEndsQ.icmpF hm_0 rfl ((teq hc114).2) ?_
    refine OEndsQ.adv hm_0 2 (pc' := 728) (L' := [qu, qu, qu, qu, qu, qu, qu, qu, qu, qu, qu, qu, qu, qu, qu, qu, qu, qu, qu, qu, qu, qu, qu]) (S' := [.int 1]) (H' := (bk0 zy zz zx zac zw zam zad zaa zaf zag zah zan zao zap zai zaj zv zak zab zae zal [])) rfl ?_
    cases h
    exact OEndsQ.iret hm_0 rfl rfl
  · simp only [if_neg hc114] at h
    refine OEndsQ.icmpT hm_0 rfl (q := 727) rfl ((feq hc114).2) ?_
    refine OEndsQ.adv hm_0 1 (pc' := 728) (L' := [qu, qu, qu, qu, qu, qu, qu, qu, qu, qu, qu, qu, qu, qu, qu, qu, qu, qu, qu, qu, qu, qu, qu]) (S' := [.int 0]) (H' := (bk0 zy zz zx zac zw zam zad zaa zaf zag zah zan zao zap zai zaj zv zak zab zae zal [])) rfl ?_
    cases h
    exact OEndsQ.iret hm_0 rfl rfl
theorem ok_L_law_668 : ∀ {zy zz zx zw zaa : List Int32} {zv zab v5 v6 v10 v14 t0 t1 zai zaj : Int32} {zak : Int64} {zae zal : Int32} {zac : List Int32} {zam : List Int64} {zad zaf zag zah zan zao zap : List Int32} {d0 d1 d2 d3 d4 d7 d8 d9 d11 d12 d13 d15 d16 d17 d18 d20 d21 d22 : Slot} {res : Int32}, f_L_law_668 zy zz zx zw zaa zv zab v5 v6 v10 v14 t0 t1 = some res → OEndsQ own_P 0 668 [d0, d1, d2, d3, d4, qi v5, qi v6, d7, d8, d9, qi v10, d11, d12, d13, qi v14, d15, d16, d17, d18, qr 0, d20, d21, d22] [.int t0, .int t1] (bk0 zy zz zx zac zw zam zad zaa zaf zag zah zan zao zap zai zaj zv zak zab zae zal []) (LawQ res 0 0) := by
  intro zy zz zx zw zaa zv zab v5 v6 v10 v14 t0 t1 zai zaj zak zae zal zac zam zad zaf zag zah zan zao zap d0 d1 d2 d3 d4 d7 d8 d9 d11 d12 d13 d15 d16 d17 d18 d20 d21 d22 res h
  unfold f_L_law_668 at h
  by_cases hc115 : t1 = t0
  · simp only [if_pos hc115] at h
    refine OEndsQ.icmpF hm_0 rfl ((teq hc115).2) ?_
    refine OEndsQ.adv hm_0 2 (pc' := 674) (L' := [qu, qu, qu, qu, qu, qi v5, qi v6, qu, qu, qu, qi v10, qu, qu, qu, qi v14, qu, qu, qu, qu, qr 0, qu, qu, qu]) (S' := [.int 3, .ref 0]) (H' := (bk0 zy zz zx zac zw zam zad zaa zaf zag zah zan zao zap zai zaj zv zak zab zae zal [])) rfl ?_
    obtain ⟨r249, hq116, h⟩ := bnd h
    refine OEndsQ.call0 hm_0 rfl rfl (by decide) rfl (as := [.ref 0, .int 3]) (rest := []) rfl rfl (ok_remaining hq116) ?_
    refine OEndsQ.adv hm_0 1 (pc' := 679) (L' := [qu, qu, qu, qu, qu, qi v5, qi v6, qu, qu, qu, qi v10, qu, qu, qu, qi v14, qu, qu, qu, qu, qr 0, qu, qu, qu]) (S' := [.int v14, .int r249]) (H' := (bk0 zy zz zx zac zw zam zad zaa zaf zag zah zan zao zap zai zaj zv zak zab zae zal [])) rfl ?_
    by_cases hc117 : r249 = v14
    · simp only [if_pos hc117] at h
      refine OEndsQ.icmpT hm_0 rfl (q := 684) rfl ((teq hc117).1) ?_
      refine OEndsQ.adv hm_0 3 (pc' := 689) (L' := [qu, qu, qu, qu, qu, qi v5, qi v6, qu, qu, qu, qi v10, qu, qu, qu, qi v14, qu, qu, qu, qu, qr 0, qu, qu, qu]) (S' := [.int 100, .int 1, .ref 0]) (H' := (bk0 zy zz zx zac zw zam zad zaa zaf zag zah zan zao zap zai zaj zv zak zab zae zal [])) rfl ?_
      obtain ⟨r250, hq118, h⟩ := bnd h
      refine OEndsQ.call0 hm_0 rfl rfl (by decide) rfl (as := [.ref 0, .int 1, .int 100]) (rest := []) rfl rfl (ok_depthAt hq118) ?_
      refine OEndsQ.adv hm_0 5 (pc' := 700) (L' := [qu, qu, qu, qu, qu, qi v5, qi v6, qu, qu, qu, qi v10, qu, qu, qu, qi v14, qu, qu, qu, qu, qr 0, qu, qu, qu]) (S' := [.int ((v5 + v6) - v10), .int r250]) (H' := (bk0 zy zz zx zac zw zam zad zaa zaf zag zah zan zao zap zai zaj zv zak zab zae zal [])) rfl ?_
      by_cases hc119 : r250 = ((v5 + v6) - v10)
      · simp only [if_pos hc119] at h
        refine OEndsQ.icmpF hm_0 rfl ((teq hc119).2) ?_
        refine OEndsQ.adv hm_0 2 (pc' := 706) (L' := [qu, qu, qu, qu, qu, qi v5, qi v6, qu, qu, qu, qi v10, qu, qu, qu, qi v14, qu, qu, qu, qu, qr 0, qu, qu, qu]) (S' := [.int 0, .ref 0]) (H' := (bk0 zy zz zx zac zw zam zad zaa zaf zag zah zan zao zap zai zaj zv zak zab zae zal [])) rfl ?_
        obtain ⟨r251, hq120, h⟩ := bnd h
        refine OEndsQ.call0 hm_0 rfl rfl (by decide) rfl (as := [.ref 0, .int 0]) (rest := []) rfl rfl (ok_bestPrice hq120) ?_
        refine OEndsQ.adv hm_0 1 (pc' := 711) (L' := [qu, qu, qu, qu, qu, qi v5, qi v6, qu, qu, qu, qi v10, qu, qu, qu, qi v14, qu, qu, qu, qu, qr 0, qu, qu, qu]) (S' := [.int v14, .int r251]) (H' := (bk0 zy zz zx zac zw zam zad zaa zaf zag zah zan zao zap zai zaj zv zak zab zae zal [])) rfl ?_
        by_cases hc121 : v14 = (0 : Int32)
        · simp only [if_pos hc121] at h
          refine OEndsQ.ifF hm_0 rfl ((teq hc121).2) ?_
          refine OEndsQ.adv hm_0 2 (pc' := 720) (L' := [qu, qu, qu, qu, qu, qi v5, qi v6, qu, qu, qu, qi v10, qu, qu, qu, qi v14, qu, qu, qu, qu, qr 0, qu, qu, qu]) (S' := [.int 0, .int r251]) (H' := (bk0 zy zz zx zac zw zam zad zaa zaf zag zah zan zao zap zai zaj zv zak zab zae zal [])) rfl ?_
          exact ok_L_law_720 h
        · simp only [if_neg hc121] at h
          refine OEndsQ.ifT hm_0 rfl (q := 718) rfl ((feq hc121).2) ?_
          refine OEndsQ.adv hm_0 1 (pc' := 720) (L' := [qu, qu, qu, qu, qu, qi v5, qi v6, qu, qu, qu, qi v10, qu, qu, qu, qi v14, qu, qu, qu, qu, qr 0, qu, qu, qu]) (S' := [.int 100, .int r251]) (H' := (bk0 zy zz zx zac zw zam zad zaa zaf zag zah zan zao zap zai zaj zv zak zab zae zal [])) rfl ?_
          exact ok_L_law_720 h
      · simp only [if_neg hc119] at h
        refine OEndsQ.icmpT hm_0 rfl (q := 727) rfl ((feq hc119).2) ?_
        refine OEndsQ.adv hm_0 1 (pc' := 728) (L' := [qu, qu, qu, qu, qu, qi v5, qi v6, qu, qu, qu, qi v10, qu, qu, qu, qi v14, qu, qu, qu, qu, qr 0, qu, qu, qu]) (S' := [.int 0]) (H' := (bk0 zy zz zx zac zw zam zad zaa zaf zag zah zan zao zap zai zaj zv zak zab zae zal [])) rfl ?_
        cases h
        exact OEndsQ.iret hm_0 rfl rfl
    · simp only [if_neg hc117] at h
      refine OEndsQ.icmpF hm_0 rfl ((feq hc117).1) ?_
      refine OEndsQ.adv hm_0 1 (pc' := 683) (L' := [qu, qu, qu, qu, qu, qi v5, qi v6, qu, qu, qu, qi v10, qu, qu, qu, qi v14, qu, qu, qu, qu, qr 0, qu, qu, qu]) (S' := [.int 0]) (H' := (bk0 zy zz zx zac zw zam zad zaa zaf zag zah zan zao zap zai zaj zv zak zab zae zal [])) rfl ?_
      cases h
      exact OEndsQ.iret hm_0 rfl rfl
  · simp only [if_neg hc115] at h
    refine OEndsQ.icmpT hm_0 rfl (q := 682) rfl ((feq hc115).2) ?_
    refine OEndsQ.adv hm_0 1 (pc' := 683) (L' := [qu, qu, qu, qu, qu, qi v5, qi v6, qu, qu, qu, qi v10, qu, qu, qu, qi v14, qu, qu, qu, qu, qr 0, qu, qu, qu]) (S' := [.int 0]) (H' := (bk0 zy zz zx zac zw zam zad zaa zaf zag zah zan zao zap zai zaj zv zak zab zae zal [])) rfl ?_
    cases h
    exact OEndsQ.iret hm_0 rfl rfl
theorem ok_L_law_612 : ∀ {zy zz zx zac zw zaa : List Int32} {zv zab v5 v6 v10 v11 v13 v14 t0 t1 zai zaj : Int32} {zak : Int64} {zae zal : Int32} {zam : List Int64} {zad zaf zag zah zan zao zap : List Int32} {d0 d1 d2 d3 d4 d7 d8 d9 d12 d15 d16 d17 d18 d20 d21 d22 : Slot} {res : Int32}, f_L_law_612 zy zz zx zac zw zaa zv zab v5 v6 v10 v11 v13 v14 t0 t1 = some res → OEndsQ own_P 0 612 [d0, d1, d2, d3, d4, qi v5, qi v6, d7, d8, d9, qi v10, qi v11, d12, qi v13, qi v14, d15, d16, d17, d18, qr 0, d20, d21, d22] [.int t0, .int t1] (bk0 zy zz zx zac zw zam zad zaa zaf zag zah zan zao zap zai zaj zv zak zab zae zal []) (LawQ res 0 0) := by
  intro zy zz zx zac zw zaa zv zab v5 v6 v10 v11 v13 v14 t0 t1 zai zaj zak zae zal zam zad zaf zag zah zan zao zap d0 d1 d2 d3 d4 d7 d8 d9 d12 d15 d16 d17 d18 d20 d21 d22 res h
  unfold f_L_law_612 at h
  by_cases hc122 : t1 = t0
  · simp only [if_pos hc122] at h
    refine OEndsQ.icmpT hm_0 rfl (q := 617) rfl ((teq hc122).1) ?_
    refine OEndsQ.adv hm_0 2 (pc' := 620) (L' := [qu, qu, qu, qu, qu, qi v5, qi v6, qu, qu, qu, qi v10, qi v11, qu, qi v13, qi v14, qu, qu, qu, qu, qr 0, qu, qu, qu]) (S' := [.int 1, .ref 0]) (H' := (bk0 zy zz zx zac zw zam zad zaa zaf zag zah zan zao zap zai zaj zv zak zab zae zal [])) rfl ?_
    obtain ⟨r245, hq123, h⟩ := bnd h
    refine OEndsQ.call0 hm_0 rfl rfl (by decide) rfl (as := [.ref 0, .int 1]) (rest := []) rfl rfl (ok_filled hq123) ?_
    refine OEndsQ.adv hm_0 1 (pc' := 625) (L' := [qu, qu, qu, qu, qu, qi v5, qi v6, qu, qu, qu, qi v10, qi v11, qu, qi v13, qi v14, qu, qu, qu, qu, qr 0, qu, qu, qu]) (S' := [.int v11, .int r245]) (H' := (bk0 zy zz zx zac zw zam zad zaa zaf zag zah zan zao zap zai zaj zv zak zab zae zal [])) rfl ?_
    by_cases hc124 : r245 = v11
    · simp only [if_pos hc124] at h
      refine OEndsQ.icmpF hm_0 rfl ((teq hc124).2) ?_
      refine OEndsQ.adv hm_0 2 (pc' := 631) (L' := [qu, qu, qu, qu, qu, qi v5, qi v6, qu, qu, qu, qi v10, qi v11, qu, qi v13, qi v14, qu, qu, qu, qu, qr 0, qu, qu, qu]) (S' := [.int 2, .ref 0]) (H' := (bk0 zy zz zx zac zw zam zad zaa zaf zag zah zan zao zap zai zaj zv zak zab zae zal [])) rfl ?_
      obtain ⟨r246, hq125, h⟩ := bnd h
      refine OEndsQ.call0 hm_0 rfl rfl (by decide) rfl (as := [.ref 0, .int 2]) (rest := []) rfl rfl (ok_filled hq125) ?_
      refine OEndsQ.adv hm_0 1 (pc' := 636) (L' := [qu, qu, qu, qu, qu, qi v5, qi v6, qu, qu, qu, qi v10, qi v11, qu, qi v13, qi v14, qu, qu, qu, qu, qr 0, qu, qu, qu]) (S' := [.int v13, .int r246]) (H' := (bk0 zy zz zx zac zw zam zad zaa zaf zag zah zan zao zap zai zaj zv zak zab zae zal [])) rfl ?_
      by_cases hc126 : r246 = v13
      · simp only [if_pos hc126] at h
        refine OEndsQ.icmpF hm_0 rfl ((teq hc126).2) ?_
        refine OEndsQ.adv hm_0 2 (pc' := 642) (L' := [qu, qu, qu, qu, qu, qi v5, qi v6, qu, qu, qu, qi v10, qi v11, qu, qi v13, qi v14, qu, qu, qu, qu, qr 0, qu, qu, qu]) (S' := [.int 3, .ref 0]) (H' := (bk0 zy zz zx zac zw zam zad zaa zaf zag zah zan zao zap zai zaj zv zak zab zae zal [])) rfl ?_
        obtain ⟨r247, hq127, h⟩ := bnd h
        refine OEndsQ.call0 hm_0 rfl rfl (by decide) rfl (as := [.ref 0, .int 3]) (rest := []) rfl rfl (ok_filled hq127) ?_
        refine OEndsQ.adv hm_0 1 (pc' := 647) (L' := [qu, qu, qu, qu, qu, qi v5, qi v6, qu, qu, qu, qi v10, qi v11, qu, qi v13, qi v14, qu, qu, qu, qu, qr 0, qu, qu, qu]) (S' := [.int v10, .int r247]) (H' := (bk0 zy zz zx zac zw zam zad zaa zaf zag zah zan zao zap zai zaj zv zak zab zae zal [])) rfl ?_
        by_cases hc128 : r247 = v10
        · simp only [if_pos hc128] at h
          refine OEndsQ.icmpT hm_0 rfl (q := 652) rfl ((teq hc128).1) ?_
          refine OEndsQ.adv hm_0 2 (pc' := 655) (L' := [qu, qu, qu, qu, qu, qi v5, qi v6, qu, qu, qu, qi v10, qi v11, qu, qi v13, qi v14, qu, qu, qu, qu, qr 0, qu, qu, qu]) (S' := [.int 3, .ref 0]) (H' := (bk0 zy zz zx zac zw zam zad zaa zaf zag zah zan zao zap zai zaj zv zak zab zae zal [])) rfl ?_
          obtain ⟨r248, hq129, h⟩ := bnd h
          refine OEndsQ.call0 hm_0 rfl rfl (by decide) rfl (as := [.ref 0, .int 3]) (rest := []) rfl rfl (ok_status hq129) ?_
          refine OEndsQ.adv hm_0 1 (pc' := 660) (L' := [qu, qu, qu, qu, qu, qi v5, qi v6, qu, qu, qu, qi v10, qi v11, qu, qi v13, qi v14, qu, qu, qu, qu, qr 0, qu, qu, qu]) (S' := [.int v14, .int r248]) (H' := (bk0 zy zz zx zac zw zam zad zaa zaf zag zah zan zao zap zai zaj zv zak zab zae zal [])) rfl ?_
          by_cases hc130 : v14 = (0 : Int32)
          · simp only [if_pos hc130] at h
            refine OEndsQ.ifF hm_0 rfl ((teq hc130).2) ?_
            refine OEndsQ.adv hm_0 2 (pc' := 668) (L' := [qu, qu, qu, qu, qu, qi v5, qi v6, qu, qu, qu, qi v10, qi v11, qu, qi v13, qi v14, qu, qu, qu, qu, qr 0, qu, qu, qu]) (S' := [.int 2, .int r248]) (H' := (bk0 zy zz zx zac zw zam zad zaa zaf zag zah zan zao zap zai zaj zv zak zab zae zal [])) rfl ?_
            exact ok_L_law_668 h
          · simp only [if_neg hc130] at h
            refine OEndsQ.ifT hm_0 rfl (q := 667) rfl ((feq hc130).2) ?_
            refine OEndsQ.adv hm_0 1 (pc' := 668) (L' := [qu, qu, qu, qu, qu, qi v5, qi v6, qu, qu, qu, qi v10, qi v11, qu, qi v13, qi v14, qu, qu, qu, qu, qr 0, qu, qu, qu]) (S' := [.int 1, .int r248]) (H' := (bk0 zy zz zx zac zw zam zad zaa zaf zag zah zan zao zap zai zaj zv zak zab zae zal [])) rfl ?_
            exact ok_L_law_668 h
        · simp only [if_neg hc128] at h
          refine OEndsQ.icmpF hm_0 rfl ((feq hc128).1) ?_
          refine OEndsQ.adv hm_0 1 (pc' := 651) (L' := [qu, qu, qu, qu, qu, qi v5, qi v6, qu, qu, qu, qi v10, qi v11, qu, qi v13, qi v14, qu, qu, qu, qu, qr 0, qu, qu, qu]) (S' := [.int 0]) (H' := (bk0 zy zz zx zac zw zam zad zaa zaf zag zah zan zao zap zai zaj zv zak zab zae zal [])) rfl ?_
          cases h
          exact OEndsQ.iret hm_0 rfl rfl
      · simp only [if_neg hc126] at h
        refine OEndsQ.icmpT hm_0 rfl (q := 650) rfl ((feq hc126).2) ?_
        refine OEndsQ.adv hm_0 1 (pc' := 651) (L' := [qu, qu, qu, qu, qu, qi v5, qi v6, qu, qu, qu, qi v10, qi v11, qu, qi v13, qi v14, qu, qu, qu, qu, qr 0, qu, qu, qu]) (S' := [.int 0]) (H' := (bk0 zy zz zx zac zw zam zad zaa zaf zag zah zan zao zap zai zaj zv zak zab zae zal [])) rfl ?_
        cases h
        exact OEndsQ.iret hm_0 rfl rfl
    · simp only [if_neg hc124] at h
      refine OEndsQ.icmpT hm_0 rfl (q := 650) rfl ((feq hc124).2) ?_
      refine OEndsQ.adv hm_0 1 (pc' := 651) (L' := [qu, qu, qu, qu, qu, qi v5, qi v6, qu, qu, qu, qi v10, qi v11, qu, qi v13, qi v14, qu, qu, qu, qu, qr 0, qu, qu, qu]) (S' := [.int 0]) (H' := (bk0 zy zz zx zac zw zam zad zaa zaf zag zah zan zao zap zai zaj zv zak zab zae zal [])) rfl ?_
      cases h
      exact OEndsQ.iret hm_0 rfl rfl
  · simp only [if_neg hc122] at h
    refine OEndsQ.icmpF hm_0 rfl ((feq hc122).1) ?_
    refine OEndsQ.adv hm_0 1 (pc' := 616) (L' := [qu, qu, qu, qu, qu, qi v5, qi v6, qu, qu, qu, qi v10, qi v11, qu, qi v13, qi v14, qu, qu, qu, qu, qr 0, qu, qu, qu]) (S' := [.int 0]) (H' := (bk0 zy zz zx zac zw zam zad zaa zaf zag zah zan zao zap zai zaj zv zak zab zae zal [])) rfl ?_
    cases h
    exact OEndsQ.iret hm_0 rfl rfl
theorem ok_L_law_575 : ∀ {zy zz zx zac zw zaa : List Int32} {zv zab v5 v6 v10 v11 v13 v14 t0 t1 zai zaj : Int32} {zak : Int64} {zae zal : Int32} {zam : List Int64} {zad zaf zag zah zan zao zap : List Int32} {d0 d1 d2 d3 d4 d7 d8 d9 d12 d15 d16 d17 d18 d20 d21 d22 : Slot} {res : Int32}, f_L_law_575 zy zz zx zac zw zaa zv zab v5 v6 v10 v11 v13 v14 t0 t1 = some res → OEndsQ own_P 0 575 [d0, d1, d2, d3, d4, qi v5, qi v6, d7, d8, d9, qi v10, qi v11, d12, qi v13, qi v14, d15, d16, d17, d18, qr 0, d20, d21, d22] [.int t0, .int t1] (bk0 zy zz zx zac zw zam zad zaa zaf zag zah zan zao zap zai zaj zv zak zab zae zal []) (LawQ res 0 0) := by
  intro zy zz zx zac zw zaa zv zab v5 v6 v10 v11 v13 v14 t0 t1 zai zaj zak zae zal zam zad zaf zag zah zan zao zap d0 d1 d2 d3 d4 d7 d8 d9 d12 d15 d16 d17 d18 d20 d21 d22 res h
  unfold f_L_law_575 at h
  by_cases hc131 : t1 = t0
  · simp only [if_pos hc131] at h
    refine OEndsQ.icmpT hm_0 rfl (q := 580) rfl ((teq hc131).1) ?_
    refine OEndsQ.adv hm_0 2 (pc' := 583) (L' := [qu, qu, qu, qu, qu, qi v5, qi v6, qu, qu, qu, qi v10, qi v11, qu, qi v13, qi v14, qu, qu, qu, qu, qr 0, qu, qu, qu]) (S' := [.int 2, .ref 0]) (H' := (bk0 zy zz zx zac zw zam zad zaa zaf zag zah zan zao zap zai zaj zv zak zab zae zal [])) rfl ?_
    obtain ⟨r243, hq132, h⟩ := bnd h
    refine OEndsQ.call0 hm_0 rfl rfl (by decide) rfl (as := [.ref 0, .int 2]) (rest := []) rfl rfl (ok_remaining hq132) ?_
    refine OEndsQ.adv hm_0 3 (pc' := 591) (L' := [qu, qu, qu, qu, qu, qi v5, qi v6, qu, qu, qu, qi v10, qi v11, qu, qi v13, qi v14, qu, qu, qu, qu, qr 0, qu, qu, qu]) (S' := [.int (v6 - v13), .int r243]) (H' := (bk0 zy zz zx zac zw zam zad zaa zaf zag zah zan zao zap zai zaj zv zak zab zae zal [])) rfl ?_
    by_cases hc133 : r243 = (v6 - v13)
    · simp only [if_pos hc133] at h
      refine OEndsQ.icmpF hm_0 rfl ((teq hc133).2) ?_
      refine OEndsQ.adv hm_0 2 (pc' := 597) (L' := [qu, qu, qu, qu, qu, qi v5, qi v6, qu, qu, qu, qi v10, qi v11, qu, qi v13, qi v14, qu, qu, qu, qu, qr 0, qu, qu, qu]) (S' := [.int 2, .ref 0]) (H' := (bk0 zy zz zx zac zw zam zad zaa zaf zag zah zan zao zap zai zaj zv zak zab zae zal [])) rfl ?_
      obtain ⟨r244, hq134, h⟩ := bnd h
      refine OEndsQ.call0 hm_0 rfl rfl (by decide) rfl (as := [.ref 0, .int 2]) (rest := []) rfl rfl (ok_status hq134) ?_
      refine OEndsQ.adv hm_0 2 (pc' := 604) (L' := [qu, qu, qu, qu, qu, qi v5, qi v6, qu, qu, qu, qi v10, qi v11, qu, qi v13, qi v14, qu, qu, qu, qu, qr 0, qu, qu, qu]) (S' := [.int v13, .int v6, .int r244]) (H' := (bk0 zy zz zx zac zw zam zad zaa zaf zag zah zan zao zap zai zaj zv zak zab zae zal [])) rfl ?_
      by_cases hc135 : v6 = v13
      · simp only [if_pos hc135] at h
        refine OEndsQ.icmpF hm_0 rfl ((teq hc135).2) ?_
        refine OEndsQ.adv hm_0 2 (pc' := 612) (L' := [qu, qu, qu, qu, qu, qi v5, qi v6, qu, qu, qu, qi v10, qi v11, qu, qi v13, qi v14, qu, qu, qu, qu, qr 0, qu, qu, qu]) (S' := [.int 2, .int r244]) (H' := (bk0 zy zz zx zac zw zam zad zaa zaf zag zah zan zao zap zai zaj zv zak zab zae zal [])) rfl ?_
        exact ok_L_law_612 h
      · simp only [if_neg hc135] at h
        refine OEndsQ.icmpT hm_0 rfl (q := 611) rfl ((feq hc135).2) ?_
        refine OEndsQ.adv hm_0 1 (pc' := 612) (L' := [qu, qu, qu, qu, qu, qi v5, qi v6, qu, qu, qu, qi v10, qi v11, qu, qi v13, qi v14, qu, qu, qu, qu, qr 0, qu, qu, qu]) (S' := [.int 1, .int r244]) (H' := (bk0 zy zz zx zac zw zam zad zaa zaf zag zah zan zao zap zai zaj zv zak zab zae zal [])) rfl ?_
        exact ok_L_law_612 h
    · simp only [if_neg hc133] at h
      refine OEndsQ.icmpT hm_0 rfl (q := 615) rfl ((feq hc133).2) ?_
      refine OEndsQ.adv hm_0 1 (pc' := 616) (L' := [qu, qu, qu, qu, qu, qi v5, qi v6, qu, qu, qu, qi v10, qi v11, qu, qi v13, qi v14, qu, qu, qu, qu, qr 0, qu, qu, qu]) (S' := [.int 0]) (H' := (bk0 zy zz zx zac zw zam zad zaa zaf zag zah zan zao zap zai zaj zv zak zab zae zal [])) rfl ?_
      cases h
      exact OEndsQ.iret hm_0 rfl rfl
  · simp only [if_neg hc131] at h
    refine OEndsQ.icmpF hm_0 rfl ((feq hc131).1) ?_
    refine OEndsQ.adv hm_0 1 (pc' := 579) (L' := [qu, qu, qu, qu, qu, qi v5, qi v6, qu, qu, qu, qi v10, qi v11, qu, qi v13, qi v14, qu, qu, qu, qu, qr 0, qu, qu, qu]) (S' := [.int 0]) (H' := (bk0 zy zz zx zac zw zam zad zaa zaf zag zah zan zao zap zai zaj zv zak zab zae zal [])) rfl ?_
    cases h
    exact OEndsQ.iret hm_0 rfl rfl
theorem ok_L_law_554 : ∀ {zy zz zx zac zw zad zaa : List Int32} {zv zab v5 v6 v10 v11 v13 v14 t0 t1 zai zaj : Int32} {zak : Int64} {zae zal : Int32} {zam : List Int64} {zaf zag zah zan zao zap : List Int32} {d0 d1 d2 d3 d4 d7 d8 d9 d12 d15 d16 d17 d18 d20 d21 d22 : Slot} {res : Int32}, f_L_law_554 zy zz zx zac zw zad zaa zv zab v5 v6 v10 v11 v13 v14 t0 t1 = some res → OEndsQ own_P 0 554 [d0, d1, d2, d3, d4, qi v5, qi v6, d7, d8, d9, qi v10, qi v11, d12, qi v13, qi v14, d15, d16, d17, d18, qr 0, d20, d21, d22] [.int t0, .int t1] (bk0 zy zz zx zac zw zam zad zaa zaf zag zah zan zao zap zai zaj zv zak zab zae zal []) (LawQ res 0 0) := by
  intro zy zz zx zac zw zad zaa zv zab v5 v6 v10 v11 v13 v14 t0 t1 zai zaj zak zae zal zam zaf zag zah zan zao zap d0 d1 d2 d3 d4 d7 d8 d9 d12 d15 d16 d17 d18 d20 d21 d22 res h
  unfold f_L_law_554 at h
  by_cases hc136 : t1 = t0
  · simp only [if_pos hc136] at h
    refine OEndsQ.icmpF hm_0 rfl ((teq hc136).2) ?_
    refine OEndsQ.adv hm_0 2 (pc' := 560) (L' := [qu, qu, qu, qu, qu, qi v5, qi v6, qu, qu, qu, qi v10, qi v11, qu, qi v13, qi v14, qu, qu, qu, qu, qr 0, qu, qu, qu]) (S' := [.int 1, .ref 0]) (H' := (bk0 zy zz zx zac zw zam zad zaa zaf zag zah zan zao zap zai zaj zv zak zab zae zal [])) rfl ?_
    obtain ⟨r242, hq137, h⟩ := bnd h
    refine OEndsQ.call0 hm_0 rfl rfl (by decide) rfl (as := [.ref 0, .int 1]) (rest := []) rfl rfl (ok_isTop hq137) ?_
    refine OEndsQ.adv hm_0 2 (pc' := 567) (L' := [qu, qu, qu, qu, qu, qi v5, qi v6, qu, qu, qu, qi v10, qi v11, qu, qi v13, qi v14, qu, qu, qu, qu, qr 0, qu, qu, qu]) (S' := [.int v11, .int v5, .int r242]) (H' := (bk0 zy zz zx zac zw zam zad zaa zaf zag zah zan zao zap zai zaj zv zak zab zae zal [])) rfl ?_
    by_cases hc138 : v11 < v5
    · simp only [if_pos hc138] at h
      refine OEndsQ.icmpF hm_0 rfl ((tlt hc138).2.2.2) ?_
      refine OEndsQ.adv hm_0 2 (pc' := 575) (L' := [qu, qu, qu, qu, qu, qi v5, qi v6, qu, qu, qu, qi v10, qi v11, qu, qi v13, qi v14, qu, qu, qu, qu, qr 0, qu, qu, qu]) (S' := [.int 1, .int r242]) (H' := (bk0 zy zz zx zac zw zam zad zaa zaf zag zah zan zao zap zai zaj zv zak zab zae zal [])) rfl ?_
      exact ok_L_law_575 h
    · simp only [if_neg hc138] at h
      refine OEndsQ.icmpT hm_0 rfl (q := 574) rfl ((flt hc138).2.2.2) ?_
      refine OEndsQ.adv hm_0 1 (pc' := 575) (L' := [qu, qu, qu, qu, qu, qi v5, qi v6, qu, qu, qu, qi v10, qi v11, qu, qi v13, qi v14, qu, qu, qu, qu, qr 0, qu, qu, qu]) (S' := [.int 0, .int r242]) (H' := (bk0 zy zz zx zac zw zam zad zaa zaf zag zah zan zao zap zai zaj zv zak zab zae zal [])) rfl ?_
      exact ok_L_law_575 h
  · simp only [if_neg hc136] at h
    refine OEndsQ.icmpT hm_0 rfl (q := 578) rfl ((feq hc136).2) ?_
    refine OEndsQ.adv hm_0 1 (pc' := 579) (L' := [qu, qu, qu, qu, qu, qi v5, qi v6, qu, qu, qu, qi v10, qi v11, qu, qi v13, qi v14, qu, qu, qu, qu, qr 0, qu, qu, qu]) (S' := [.int 0]) (H' := (bk0 zy zz zx zac zw zam zad zaa zaf zag zah zan zao zap zai zaj zv zak zab zae zal [])) rfl ?_
    cases h
    exact OEndsQ.iret hm_0 rfl rfl
theorem ok_L_law_517 : ∀ {zy zz zx zac zw zad zaa : List Int32} {zv zab v5 v6 v10 v11 v13 v14 t0 t1 zai zaj : Int32} {zak : Int64} {zae zal : Int32} {zam : List Int64} {zaf zag zah zan zao zap : List Int32} {d0 d1 d2 d3 d4 d7 d8 d9 d12 d15 d16 d17 d18 d20 d21 d22 : Slot} {res : Int32}, f_L_law_517 zy zz zx zac zw zad zaa zv zab v5 v6 v10 v11 v13 v14 t0 t1 = some res → OEndsQ own_P 0 517 [d0, d1, d2, d3, d4, qi v5, qi v6, d7, d8, d9, qi v10, qi v11, d12, qi v13, qi v14, d15, d16, d17, d18, qr 0, d20, d21, d22] [.int t0, .int t1] (bk0 zy zz zx zac zw zam zad zaa zaf zag zah zan zao zap zai zaj zv zak zab zae zal []) (LawQ res 0 0) := by
  intro zy zz zx zac zw zad zaa zv zab v5 v6 v10 v11 v13 v14 t0 t1 zai zaj zak zae zal zam zaf zag zah zan zao zap d0 d1 d2 d3 d4 d7 d8 d9 d12 d15 d16 d17 d18 d20 d21 d22 res h
  unfold f_L_law_517 at h
  by_cases hc139 : t1 = t0
  · simp only [if_pos hc139] at h
    refine OEndsQ.icmpT hm_0 rfl (q := 522) rfl ((teq hc139).1) ?_
    refine OEndsQ.adv hm_0 2 (pc' := 525) (L' := [qu, qu, qu, qu, qu, qi v5, qi v6, qu, qu, qu, qi v10, qi v11, qu, qi v13, qi v14, qu, qu, qu, qu, qr 0, qu, qu, qu]) (S' := [.int 1, .ref 0]) (H' := (bk0 zy zz zx zac zw zam zad zaa zaf zag zah zan zao zap zai zaj zv zak zab zae zal [])) rfl ?_
    obtain ⟨r240, hq140, h⟩ := bnd h
    refine OEndsQ.call0 hm_0 rfl rfl (by decide) rfl (as := [.ref 0, .int 1]) (rest := []) rfl rfl (ok_remaining hq140) ?_
    refine OEndsQ.adv hm_0 3 (pc' := 533) (L' := [qu, qu, qu, qu, qu, qi v5, qi v6, qu, qu, qu, qi v10, qi v11, qu, qi v13, qi v14, qu, qu, qu, qu, qr 0, qu, qu, qu]) (S' := [.int (v5 - v11), .int r240]) (H' := (bk0 zy zz zx zac zw zam zad zaa zaf zag zah zan zao zap zai zaj zv zak zab zae zal [])) rfl ?_
    by_cases hc141 : r240 = (v5 - v11)
    · simp only [if_pos hc141] at h
      refine OEndsQ.icmpF hm_0 rfl ((teq hc141).2) ?_
      refine OEndsQ.adv hm_0 2 (pc' := 539) (L' := [qu, qu, qu, qu, qu, qi v5, qi v6, qu, qu, qu, qi v10, qi v11, qu, qi v13, qi v14, qu, qu, qu, qu, qr 0, qu, qu, qu]) (S' := [.int 1, .ref 0]) (H' := (bk0 zy zz zx zac zw zam zad zaa zaf zag zah zan zao zap zai zaj zv zak zab zae zal [])) rfl ?_
      obtain ⟨r241, hq142, h⟩ := bnd h
      refine OEndsQ.call0 hm_0 rfl rfl (by decide) rfl (as := [.ref 0, .int 1]) (rest := []) rfl rfl (ok_status hq142) ?_
      refine OEndsQ.adv hm_0 2 (pc' := 546) (L' := [qu, qu, qu, qu, qu, qi v5, qi v6, qu, qu, qu, qi v10, qi v11, qu, qi v13, qi v14, qu, qu, qu, qu, qr 0, qu, qu, qu]) (S' := [.int v11, .int v5, .int r241]) (H' := (bk0 zy zz zx zac zw zam zad zaa zaf zag zah zan zao zap zai zaj zv zak zab zae zal [])) rfl ?_
      by_cases hc143 : v5 = v11
      · simp only [if_pos hc143] at h
        refine OEndsQ.icmpF hm_0 rfl ((teq hc143).2) ?_
        refine OEndsQ.adv hm_0 2 (pc' := 554) (L' := [qu, qu, qu, qu, qu, qi v5, qi v6, qu, qu, qu, qi v10, qi v11, qu, qi v13, qi v14, qu, qu, qu, qu, qr 0, qu, qu, qu]) (S' := [.int 2, .int r241]) (H' := (bk0 zy zz zx zac zw zam zad zaa zaf zag zah zan zao zap zai zaj zv zak zab zae zal [])) rfl ?_
        exact ok_L_law_554 h
      · simp only [if_neg hc143] at h
        refine OEndsQ.icmpT hm_0 rfl (q := 553) rfl ((feq hc143).2) ?_
        refine OEndsQ.adv hm_0 1 (pc' := 554) (L' := [qu, qu, qu, qu, qu, qi v5, qi v6, qu, qu, qu, qi v10, qi v11, qu, qi v13, qi v14, qu, qu, qu, qu, qr 0, qu, qu, qu]) (S' := [.int 1, .int r241]) (H' := (bk0 zy zz zx zac zw zam zad zaa zaf zag zah zan zao zap zai zaj zv zak zab zae zal [])) rfl ?_
        exact ok_L_law_554 h
    · simp only [if_neg hc141] at h
      refine OEndsQ.icmpT hm_0 rfl (q := 578) rfl ((feq hc141).2) ?_
      refine OEndsQ.adv hm_0 1 (pc' := 579) (L' := [qu, qu, qu, qu, qu, qi v5, qi v6, qu, qu, qu, qi v10, qi v11, qu, qi v13, qi v14, qu, qu, qu, qu, qr 0, qu, qu, qu]) (S' := [.int 0]) (H' := (bk0 zy zz zx zac zw zam zad zaa zaf zag zah zan zao zap zai zaj zv zak zab zae zal [])) rfl ?_
      cases h
      exact OEndsQ.iret hm_0 rfl rfl
  · simp only [if_neg hc139] at h
    refine OEndsQ.icmpF hm_0 rfl ((feq hc139).1) ?_
    refine OEndsQ.adv hm_0 1 (pc' := 521) (L' := [qu, qu, qu, qu, qu, qi v5, qi v6, qu, qu, qu, qi v10, qi v11, qu, qi v13, qi v14, qu, qu, qu, qu, qr 0, qu, qu, qu]) (S' := [.int 0]) (H' := (bk0 zy zz zx zac zw zam zad zaa zaf zag zah zan zao zap zai zaj zv zak zab zae zal [])) rfl ?_
    cases h
    exact OEndsQ.iret hm_0 rfl rfl
theorem ok_L_law_438 : ∀ {zy zz zx zac zw zad zaa zaf zag zah : List Int32} {zv zab zae v5 v6 v10 v11 v13 v14 v15 v16 v17 v18 t0 t1 zai zaj : Int32} {zak : Int64} {zal : Int32} {zam : List Int64} {zan zao zap : List Int32} {d0 d1 d2 d3 d4 d7 d8 d9 d12 d20 d21 d22 : Slot} {res : Int32}, f_L_law_438 zy zz zx zac zw zad zaa zaf zag zah zv zab zae v5 v6 v10 v11 v13 v14 v15 v16 v17 v18 t0 t1 = some res → OEndsQ own_P 0 438 [d0, d1, d2, d3, d4, qi v5, qi v6, d7, d8, d9, qi v10, qi v11, d12, qi v13, qi v14, qi v15, qi v16, qi v17, qi v18, qr 0, d20, d21, d22] [.int t0, .int t1] (bk0 zy zz zx zac zw zam zad zaa zaf zag zah zan zao zap zai zaj zv zak zab zae zal []) (LawQ res 0 0) := by
  intro zy zz zx zac zw zad zaa zaf zag zah zv zab zae v5 v6 v10 v11 v13 v14 v15 v16 v17 v18 t0 t1 zai zaj zak zal zam zan zao zap d0 d1 d2 d3 d4 d7 d8 d9 d12 d20 d21 d22 res h
  unfold f_L_law_438 at h
  by_cases hc144 : t1 = t0
  · simp only [if_pos hc144] at h
    refine OEndsQ.icmpT hm_0 rfl (q := 443) rfl ((teq hc144).1) ?_
    refine OEndsQ.adv hm_0 2 (pc' := 446) (L' := [qu, qu, qu, qu, qu, qi v5, qi v6, qu, qu, qu, qi v10, qi v11, qu, qi v13, qi v14, qi v15, qi v16, qi v17, qi v18, qr 0, qu, qu, qu]) (S' := [.int 0, .ref 0]) (H' := (bk0 zy zz zx zac zw zam zad zaa zaf zag zah zan zao zap zai zaj zv zak zab zae zal [])) rfl ?_
    obtain ⟨r234, hq145, h⟩ := bnd h
    refine OEndsQ.call0 hm_0 rfl rfl (by decide) rfl (as := [.ref 0, .int 0]) (rest := []) rfl rfl (ok_fillId hq145) ?_
    refine OEndsQ.adv hm_0 1 (pc' := 451) (L' := [qu, qu, qu, qu, qu, qi v5, qi v6, qu, qu, qu, qi v10, qi v11, qu, qi v13, qi v14, qi v15, qi v16, qi v17, qi v18, qr 0, qu, qu, qu]) (S' := [.int v15, .int r234]) (H' := (bk0 zy zz zx zac zw zam zad zaa zaf zag zah zan zao zap zai zaj zv zak zab zae zal [])) rfl ?_
    by_cases hc146 : r234 = v15
    · simp only [if_pos hc146] at h
      refine OEndsQ.icmpF hm_0 rfl ((teq hc146).2) ?_
      refine OEndsQ.adv hm_0 2 (pc' := 457) (L' := [qu, qu, qu, qu, qu, qi v5, qi v6, qu, qu, qu, qi v10, qi v11, qu, qi v13, qi v14, qi v15, qi v16, qi v17, qi v18, qr 0, qu, qu, qu]) (S' := [.int 0, .ref 0]) (H' := (bk0 zy zz zx zac zw zam zad zaa zaf zag zah zan zao zap zai zaj zv zak zab zae zal [])) rfl ?_
      obtain ⟨r235, hq147, h⟩ := bnd h
      refine OEndsQ.call0 hm_0 rfl rfl (by decide) rfl (as := [.ref 0, .int 0]) (rest := []) rfl rfl (ok_fillQty hq147) ?_
      refine OEndsQ.adv hm_0 1 (pc' := 462) (L' := [qu, qu, qu, qu, qu, qi v5, qi v6, qu, qu, qu, qi v10, qi v11, qu, qi v13, qi v14, qi v15, qi v16, qi v17, qi v18, qr 0, qu, qu, qu]) (S' := [.int v16, .int r235]) (H' := (bk0 zy zz zx zac zw zam zad zaa zaf zag zah zan zao zap zai zaj zv zak zab zae zal [])) rfl ?_
      by_cases hc148 : r235 = v16
      · simp only [if_pos hc148] at h
        refine OEndsQ.icmpF hm_0 rfl ((teq hc148).2) ?_
        refine OEndsQ.adv hm_0 2 (pc' := 468) (L' := [qu, qu, qu, qu, qu, qi v5, qi v6, qu, qu, qu, qi v10, qi v11, qu, qi v13, qi v14, qi v15, qi v16, qi v17, qi v18, qr 0, qu, qu, qu]) (S' := [.int 0, .ref 0]) (H' := (bk0 zy zz zx zac zw zam zad zaa zaf zag zah zan zao zap zai zaj zv zak zab zae zal [])) rfl ?_
        obtain ⟨r236, hq149, h⟩ := bnd h
        refine OEndsQ.call0 hm_0 rfl rfl (by decide) rfl (as := [.ref 0, .int 0]) (rest := []) rfl rfl (ok_fillPrice hq149) ?_
        refine OEndsQ.adv hm_0 1 (pc' := 473) (L' := [qu, qu, qu, qu, qu, qi v5, qi v6, qu, qu, qu, qi v10, qi v11, qu, qi v13, qi v14, qi v15, qi v16, qi v17, qi v18, qr 0, qu, qu, qu]) (S' := [.int 100, .int r236]) (H' := (bk0 zy zz zx zac zw zam zad zaa zaf zag zah zan zao zap zai zaj zv zak zab zae zal [])) rfl ?_
        by_cases hc150 : r236 = (100 : Int32)
        · simp only [if_pos hc150] at h
          refine OEndsQ.icmpT hm_0 rfl (q := 478) rfl ((teq hc150).1) ?_
          refine OEndsQ.adv hm_0 2 (pc' := 481) (L' := [qu, qu, qu, qu, qu, qi v5, qi v6, qu, qu, qu, qi v10, qi v11, qu, qi v13, qi v14, qi v15, qi v16, qi v17, qi v18, qr 0, qu, qu, qu]) (S' := [.int 1, .ref 0]) (H' := (bk0 zy zz zx zac zw zam zad zaa zaf zag zah zan zao zap zai zaj zv zak zab zae zal [])) rfl ?_
          obtain ⟨r237, hq151, h⟩ := bnd h
          refine OEndsQ.call0 hm_0 rfl rfl (by decide) rfl (as := [.ref 0, .int 1]) (rest := []) rfl rfl (ok_fillId hq151) ?_
          refine OEndsQ.adv hm_0 1 (pc' := 486) (L' := [qu, qu, qu, qu, qu, qi v5, qi v6, qu, qu, qu, qi v10, qi v11, qu, qi v13, qi v14, qi v15, qi v16, qi v17, qi v18, qr 0, qu, qu, qu]) (S' := [.int v17, .int r237]) (H' := (bk0 zy zz zx zac zw zam zad zaa zaf zag zah zan zao zap zai zaj zv zak zab zae zal [])) rfl ?_
          by_cases hc152 : r237 = v17
          · simp only [if_pos hc152] at h
            refine OEndsQ.icmpF hm_0 rfl ((teq hc152).2) ?_
            refine OEndsQ.adv hm_0 2 (pc' := 492) (L' := [qu, qu, qu, qu, qu, qi v5, qi v6, qu, qu, qu, qi v10, qi v11, qu, qi v13, qi v14, qi v15, qi v16, qi v17, qi v18, qr 0, qu, qu, qu]) (S' := [.int 1, .ref 0]) (H' := (bk0 zy zz zx zac zw zam zad zaa zaf zag zah zan zao zap zai zaj zv zak zab zae zal [])) rfl ?_
            obtain ⟨r238, hq153, h⟩ := bnd h
            refine OEndsQ.call0 hm_0 rfl rfl (by decide) rfl (as := [.ref 0, .int 1]) (rest := []) rfl rfl (ok_fillQty hq153) ?_
            refine OEndsQ.adv hm_0 1 (pc' := 497) (L' := [qu, qu, qu, qu, qu, qi v5, qi v6, qu, qu, qu, qi v10, qi v11, qu, qi v13, qi v14, qi v15, qi v16, qi v17, qi v18, qr 0, qu, qu, qu]) (S' := [.int v18, .int r238]) (H' := (bk0 zy zz zx zac zw zam zad zaa zaf zag zah zan zao zap zai zaj zv zak zab zae zal [])) rfl ?_
            by_cases hc154 : r238 = v18
            · simp only [if_pos hc154] at h
              refine OEndsQ.icmpF hm_0 rfl ((teq hc154).2) ?_
              refine OEndsQ.adv hm_0 2 (pc' := 503) (L' := [qu, qu, qu, qu, qu, qi v5, qi v6, qu, qu, qu, qi v10, qi v11, qu, qi v13, qi v14, qi v15, qi v16, qi v17, qi v18, qr 0, qu, qu, qu]) (S' := [.int 1, .ref 0]) (H' := (bk0 zy zz zx zac zw zam zad zaa zaf zag zah zan zao zap zai zaj zv zak zab zae zal [])) rfl ?_
              obtain ⟨r239, hq155, h⟩ := bnd h
              refine OEndsQ.call0 hm_0 rfl rfl (by decide) rfl (as := [.ref 0, .int 1]) (rest := []) rfl rfl (ok_fillPrice hq155) ?_
              refine OEndsQ.adv hm_0 1 (pc' := 508) (L' := [qu, qu, qu, qu, qu, qi v5, qi v6, qu, qu, qu, qi v10, qi v11, qu, qi v13, qi v14, qi v15, qi v16, qi v17, qi v18, qr 0, qu, qu, qu]) (S' := [.int v17, .int r239]) (H' := (bk0 zy zz zx zac zw zam zad zaa zaf zag zah zan zao zap zai zaj zv zak zab zae zal [])) rfl ?_
              by_cases hc156 : v17 = (0 : Int32)
              · simp only [if_pos hc156] at h
                refine OEndsQ.ifF hm_0 rfl ((teq hc156).2) ?_
                refine OEndsQ.adv hm_0 2 (pc' := 517) (L' := [qu, qu, qu, qu, qu, qi v5, qi v6, qu, qu, qu, qi v10, qi v11, qu, qi v13, qi v14, qi v15, qi v16, qi v17, qi v18, qr 0, qu, qu, qu]) (S' := [.int 0, .int r239]) (H' := (bk0 zy zz zx zac zw zam zad zaa zaf zag zah zan zao zap zai zaj zv zak zab zae zal [])) rfl ?_
                exact ok_L_law_517 h
              · simp only [if_neg hc156] at h
                refine OEndsQ.ifT hm_0 rfl (q := 515) rfl ((feq hc156).2) ?_
                refine OEndsQ.adv hm_0 1 (pc' := 517) (L' := [qu, qu, qu, qu, qu, qi v5, qi v6, qu, qu, qu, qi v10, qi v11, qu, qi v13, qi v14, qi v15, qi v16, qi v17, qi v18, qr 0, qu, qu, qu]) (S' := [.int 100, .int r239]) (H' := (bk0 zy zz zx zac zw zam zad zaa zaf zag zah zan zao zap zai zaj zv zak zab zae zal [])) rfl ?_
                exact ok_L_law_517 h
            · simp only [if_neg hc154] at h
              refine OEndsQ.icmpT hm_0 rfl (q := 520) rfl ((feq hc154).2) ?_
              refine OEndsQ.adv hm_0 1 (pc' := 521) (L' := [qu, qu, qu, qu, qu, qi v5, qi v6, qu, qu, qu, qi v10, qi v11, qu, qi v13, qi v14, qi v15, qi v16, qi v17, qi v18, qr 0, qu, qu, qu]) (S' := [.int 0]) (H' := (bk0 zy zz zx zac zw zam zad zaa zaf zag zah zan zao zap zai zaj zv zak zab zae zal [])) rfl ?_
              cases h
              exact OEndsQ.iret hm_0 rfl rfl
          · simp only [if_neg hc152] at h
            refine OEndsQ.icmpT hm_0 rfl (q := 520) rfl ((feq hc152).2) ?_
            refine OEndsQ.adv hm_0 1 (pc' := 521) (L' := [qu, qu, qu, qu, qu, qi v5, qi v6, qu, qu, qu, qi v10, qi v11, qu, qi v13, qi v14, qi v15, qi v16, qi v17, qi v18, qr 0, qu, qu, qu]) (S' := [.int 0]) (H' := (bk0 zy zz zx zac zw zam zad zaa zaf zag zah zan zao zap zai zaj zv zak zab zae zal [])) rfl ?_
            cases h
            exact OEndsQ.iret hm_0 rfl rfl
        · simp only [if_neg hc150] at h
          refine OEndsQ.icmpF hm_0 rfl ((feq hc150).1) ?_
          refine OEndsQ.adv hm_0 1 (pc' := 477) (L' := [qu, qu, qu, qu, qu, qi v5, qi v6, qu, qu, qu, qi v10, qi v11, qu, qi v13, qi v14, qi v15, qi v16, qi v17, qi v18, qr 0, qu, qu, qu]) (S' := [.int 0]) (H' := (bk0 zy zz zx zac zw zam zad zaa zaf zag zah zan zao zap zai zaj zv zak zab zae zal [])) rfl ?_
          cases h
          exact OEndsQ.iret hm_0 rfl rfl
      · simp only [if_neg hc148] at h
        refine OEndsQ.icmpT hm_0 rfl (q := 476) rfl ((feq hc148).2) ?_
        refine OEndsQ.adv hm_0 1 (pc' := 477) (L' := [qu, qu, qu, qu, qu, qi v5, qi v6, qu, qu, qu, qi v10, qi v11, qu, qi v13, qi v14, qi v15, qi v16, qi v17, qi v18, qr 0, qu, qu, qu]) (S' := [.int 0]) (H' := (bk0 zy zz zx zac zw zam zad zaa zaf zag zah zan zao zap zai zaj zv zak zab zae zal [])) rfl ?_
        cases h
        exact OEndsQ.iret hm_0 rfl rfl
    · simp only [if_neg hc146] at h
      refine OEndsQ.icmpT hm_0 rfl (q := 476) rfl ((feq hc146).2) ?_
      refine OEndsQ.adv hm_0 1 (pc' := 477) (L' := [qu, qu, qu, qu, qu, qi v5, qi v6, qu, qu, qu, qi v10, qi v11, qu, qi v13, qi v14, qi v15, qi v16, qi v17, qi v18, qr 0, qu, qu, qu]) (S' := [.int 0]) (H' := (bk0 zy zz zx zac zw zam zad zaa zaf zag zah zan zao zap zai zaj zv zak zab zae zal [])) rfl ?_
      cases h
      exact OEndsQ.iret hm_0 rfl rfl
  · simp only [if_neg hc144] at h
    refine OEndsQ.icmpF hm_0 rfl ((feq hc144).1) ?_
    refine OEndsQ.adv hm_0 1 (pc' := 442) (L' := [qu, qu, qu, qu, qu, qi v5, qi v6, qu, qu, qu, qi v10, qi v11, qu, qi v13, qi v14, qi v15, qi v16, qi v17, qi v18, qr 0, qu, qu, qu]) (S' := [.int 0]) (H' := (bk0 zy zz zx zac zw zam zad zaa zaf zag zah zan zao zap zai zaj zv zak zab zae zal [])) rfl ?_
    cases h
    exact OEndsQ.iret hm_0 rfl rfl
theorem ok_L_law_351 : ∀ {v0 v1 v5 v6 v7 v10 v11 v13 v14 v15 v16 v17 t0 : Int32} {d2 d3 d4 d8 d9 d12 d18 d19 d20 d21 d22 : Slot} {res : Int32}, f_L_law_351 v0 v1 v5 v6 v7 v10 v11 v13 v14 v15 v16 v17 t0 = some res → OEndsQ own_P 0 351 [qi v0, qi v1, d2, d3, d4, qi v5, qi v6, qi v7, d8, d9, qi v10, qi v11, d12, qi v13, qi v14, qi v15, qi v16, qi v17, d18, d19, d20, d21, d22] [.int t0] [] (LawQ res 15 2261) := by
  intro v0 v1 v5 v6 v7 v10 v11 v13 v14 v15 v16 v17 t0 d2 d3 d4 d8 d9 d12 d18 d19 d20 d21 d22 res h
  unfold f_L_law_351 at h
  refine OEndsQ.adv hm_0 1 (pc' := 353) (L' := [qi v0, qi v1, qu, qu, qu, qi v5, qi v6, qi v7, qu, qu, qi v10, qi v11, qu, qi v13, qi v14, qi v15, qi v16, qi v17, qi t0, qu, qu, qu, qu]) (S' := []) (H' := []) rfl ?_
  refine OEndsQ.made hm_0 rfl rfl (ks := 21) (c0 := 14) (s0 := 2240) rfl (Nat.le_of_ble_eq_true rfl) (Nat.le_of_ble_eq_true rfl) ?_
  refine OEndsQ.adv hm_0 3 (pc' := 359) (L' := [qi v0, qi v1, qu, qu, qu, qi v5, qi v6, qi v7, qu, qu, qi v10, qi v11, qu, qi v13, qi v14, qi v15, qi v16, qi v17, qi t0, qu, qu, qu, qu]) (S' := [.int v1, .int v0, .ref 0, .ref 0]) (H' := ((.inl (0, [.null, .null, .null, .null, .null, .null, .null, .null, .null, .null, .null, .null, .null, .null, .int 0, .int 0, .int 0, .long 0, .int 0, .int 0, .int 0]) : ACell) :: [])) rfl ?_
  obtain ⟨⟨s152, s153, s154, s155, s156, s157, s158, s159, s160, s161, s162, s163, s164, s165, s166, s167, s168, s169, s170, s171, s172⟩, hq157, h⟩ := bnd h
  refine OEndsQ.callN hm_0 rfl rfl (by decide) rfl (as := [.ref 0, .int v0, .int v1]) (rest := [.ref 0]) rfl rfl (c0 := 0) (s0 := 0) (ok_init hq157) (Nat.le_of_ble_eq_true rfl) (Nat.le_of_ble_eq_true rfl) ?_
  refine OEndsQ.adv hm_0 6 (pc' := 372) (L' := [qi v0, qi v1, qu, qu, qu, qi v5, qi v6, qi v7, qu, qu, qi v10, qi v11, qu, qi v13, qi v14, qi v15, qi v16, qi v17, qi t0, qr 0, qu, qu, qu]) (S' := [.int 0, .int v5, .int 100, .int 1, .ref 0]) (H' := (bk0 s152 s153 s154 s155 s156 s157 s158 s159 s160 s161 s162 s163 s164 s165 s166 s167 s168 s169 s170 s171 s172 [])) rfl ?_
  obtain ⟨⟨r173, s174, s175, s176, s177, s178, s179, s180, s181, s182, s183, s184, s185, s186, s187, s188, s189, s190, s191, s192⟩, hq158, h⟩ := bnd h
  refine OEndsQ.call0 hm_0 rfl rfl (by decide) rfl (as := [.ref 0, .int 1, .int 100, .int v5, .int 0]) (rest := []) rfl rfl (ok_submit hq158) ?_
  refine OEndsQ.adv hm_0 6 (pc' := 385) (L' := [qi v0, qi v1, qu, qu, qu, qi v5, qi v6, qi v7, qu, qu, qi v10, qi v11, qu, qi v13, qi v14, qi v15, qi v16, qi v17, qi t0, qr 0, qi r173, qu, qu]) (S' := [.int 0, .int v6, .int 100, .int 1, .ref 0]) (H' := (bk0 s174 s175 s176 s177 s178 s179 s180 s181 s182 s183 s184 s185 s186 s187 s166 s167 s188 s189 s190 s191 s192 [])) rfl ?_
  obtain ⟨⟨r193, s194, s195, s196, s197, s198, s199, s200, s201, s202, s203, s204, s205, s206, s207, s208, s209, s210, s211, s212⟩, hq159, h⟩ := bnd h
  refine OEndsQ.call0 hm_0 rfl rfl (by decide) rfl (as := [.ref 0, .int 1, .int 100, .int v6, .int 0]) (rest := []) rfl rfl (ok_submit hq159) ?_
  refine OEndsQ.adv hm_0 6 (pc' := 398) (L' := [qi v0, qi v1, qu, qu, qu, qi v5, qi v6, qi v7, qu, qu, qi v10, qi v11, qu, qi v13, qi v14, qi v15, qi v16, qi v17, qi t0, qr 0, qi r173, qi r193, qu]) (S' := [.int 0, .int v7, .int 100, .int 0, .ref 0]) (H' := (bk0 s194 s195 s196 s197 s198 s199 s200 s201 s202 s203 s204 s205 s206 s207 s166 s167 s208 s209 s210 s211 s212 [])) rfl ?_
  obtain ⟨⟨r213, s214, s215, s216, s217, s218, s219, s220, s221, s222, s223, s224, s225, s226, s227, s228, s229, s230, s231, s232⟩, hq160, h⟩ := bnd h
  refine OEndsQ.call0 hm_0 rfl rfl (by decide) rfl (as := [.ref 0, .int 0, .int 100, .int v7, .int 0]) (rest := []) rfl rfl (ok_submit hq160) ?_
  refine OEndsQ.adv hm_0 3 (pc' := 406) (L' := [qi v0, qi v1, qu, qu, qu, qi v5, qi v6, qi v7, qu, qu, qi v10, qi v11, qu, qi v13, qi v14, qi v15, qi v16, qi v17, qi t0, qr 0, qi r173, qi r193, qi r213]) (S' := [.int 1, .int r173]) (H' := (bk0 s214 s215 s216 s217 s218 s219 s220 s221 s222 s223 s224 s225 s226 s227 s166 s167 s228 s229 s230 s231 s232 [])) rfl ?_
  by_cases hc161 : r173 = (1 : Int32)
  · simp only [if_pos hc161] at h
    refine OEndsQ.icmpF hm_0 rfl ((teq hc161).2) ?_
    refine OEndsQ.adv hm_0 2 (pc' := 412) (L' := [qi v0, qi v1, qu, qu, qu, qi v5, qi v6, qi v7, qu, qu, qi v10, qi v11, qu, qi v13, qi v14, qi v15, qi v16, qi v17, qi t0, qr 0, qi r173, qi r193, qi r213]) (S' := [.int 2, .int r193]) (H' := (bk0 s214 s215 s216 s217 s218 s219 s220 s221 s222 s223 s224 s225 s226 s227 s166 s167 s228 s229 s230 s231 s232 [])) rfl ?_
    by_cases hc162 : r193 = (2 : Int32)
    · simp only [if_pos hc162] at h
      refine OEndsQ.icmpF hm_0 rfl ((teq hc162).2) ?_
      refine OEndsQ.adv hm_0 2 (pc' := 418) (L' := [qi v0, qi v1, qu, qu, qu, qi v5, qi v6, qi v7, qu, qu, qi v10, qi v11, qu, qi v13, qi v14, qi v15, qi v16, qi v17, qi t0, qr 0, qi r173, qi r193, qi r213]) (S' := [.int 3, .int r213]) (H' := (bk0 s214 s215 s216 s217 s218 s219 s220 s221 s222 s223 s224 s225 s226 s227 s166 s167 s228 s229 s230 s231 s232 [])) rfl ?_
      by_cases hc163 : r213 = (3 : Int32)
      · simp only [if_pos hc163] at h
        refine OEndsQ.icmpT hm_0 rfl (q := 423) rfl ((teq hc163).1) ?_
        refine OEndsQ.adv hm_0 1 (pc' := 425) (L' := [qi v0, qi v1, qu, qu, qu, qi v5, qi v6, qi v7, qu, qu, qi v10, qi v11, qu, qi v13, qi v14, qi v15, qi v16, qi v17, qi t0, qr 0, qi r173, qi r193, qi r213]) (S' := [.ref 0]) (H' := (bk0 s214 s215 s216 s217 s218 s219 s220 s221 s222 s223 s224 s225 s226 s227 s166 s167 s228 s229 s230 s231 s232 [])) rfl ?_
        obtain ⟨r233, hq164, h⟩ := bnd h
        refine OEndsQ.call0 hm_0 rfl rfl (by decide) rfl (as := [.ref 0]) (rest := []) rfl rfl (ok_fillCount hq164) ?_
        refine OEndsQ.adv hm_0 1 (pc' := 430) (L' := [qi v0, qi v1, qu, qu, qu, qi v5, qi v6, qi v7, qu, qu, qi v10, qi v11, qu, qi v13, qi v14, qi v15, qi v16, qi v17, qi t0, qr 0, qi r173, qi r193, qi r213]) (S' := [.int v17, .int r233]) (H' := (bk0 s214 s215 s216 s217 s218 s219 s220 s221 s222 s223 s224 s225 s226 s227 s166 s167 s228 s229 s230 s231 s232 [])) rfl ?_
        by_cases hc165 : v17 = (0 : Int32)
        · simp only [if_pos hc165] at h
          refine OEndsQ.ifF hm_0 rfl ((teq hc165).2) ?_
          refine OEndsQ.adv hm_0 2 (pc' := 438) (L' := [qi v0, qi v1, qu, qu, qu, qi v5, qi v6, qi v7, qu, qu, qi v10, qi v11, qu, qi v13, qi v14, qi v15, qi v16, qi v17, qi t0, qr 0, qi r173, qi r193, qi r213]) (S' := [.int 1, .int r233]) (H' := (bk0 s214 s215 s216 s217 s218 s219 s220 s221 s222 s223 s224 s225 s226 s227 s166 s167 s228 s229 s230 s231 s232 [])) rfl ?_
          exact ok_L_law_438 h
        · simp only [if_neg hc165] at h
          refine OEndsQ.ifT hm_0 rfl (q := 437) rfl ((feq hc165).2) ?_
          refine OEndsQ.adv hm_0 1 (pc' := 438) (L' := [qi v0, qi v1, qu, qu, qu, qi v5, qi v6, qi v7, qu, qu, qi v10, qi v11, qu, qi v13, qi v14, qi v15, qi v16, qi v17, qi t0, qr 0, qi r173, qi r193, qi r213]) (S' := [.int 2, .int r233]) (H' := (bk0 s214 s215 s216 s217 s218 s219 s220 s221 s222 s223 s224 s225 s226 s227 s166 s167 s228 s229 s230 s231 s232 [])) rfl ?_
          exact ok_L_law_438 h
      · simp only [if_neg hc163] at h
        refine OEndsQ.icmpF hm_0 rfl ((feq hc163).1) ?_
        refine OEndsQ.adv hm_0 1 (pc' := 422) (L' := [qi v0, qi v1, qu, qu, qu, qi v5, qi v6, qi v7, qu, qu, qi v10, qi v11, qu, qi v13, qi v14, qi v15, qi v16, qi v17, qi t0, qr 0, qi r173, qi r193, qi r213]) (S' := [.int 0]) (H' := (bk0 s214 s215 s216 s217 s218 s219 s220 s221 s222 s223 s224 s225 s226 s227 s166 s167 s228 s229 s230 s231 s232 [])) rfl ?_
        cases h
        exact OEndsQ.iret hm_0 rfl rfl
    · simp only [if_neg hc162] at h
      refine OEndsQ.icmpT hm_0 rfl (q := 421) rfl ((feq hc162).2) ?_
      refine OEndsQ.adv hm_0 1 (pc' := 422) (L' := [qi v0, qi v1, qu, qu, qu, qi v5, qi v6, qi v7, qu, qu, qi v10, qi v11, qu, qi v13, qi v14, qi v15, qi v16, qi v17, qi t0, qr 0, qi r173, qi r193, qi r213]) (S' := [.int 0]) (H' := (bk0 s214 s215 s216 s217 s218 s219 s220 s221 s222 s223 s224 s225 s226 s227 s166 s167 s228 s229 s230 s231 s232 [])) rfl ?_
      cases h
      exact OEndsQ.iret hm_0 rfl rfl
  · simp only [if_neg hc161] at h
    refine OEndsQ.icmpT hm_0 rfl (q := 421) rfl ((feq hc161).2) ?_
    refine OEndsQ.adv hm_0 1 (pc' := 422) (L' := [qi v0, qi v1, qu, qu, qu, qi v5, qi v6, qi v7, qu, qu, qi v10, qi v11, qu, qi v13, qi v14, qi v15, qi v16, qi v17, qi t0, qr 0, qi r173, qi r193, qi r213]) (S' := [.int 0]) (H' := (bk0 s214 s215 s216 s217 s218 s219 s220 s221 s222 s223 s224 s225 s226 s227 s166 s167 s228 s229 s230 s231 s232 [])) rfl ?_
    cases h
    exact OEndsQ.iret hm_0 rfl rfl
theorem ok_L_law_337 : ∀ {v0 v1 v5 v6 v7 v10 v11 v13 v14 v15 v16 t0 : Int32} {d2 d3 d4 d8 d9 d12 d17 d18 d19 d20 d21 d22 : Slot} {res : Int32}, f_L_law_337 v0 v1 v5 v6 v7 v10 v11 v13 v14 v15 v16 t0 = some res → OEndsQ own_P 0 337 [qi v0, qi v1, d2, d3, d4, qi v5, qi v6, qi v7, d8, d9, qi v10, qi v11, d12, qi v13, qi v14, qi v15, qi v16, d17, d18, d19, d20, d21, d22] [.int t0] [] (LawQ res 15 2261) := by
  intro v0 v1 v5 v6 v7 v10 v11 v13 v14 v15 v16 t0 d2 d3 d4 d8 d9 d12 d17 d18 d19 d20 d21 d22 res h
  unfold f_L_law_337 at h
  refine OEndsQ.adv hm_0 3 (pc' := 342) (L' := [qi v0, qi v1, qu, qu, qu, qi v5, qi v6, qi v7, qu, qu, qi v10, qi v11, qu, qi v13, qi v14, qi v15, qi v16, qi t0, qu, qu, qu, qu, qu]) (S' := [.int 2, .int t0]) (H' := []) rfl ?_
  by_cases hc166 : t0 = (2 : Int32)
  · simp only [if_pos hc166] at h
    refine OEndsQ.icmpF hm_0 rfl ((teq hc166).2) ?_
    refine OEndsQ.adv hm_0 2 (pc' := 351) (L' := [qi v0, qi v1, qu, qu, qu, qi v5, qi v6, qi v7, qu, qu, qi v10, qi v11, qu, qi v13, qi v14, qi v15, qi v16, qi t0, qu, qu, qu, qu, qu]) (S' := [.int v13]) (H' := []) rfl ?_
    exact ok_L_law_351 h
  · simp only [if_neg hc166] at h
    refine OEndsQ.icmpT hm_0 rfl (q := 350) rfl ((feq hc166).2) ?_
    refine OEndsQ.adv hm_0 1 (pc' := 351) (L' := [qi v0, qi v1, qu, qu, qu, qi v5, qi v6, qi v7, qu, qu, qi v10, qi v11, qu, qi v13, qi v14, qi v15, qi v16, qi t0, qu, qu, qu, qu, qu]) (S' := [.int 0]) (H' := []) rfl ?_
    exact ok_L_law_351 h
theorem ok_L_law_320 : ∀ {v0 v1 v5 v6 v7 v10 v11 v13 v14 v15 t0 : Int32} {d2 d3 d4 d8 d9 d12 d16 d17 d18 d19 d20 d21 d22 : Slot} {res : Int32}, f_L_law_320 v0 v1 v5 v6 v7 v10 v11 v13 v14 v15 t0 = some res → OEndsQ own_P 0 320 [qi v0, qi v1, d2, d3, d4, qi v5, qi v6, qi v7, d8, d9, qi v10, qi v11, d12, qi v13, qi v14, qi v15, d16, d17, d18, d19, d20, d21, d22] [.int t0] [] (LawQ res 15 2261) := by
  intro v0 v1 v5 v6 v7 v10 v11 v13 v14 v15 t0 d2 d3 d4 d8 d9 d12 d16 d17 d18 d19 d20 d21 d22 res h
  unfold f_L_law_320 at h
  refine OEndsQ.adv hm_0 2 (pc' := 324) (L' := [qi v0, qi v1, qu, qu, qu, qi v5, qi v6, qi v7, qu, qu, qi v10, qi v11, qu, qi v13, qi v14, qi v15, qi t0, qu, qu, qu, qu, qu, qu]) (S' := [.int v11]) (H' := []) rfl ?_
  by_cases hc167 : (0 : Int32) < v11
  · simp only [if_pos hc167] at h
    refine OEndsQ.ifF hm_0 rfl ((tlt hc167).2.2.2) ?_
    refine OEndsQ.adv hm_0 1 (pc' := 329) (L' := [qi v0, qi v1, qu, qu, qu, qi v5, qi v6, qi v7, qu, qu, qi v10, qi v11, qu, qi v13, qi v14, qi v15, qi t0, qu, qu, qu, qu, qu, qu]) (S' := [.int v13]) (H' := []) rfl ?_
    by_cases hc168 : (0 : Int32) < v13
    · simp only [if_pos hc168] at h
      refine OEndsQ.ifF hm_0 rfl ((tlt hc168).2.2.2) ?_
      refine OEndsQ.adv hm_0 2 (pc' := 337) (L' := [qi v0, qi v1, qu, qu, qu, qi v5, qi v6, qi v7, qu, qu, qi v10, qi v11, qu, qi v13, qi v14, qi v15, qi t0, qu, qu, qu, qu, qu, qu]) (S' := [.int 2]) (H' := []) rfl ?_
      exact ok_L_law_337 h
    · simp only [if_neg hc168] at h
      refine OEndsQ.ifT hm_0 rfl (q := 336) rfl ((flt hc168).2.2.2) ?_
      refine OEndsQ.adv hm_0 1 (pc' := 337) (L' := [qi v0, qi v1, qu, qu, qu, qi v5, qi v6, qi v7, qu, qu, qi v10, qi v11, qu, qi v13, qi v14, qi v15, qi t0, qu, qu, qu, qu, qu, qu]) (S' := [.int 0]) (H' := []) rfl ?_
      exact ok_L_law_337 h
  · simp only [if_neg hc167] at h
    refine OEndsQ.ifT hm_0 rfl (q := 336) rfl ((flt hc167).2.2.2) ?_
    refine OEndsQ.adv hm_0 1 (pc' := 337) (L' := [qi v0, qi v1, qu, qu, qu, qi v5, qi v6, qi v7, qu, qu, qi v10, qi v11, qu, qi v13, qi v14, qi v15, qi t0, qu, qu, qu, qu, qu, qu]) (S' := [.int 0]) (H' := []) rfl ?_
    exact ok_L_law_337 h
theorem ok_L_law_306 : ∀ {v0 v1 v5 v6 v7 v10 v11 v13 v14 t0 : Int32} {d2 d3 d4 d8 d9 d12 d15 d16 d17 d18 d19 d20 d21 d22 : Slot} {res : Int32}, f_L_law_306 v0 v1 v5 v6 v7 v10 v11 v13 v14 t0 = some res → OEndsQ own_P 0 306 [qi v0, qi v1, d2, d3, d4, qi v5, qi v6, qi v7, d8, d9, qi v10, qi v11, d12, qi v13, qi v14, d15, d16, d17, d18, d19, d20, d21, d22] [.int t0] [] (LawQ res 15 2261) := by
  intro v0 v1 v5 v6 v7 v10 v11 v13 v14 t0 d2 d3 d4 d8 d9 d12 d15 d16 d17 d18 d19 d20 d21 d22 res h
  unfold f_L_law_306 at h
  refine OEndsQ.adv hm_0 2 (pc' := 310) (L' := [qi v0, qi v1, qu, qu, qu, qi v5, qi v6, qi v7, qu, qu, qi v10, qi v11, qu, qi v13, qi v14, qi t0, qu, qu, qu, qu, qu, qu, qu]) (S' := [.int v11]) (H' := []) rfl ?_
  by_cases hc169 : (0 : Int32) < v11
  · simp only [if_pos hc169] at h
    refine OEndsQ.ifF hm_0 rfl ((tlt hc169).2.2.2) ?_
    refine OEndsQ.adv hm_0 2 (pc' := 320) (L' := [qi v0, qi v1, qu, qu, qu, qi v5, qi v6, qi v7, qu, qu, qi v10, qi v11, qu, qi v13, qi v14, qi t0, qu, qu, qu, qu, qu, qu, qu]) (S' := [.int v11]) (H' := []) rfl ?_
    exact ok_L_law_320 h
  · simp only [if_neg hc169] at h
    refine OEndsQ.ifT hm_0 rfl (q := 318) rfl ((flt hc169).2.2.2) ?_
    refine OEndsQ.adv hm_0 1 (pc' := 320) (L' := [qi v0, qi v1, qu, qu, qu, qi v5, qi v6, qi v7, qu, qu, qi v10, qi v11, qu, qi v13, qi v14, qi t0, qu, qu, qu, qu, qu, qu, qu]) (S' := [.int v13]) (H' := []) rfl ?_
    exact ok_L_law_320 h
theorem ok_L_law_289 : ∀ {v0 v1 v5 v6 v7 v10 v11 v13 : Int32} {d2 d3 d4 d8 d9 d12 d14 d15 d16 d17 d18 d19 d20 d21 d22 : Slot} {res : Int32}, f_L_law_289 v0 v1 v5 v6 v7 v10 v11 v13 = some res → OEndsQ own_P 0 289 [qi v0, qi v1, d2, d3, d4, qi v5, qi v6, qi v7, d8, d9, qi v10, qi v11, d12, qi v13, d14, d15, d16, d17, d18, d19, d20, d21, d22] [] [] (LawQ res 15 2261) := by
  intro v0 v1 v5 v6 v7 v10 v11 v13 d2 d3 d4 d8 d9 d12 d14 d15 d16 d17 d18 d19 d20 d21 d22 res h
  unfold f_L_law_289 at h
  refine OEndsQ.adv hm_0 5 (pc' := 298) (L' := [qi v0, qi v1, qu, qu, qu, qi v5, qi v6, qi v7, qu, qu, qi v10, qi v11, qu, qi v13, qi (v7 - v10), qu, qu, qu, qu, qu, qu, qu, qu]) (S' := [.int v11]) (H' := []) rfl ?_
  by_cases hc170 : (0 : Int32) < v11
  · simp only [if_pos hc170] at h
    refine OEndsQ.ifF hm_0 rfl ((tlt hc170).2.2.2) ?_
    refine OEndsQ.adv hm_0 2 (pc' := 306) (L' := [qi v0, qi v1, qu, qu, qu, qi v5, qi v6, qi v7, qu, qu, qi v10, qi v11, qu, qi v13, qi (v7 - v10), qu, qu, qu, qu, qu, qu, qu, qu]) (S' := [.int 1]) (H' := []) rfl ?_
    exact ok_L_law_306 h
  · simp only [if_neg hc170] at h
    refine OEndsQ.ifT hm_0 rfl (q := 305) rfl ((flt hc170).2.2.2) ?_
    refine OEndsQ.adv hm_0 1 (pc' := 306) (L' := [qi v0, qi v1, qu, qu, qu, qi v5, qi v6, qi v7, qu, qu, qi v10, qi v11, qu, qi v13, qi (v7 - v10), qu, qu, qu, qu, qu, qu, qu, qu]) (S' := [.int 2]) (H' := []) rfl ?_
    exact ok_L_law_306 h
theorem ok_L_law_280 : ∀ {v0 v1 v5 v6 v7 v10 v11 v13 t0 : Int32} {d2 d3 d4 d8 d9 d12 d14 d15 d16 d17 d18 d19 d20 d21 d22 : Slot} {res : Int32}, f_L_law_280 v0 v1 v5 v6 v7 v10 v11 v13 t0 = some res → OEndsQ own_P 0 280 [qi v0, qi v1, d2, d3, d4, qi v5, qi v6, qi v7, d8, d9, qi v10, qi v11, d12, qi v13, d14, d15, d16, d17, d18, d19, d20, d21, d22] [.int t0] [] (LawQ res 15 2261) := by
  intro v0 v1 v5 v6 v7 v10 v11 v13 t0 d2 d3 d4 d8 d9 d12 d14 d15 d16 d17 d18 d19 d20 d21 d22 res h
  unfold f_L_law_280 at h
  refine OEndsQ.adv hm_0 5 (pc' := 289) (L' := [qi v0, qi v1, qu, qu, qu, qi v5, qi v6, qi v7, qu, qu, qi v10, qi v11, qu, qi (v13 + t0), qu, qu, qu, qu, qi t0, qu, qu, qu, qu]) (S' := []) (H' := []) rfl ?_
  exact ok_L_law_289 h
theorem ok_L_law_244 : ∀ {v0 v1 v5 v6 v7 v10 v11 v13 v17 t0 : Int32} {d2 d3 d4 d8 d9 d12 d14 d15 d16 d18 d19 d20 d21 d22 : Slot} {res : Int32}, f_L_law_244 v0 v1 v5 v6 v7 v10 v11 v13 v17 t0 = some res → OEndsQ own_P 0 244 [qi v0, qi v1, d2, d3, d4, qi v5, qi v6, qi v7, d8, d9, qi v10, qi v11, d12, qi v13, d14, d15, d16, qi v17, d18, d19, d20, d21, d22] [.int t0] [] (LawQ res 15 2261) := by
  intro v0 v1 v5 v6 v7 v10 v11 v13 v17 t0 d2 d3 d4 d8 d9 d12 d14 d15 d16 d18 d19 d20 d21 d22 res h
  unfold f_L_law_244 at h
  refine OEndsQ.adv hm_0 13 (pc' := 267) (L' := [qi v0, qi v1, qu, qu, qu, qi v5, qi v6, qi v7, qu, qu, qi v10, qi (v11 + t0), qu, qi v13, qu, qu, qu, qi (v17 - t0), qi t0, qu, qu, qu, qu]) (S' := [.int (v6 - v13), .int (v17 - t0)]) (H' := []) rfl ?_
  by_cases hc171 : (v17 - t0) < (v6 - v13)
  · simp only [if_pos hc171] at h
    refine OEndsQ.icmpF hm_0 rfl ((tlt hc171).2.1) ?_
    refine OEndsQ.adv hm_0 2 (pc' := 280) (L' := [qi v0, qi v1, qu, qu, qu, qi v5, qi v6, qi v7, qu, qu, qi v10, qi (v11 + t0), qu, qi v13, qu, qu, qu, qi (v17 - t0), qi t0, qu, qu, qu, qu]) (S' := [.int (v17 - t0)]) (H' := []) rfl ?_
    exact ok_L_law_280 h
  · simp only [if_neg hc171] at h
    refine OEndsQ.icmpT hm_0 rfl (q := 275) rfl ((flt hc171).2.1) ?_
    refine OEndsQ.adv hm_0 3 (pc' := 280) (L' := [qi v0, qi v1, qu, qu, qu, qi v5, qi v6, qi v7, qu, qu, qi v10, qi (v11 + t0), qu, qi v13, qu, qu, qu, qi (v17 - t0), qi t0, qu, qu, qu, qu]) (S' := [.int (v6 - v13)]) (H' := []) rfl ?_
    exact ok_L_law_280 h
theorem ok_L_law_200 : ∀ {v0 v1 v5 v6 v7 v10 v11 v12 v13 v15 v16 : Int32} {d2 d3 d4 d8 d9 d14 d17 d18 d19 d20 d21 d22 : Slot} {res : Int32}, f_L_law_200 v0 v1 v5 v6 v7 v10 v11 v12 v13 v15 v16 = some res → OEndsQ own_P 0 200 [qi v0, qi v1, d2, d3, d4, qi v5, qi v6, qi v7, d8, d9, qi v10, qi v11, qi v12, qi v13, d14, qi v15, qi v16, d17, d18, d19, d20, d21, d22] [] [] (LawQ res 15 2261) := by
  intro v0 v1 v5 v6 v7 v10 v11 v12 v13 v15 v16 d2 d3 d4 d8 d9 d14 d17 d18 d19 d20 d21 d22 res h
  unfold f_L_law_200 at h
  refine OEndsQ.adv hm_0 18 (pc' := 231) (L' := [qi v0, qi v1, qu, qu, qu, qi v5, qi v6, qi v7, qu, qu, qi v10, qi (v11 + v15), qi v12, qi (v13 + v16), qu, qi v15, qi v16, qi ((v12 - v15) - v16), qu, qu, qu, qu, qu]) (S' := [.int (v5 - (v11 + v15)), .int ((v12 - v15) - v16)]) (H' := []) rfl ?_
  by_cases hc172 : ((v12 - v15) - v16) < (v5 - (v11 + v15))
  · simp only [if_pos hc172] at h
    refine OEndsQ.icmpF hm_0 rfl ((tlt hc172).2.1) ?_
    refine OEndsQ.adv hm_0 2 (pc' := 244) (L' := [qi v0, qi v1, qu, qu, qu, qi v5, qi v6, qi v7, qu, qu, qi v10, qi (v11 + v15), qi v12, qi (v13 + v16), qu, qi v15, qi v16, qi ((v12 - v15) - v16), qu, qu, qu, qu, qu]) (S' := [.int ((v12 - v15) - v16)]) (H' := []) rfl ?_
    exact ok_L_law_244 h
  · simp only [if_neg hc172] at h
    refine OEndsQ.icmpT hm_0 rfl (q := 239) rfl ((flt hc172).2.1) ?_
    refine OEndsQ.adv hm_0 3 (pc' := 244) (L' := [qi v0, qi v1, qu, qu, qu, qi v5, qi v6, qi v7, qu, qu, qi v10, qi (v11 + v15), qi v12, qi (v13 + v16), qu, qi v15, qi v16, qi ((v12 - v15) - v16), qu, qu, qu, qu, qu]) (S' := [.int (v5 - (v11 + v15))]) (H' := []) rfl ?_
    exact ok_L_law_244 h
theorem ok_L_law_190 : ∀ {v0 v1 v5 v6 v7 v8 v10 v11 v12 v13 v15 v16 : Int32} {d2 d3 d4 d9 d14 d17 d18 d19 d20 d21 d22 : Slot} {res : Int32}, f_L_law_190 v0 v1 v5 v6 v7 v8 v10 v11 v12 v13 v15 v16 = some res → OEndsQ own_P 0 190 [qi v0, qi v1, d2, d3, d4, qi v5, qi v6, qi v7, qi v8, d9, qi v10, qi v11, qi v12, qi v13, d14, qi v15, qi v16, d17, d18, d19, d20, d21, d22] [] [] (LawQ res 15 2261) := by
  intro v0 v1 v5 v6 v7 v8 v10 v11 v12 v13 v15 v16 d2 d3 d4 d9 d14 d17 d18 d19 d20 d21 d22 res h
  unfold f_L_law_190 at h
  refine OEndsQ.adv hm_0 2 (pc' := 194) (L' := [qi v0, qi v1, qu, qu, qu, qi v5, qi v6, qi v7, qi v8, qu, qi v10, qi v11, qi v12, qi v13, qu, qi v15, qi v16, qu, qu, qu, qu, qu, qu]) (S' := [.int v8, .int v16]) (H' := []) rfl ?_
  by_cases hc173 : v16 < v8
  · simp only [if_pos hc173] at h
    refine OEndsQ.icmpF hm_0 rfl ((tlt hc173).2.1) ?_
    refine OEndsQ.adv hm_0 2 (pc' := 200) (L' := [qi v0, qi v1, qu, qu, qu, qi v5, qi v6, qi v7, qi v8, qu, qi v10, qi v11, qi v12, qi v13, qu, qi v15, qi 0, qu, qu, qu, qu, qu, qu]) (S' := []) (H' := []) rfl ?_
    exact ok_L_law_200 h
  · simp only [if_neg hc173] at h
    refine OEndsQ.icmpT hm_0 rfl (q := 200) rfl ((flt hc173).2.1) ?_
    show OEndsQ own_P 0 200 [qi v0, qi v1, qu, qu, qu, qi v5, qi v6, qi v7, qi v8, qu, qi v10, qi v11, qi v12, qi v13, qu, qi v15, qi v16, qu, qu, qu, qu, qu, qu] [] [] _
    exact ok_L_law_200 h
theorem ok_L_law_132 : ∀ {v0 v1 v5 v6 v7 v8 v10 v11 : Int32} {d2 d3 d4 d9 d12 d13 d14 d15 d16 d17 d18 d19 d20 d21 d22 : Slot} {res : Int32}, f_L_law_132 v0 v1 v5 v6 v7 v8 v10 v11 = some res → OEndsQ own_P 0 132 [qi v0, qi v1, d2, d3, d4, qi v5, qi v6, qi v7, qi v8, d9, qi v10, qi v11, d12, d13, d14, d15, d16, d17, d18, d19, d20, d21, d22] [] [] (LawQ res 15 2261) := by
  intro v0 v1 v5 v6 v7 v8 v10 v11 d2 d3 d4 d9 d12 d13 d14 d15 d16 d17 d18 d19 d20 d21 d22 res h
  unfold f_L_law_132 at h
  refine OEndsQ.adv hm_0 7 (pc' := 144) (L' := [qi v0, qi v1, qu, qu, qu, qi v5, qi v6, qi v7, qi v8, qu, qi v10, qi v11, qi (v10 - v11), qi 0, qu, qu, qu, qu, qu, qu, qu, qu, qu]) (S' := [.int (v10 - v11)]) (H' := []) rfl ?_
  by_cases hc174 : (0 : Int32) < (v10 - v11)
  · simp only [if_pos hc174] at h
    refine OEndsQ.ifF hm_0 rfl ((tlt hc174).2.2.2) ?_
    refine OEndsQ.adv hm_0 12 (pc' := 167) (L' := [qi v0, qi v1, qu, qu, qu, qi v5, qi v6, qi v7, qi v8, qu, qi v10, qi v11, qi (v10 - v11), qi 0, qi ((v5 - v11) + v6), qu, qu, qu, qu, qu, qu, qu, qu]) (S' := [.int ((v5 - v11) + v6), .int ((v10 - v11) * (v5 - v11))]) (H' := []) rfl ?_
    by_cases hz175 : ((v5 - v11) + v6) = 0
    · simp only [if_pos hz175] at h
      cases h
    simp only [if_neg hz175] at h
    refine OEndsQ.plain hm_0 rfl rfl (x_idiv hz175) ?_
    refine OEndsQ.adv hm_0 5 (pc' := 177) (L' := [qi v0, qi v1, qu, qu, qu, qi v5, qi v6, qi v7, qi v8, qu, qi v10, qi v11, qi (v10 - v11), qi 0, qi ((v5 - v11) + v6), qi (((v10 - v11) * (v5 - v11)) / ((v5 - v11) + v6)), qu, qu, qu, qu, qu, qu, qu]) (S' := [.int ((v5 - v11) + v6), .int ((v10 - v11) * v6)]) (H' := []) rfl ?_
    refine OEndsQ.plain hm_0 rfl rfl (x_idiv hz175) ?_
    refine OEndsQ.adv hm_0 3 (pc' := 184) (L' := [qi v0, qi v1, qu, qu, qu, qi v5, qi v6, qi v7, qi v8, qu, qi v10, qi v11, qi (v10 - v11), qi 0, qi ((v5 - v11) + v6), qi (((v10 - v11) * (v5 - v11)) / ((v5 - v11) + v6)), qi (((v10 - v11) * v6) / ((v5 - v11) + v6)), qu, qu, qu, qu, qu, qu]) (S' := [.int v8, .int (((v10 - v11) * (v5 - v11)) / ((v5 - v11) + v6))]) (H' := []) rfl ?_
    by_cases hc176 : (((v10 - v11) * (v5 - v11)) / ((v5 - v11) + v6)) < v8
    · simp only [if_pos hc176] at h
      refine OEndsQ.icmpF hm_0 rfl ((tlt hc176).2.1) ?_
      refine OEndsQ.adv hm_0 2 (pc' := 190) (L' := [qi v0, qi v1, qu, qu, qu, qi v5, qi v6, qi v7, qi v8, qu, qi v10, qi v11, qi (v10 - v11), qi 0, qi ((v5 - v11) + v6), qi 0, qi (((v10 - v11) * v6) / ((v5 - v11) + v6)), qu, qu, qu, qu, qu, qu]) (S' := []) (H' := []) rfl ?_
      exact ok_L_law_190 h
    · simp only [if_neg hc176] at h
      refine OEndsQ.icmpT hm_0 rfl (q := 190) rfl ((flt hc176).2.1) ?_
      show OEndsQ own_P 0 190 [qi v0, qi v1, qu, qu, qu, qi v5, qi v6, qi v7, qi v8, qu, qi v10, qi v11, qi (v10 - v11), qi 0, qi ((v5 - v11) + v6), qi (((v10 - v11) * (v5 - v11)) / ((v5 - v11) + v6)), qi (((v10 - v11) * v6) / ((v5 - v11) + v6)), qu, qu, qu, qu, qu, qu] [] [] _
      exact ok_L_law_190 h
  · simp only [if_neg hc174] at h
    refine OEndsQ.ifT hm_0 rfl (q := 289) rfl ((flt hc174).2.2.2) ?_
    show OEndsQ own_P 0 289 [qi v0, qi v1, qu, qu, qu, qi v5, qi v6, qi v7, qi v8, qu, qi v10, qi v11, qi (v10 - v11), qi 0, qu, qu, qu, qu, qu, qu, qu, qu, qu] [] [] _
    exact ok_L_law_289 h
theorem ok_L_law_119 : ∀ {v0 v1 v5 v6 v7 v8 v9 v10 t0 : Int32} {d2 d3 d4 d11 d12 d13 d14 d15 d16 d17 d18 d19 d20 d21 d22 : Slot} {res : Int32}, f_L_law_119 v0 v1 v5 v6 v7 v8 v9 v10 t0 = some res → OEndsQ own_P 0 119 [qi v0, qi v1, d2, d3, d4, qi v5, qi v6, qi v7, qi v8, qi v9, qi v10, d11, d12, d13, d14, d15, d16, d17, d18, d19, d20, d21, d22] [.int t0] [] (LawQ res 15 2261) := by
  intro v0 v1 v5 v6 v7 v8 v9 v10 t0 d2 d3 d4 d11 d12 d13 d14 d15 d16 d17 d18 d19 d20 d21 d22 res h
  unfold f_L_law_119 at h
  refine OEndsQ.adv hm_0 3 (pc' := 125) (L' := [qi v0, qi v1, qu, qu, qu, qi v5, qi v6, qi v7, qi v8, qi v9, qi v10, qi t0, qu, qu, qu, qu, qu, qu, qu, qu, qu, qu, qu]) (S' := [.int t0, .int v9]) (H' := []) rfl ?_
  by_cases hc177 : v9 < t0
  · simp only [if_pos hc177] at h
    refine OEndsQ.icmpF hm_0 rfl ((tlt hc177).2.1) ?_
    refine OEndsQ.adv hm_0 2 (pc' := 132) (L' := [qi v0, qi v1, qu, qu, qu, qi v5, qi v6, qi v7, qi v8, qi v9, qi v10, qi v9, qu, qu, qu, qu, qu, qu, qu, qu, qu, qu, qu]) (S' := []) (H' := []) rfl ?_
    exact ok_L_law_132 h
  · simp only [if_neg hc177] at h
    refine OEndsQ.icmpT hm_0 rfl (q := 132) rfl ((flt hc177).2.1) ?_
    show OEndsQ own_P 0 132 [qi v0, qi v1, qu, qu, qu, qi v5, qi v6, qi v7, qi v8, qi v9, qi v10, qi t0, qu, qu, qu, qu, qu, qu, qu, qu, qu, qu, qu] [] [] _
    exact ok_L_law_132 h
theorem ok_L_law_95 : ∀ {v0 v1 v5 v6 v7 v8 v9 t0 : Int32} {d2 d3 d4 d10 d11 d12 d13 d14 d15 d16 d17 d18 d19 d20 d21 d22 : Slot} {res : Int32}, f_L_law_95 v0 v1 v5 v6 v7 v8 v9 t0 = some res → OEndsQ own_P 0 95 [qi v0, qi v1, d2, d3, d4, qi v5, qi v6, qi v7, qi v8, qi v9, d10, d11, d12, d13, d14, d15, d16, d17, d18, d19, d20, d21, d22] [.int t0] [] (LawQ res 15 2261) := by
  intro v0 v1 v5 v6 v7 v8 v9 t0 d2 d3 d4 d10 d11 d12 d13 d14 d15 d16 d17 d18 d19 d20 d21 d22 res h
  unfold f_L_law_95 at h
  refine OEndsQ.adv hm_0 4 (pc' := 102) (L' := [qi v0, qi v1, qu, qu, qu, qi v5, qi v6, qi v7, qi v8, qi v9, qi t0, qi 0, qu, qu, qu, qu, qu, qu, qu, qu, qu, qu, qu]) (S' := [.int v9]) (H' := []) rfl ?_
  by_cases hc178 : (0 : Int32) < v9
  · simp only [if_pos hc178] at h
    refine OEndsQ.ifF hm_0 rfl ((tlt hc178).2.2.2) ?_
    refine OEndsQ.adv hm_0 2 (pc' := 109) (L' := [qi v0, qi v1, qu, qu, qu, qi v5, qi v6, qi v7, qi v8, qi v9, qi t0, qi 0, qu, qu, qu, qu, qu, qu, qu, qu, qu, qu, qu]) (S' := [.int v5, .int t0]) (H' := []) rfl ?_
    by_cases hc179 : t0 < v5
    · simp only [if_pos hc179] at h
      refine OEndsQ.icmpF hm_0 rfl ((tlt hc179).2.1) ?_
      refine OEndsQ.adv hm_0 2 (pc' := 119) (L' := [qi v0, qi v1, qu, qu, qu, qi v5, qi v6, qi v7, qi v8, qi v9, qi t0, qi 0, qu, qu, qu, qu, qu, qu, qu, qu, qu, qu, qu]) (S' := [.int t0]) (H' := []) rfl ?_
      exact ok_L_law_119 h
    · simp only [if_neg hc179] at h
      refine OEndsQ.icmpT hm_0 rfl (q := 117) rfl ((flt hc179).2.1) ?_
      refine OEndsQ.adv hm_0 1 (pc' := 119) (L' := [qi v0, qi v1, qu, qu, qu, qi v5, qi v6, qi v7, qi v8, qi v9, qi t0, qi 0, qu, qu, qu, qu, qu, qu, qu, qu, qu, qu, qu]) (S' := [.int v5]) (H' := []) rfl ?_
      exact ok_L_law_119 h
  · simp only [if_neg hc178] at h
    refine OEndsQ.ifT hm_0 rfl (q := 132) rfl ((flt hc178).2.2.2) ?_
    show OEndsQ own_P 0 132 [qi v0, qi v1, qu, qu, qu, qi v5, qi v6, qi v7, qi v8, qi v9, qi t0, qi 0, qu, qu, qu, qu, qu, qu, qu, qu, qu, qu, qu] [] [] _
    exact ok_L_law_132 h
theorem ok_L_law_73 : ∀ {v0 v1 v5 v6 v7 v8 t0 : Int32} {d2 d3 d4 d9 d10 d11 d12 d13 d14 d15 d16 d17 d18 d19 d20 d21 d22 : Slot} {res : Int32}, f_L_law_73 v0 v1 v5 v6 v7 v8 t0 = some res → OEndsQ own_P 0 73 [qi v0, qi v1, d2, d3, d4, qi v5, qi v6, qi v7, qi v8, d9, d10, d11, d12, d13, d14, d15, d16, d17, d18, d19, d20, d21, d22] [.int t0] [] (LawQ res 15 2261) := by
  intro v0 v1 v5 v6 v7 v8 t0 d2 d3 d4 d9 d10 d11 d12 d13 d14 d15 d16 d17 d18 d19 d20 d21 d22 res h
  unfold f_L_law_73 at h
  refine OEndsQ.adv hm_0 5 (pc' := 82) (L' := [qi v0, qi v1, qu, qu, qu, qi v5, qi v6, qi v7, qi v8, qi t0, qu, qu, qu, qu, qu, qu, qu, qu, qu, qu, qu, qu, qu]) (S' := [.int (v5 + v6), .int v7]) (H' := []) rfl ?_
  by_cases hc180 : v7 < (v5 + v6)
  · simp only [if_pos hc180] at h
    refine OEndsQ.icmpF hm_0 rfl ((tlt hc180).2.1) ?_
    refine OEndsQ.adv hm_0 2 (pc' := 95) (L' := [qi v0, qi v1, qu, qu, qu, qi v5, qi v6, qi v7, qi v8, qi t0, qu, qu, qu, qu, qu, qu, qu, qu, qu, qu, qu, qu, qu]) (S' := [.int v7]) (H' := []) rfl ?_
    exact ok_L_law_95 h
  · simp only [if_neg hc180] at h
    refine OEndsQ.icmpT hm_0 rfl (q := 90) rfl ((flt hc180).2.1) ?_
    refine OEndsQ.adv hm_0 3 (pc' := 95) (L' := [qi v0, qi v1, qu, qu, qu, qi v5, qi v6, qi v7, qi v8, qi t0, qu, qu, qu, qu, qu, qu, qu, qu, qu, qu, qu, qu, qu]) (S' := [.int (v5 + v6)]) (H' := []) rfl ?_
    exact ok_L_law_95 h
theorem ok_L_law_49 : ∀ {v0 v1 v5 v6 v7 t0 : Int32} {d2 d3 d4 d8 d9 d10 d11 d12 d13 d14 d15 d16 d17 d18 d19 d20 d21 d22 : Slot} {res : Int32}, f_L_law_49 v0 v1 v5 v6 v7 t0 = some res → OEndsQ own_P 0 49 [qi v0, qi v1, d2, d3, d4, qi v5, qi v6, qi v7, d8, d9, d10, d11, d12, d13, d14, d15, d16, d17, d18, d19, d20, d21, d22] [.int t0] [] (LawQ res 15 2261) := by
  intro v0 v1 v5 v6 v7 t0 d2 d3 d4 d8 d9 d10 d11 d12 d13 d14 d15 d16 d17 d18 d19 d20 d21 d22 res h
  unfold f_L_law_49 at h
  refine OEndsQ.adv hm_0 2 (pc' := 52) (L' := [qi v0, qi v1, qu, qu, qu, qi v5, qi v6, qi v7, qi t0, qu, qu, qu, qu, qu, qu, qu, qu, qu, qu, qu, qu, qu, qu]) (S' := [.int v1]) (H' := []) rfl ?_
  by_cases hc181 : v1 < (0 : Int32)
  · simp only [if_pos hc181] at h
    refine OEndsQ.ifF hm_0 rfl ((tlt hc181).2.1) ?_
    refine OEndsQ.adv hm_0 2 (pc' := 73) (L' := [qi v0, qi v1, qu, qu, qu, qi v5, qi v6, qi v7, qi t0, qu, qu, qu, qu, qu, qu, qu, qu, qu, qu, qu, qu, qu, qu]) (S' := [.int 0]) (H' := []) rfl ?_
    exact ok_L_law_73 h
  · simp only [if_neg hc181] at h
    refine OEndsQ.ifT hm_0 rfl (q := 59) rfl ((flt hc181).2.1) ?_
    refine OEndsQ.adv hm_0 2 (pc' := 63) (L' := [qi v0, qi v1, qu, qu, qu, qi v5, qi v6, qi v7, qi t0, qu, qu, qu, qu, qu, qu, qu, qu, qu, qu, qu, qu, qu, qu]) (S' := [.int 10000, .int v1]) (H' := []) rfl ?_
    by_cases hc182 : (10000 : Int32) < v1
    · simp only [if_pos hc182] at h
      refine OEndsQ.icmpF hm_0 rfl ((tlt hc182).2.2.2) ?_
      refine OEndsQ.adv hm_0 2 (pc' := 73) (L' := [qi v0, qi v1, qu, qu, qu, qi v5, qi v6, qi v7, qi t0, qu, qu, qu, qu, qu, qu, qu, qu, qu, qu, qu, qu, qu, qu]) (S' := [.int 10000]) (H' := []) rfl ?_
      exact ok_L_law_73 h
    · simp only [if_neg hc182] at h
      refine OEndsQ.icmpT hm_0 rfl (q := 72) rfl ((flt hc182).2.2.2) ?_
      refine OEndsQ.adv hm_0 1 (pc' := 73) (L' := [qi v0, qi v1, qu, qu, qu, qi v5, qi v6, qi v7, qi t0, qu, qu, qu, qu, qu, qu, qu, qu, qu, qu, qu, qu, qu, qu]) (S' := [.int v1]) (H' := []) rfl ?_
      exact ok_L_law_73 h
theorem ok_L_law {v0 v1 v2 v3 v4 res : Int32} (h : f_L_law v0 v1 v2 v3 v4 = some res) : OEndsQ own_P 0 0 [qi v0, qi v1, qi v2, qi v3, qi v4, qu, qu, qu, qu, qu, qu, qu, qu, qu, qu, qu, qu, qu, qu, qu, qu, qu, qu] [] [] (LawQ res 15 2261) := by
  unfold f_L_law at h
  refine OEndsQ.adv hm_0 20 (pc' := 30) (L' := [qi v0, qi v1, qi v2, qi v3, qi v4, qi ((1 : Int32) + (v2 &&& (1023 : Int32))), qi ((1 : Int32) + (v3 &&& (1023 : Int32))), qi ((1 : Int32) + (v4 &&& (4095 : Int32))), qu, qu, qu, qu, qu, qu, qu, qu, qu, qu, qu, qu, qu, qu, qu]) (S' := [.int 1, .int v0]) (H' := []) rfl ?_
  by_cases hc183 : v0 < (1 : Int32)
  · simp only [if_pos hc183] at h
    refine OEndsQ.icmpF hm_0 rfl ((tlt hc183).2.1) ?_
    refine OEndsQ.adv hm_0 2 (pc' := 49) (L' := [qi v0, qi v1, qi v2, qi v3, qi v4, qi ((1 : Int32) + (v2 &&& (1023 : Int32))), qi ((1 : Int32) + (v3 &&& (1023 : Int32))), qi ((1 : Int32) + (v4 &&& (4095 : Int32))), qu, qu, qu, qu, qu, qu, qu, qu, qu, qu, qu, qu, qu, qu, qu]) (S' := [.int 1]) (H' := []) rfl ?_
    exact ok_L_law_49 h
  · simp only [if_neg hc183] at h
    refine OEndsQ.icmpT hm_0 rfl (q := 37) rfl ((flt hc183).2.1) ?_
    refine OEndsQ.adv hm_0 2 (pc' := 40) (L' := [qi v0, qi v1, qi v2, qi v3, qi v4, qi ((1 : Int32) + (v2 &&& (1023 : Int32))), qi ((1 : Int32) + (v3 &&& (1023 : Int32))), qi ((1 : Int32) + (v4 &&& (4095 : Int32))), qu, qu, qu, qu, qu, qu, qu, qu, qu, qu, qu, qu, qu, qu, qu]) (S' := [.int 100, .int v0]) (H' := []) rfl ?_
    by_cases hc184 : (100 : Int32) < v0
    · simp only [if_pos hc184] at h
      refine OEndsQ.icmpF hm_0 rfl ((tlt hc184).2.2.2) ?_
      refine OEndsQ.adv hm_0 2 (pc' := 49) (L' := [qi v0, qi v1, qi v2, qi v3, qi v4, qi ((1 : Int32) + (v2 &&& (1023 : Int32))), qi ((1 : Int32) + (v3 &&& (1023 : Int32))), qi ((1 : Int32) + (v4 &&& (4095 : Int32))), qu, qu, qu, qu, qu, qu, qu, qu, qu, qu, qu, qu, qu, qu, qu]) (S' := [.int 100]) (H' := []) rfl ?_
      exact ok_L_law_49 h
    · simp only [if_neg hc184] at h
      refine OEndsQ.icmpT hm_0 rfl (q := 48) rfl ((flt hc184).2.2.2) ?_
      refine OEndsQ.adv hm_0 1 (pc' := 49) (L' := [qi v0, qi v1, qi v2, qi v3, qi v4, qi ((1 : Int32) + (v2 &&& (1023 : Int32))), qi ((1 : Int32) + (v3 &&& (1023 : Int32))), qi ((1 : Int32) + (v4 &&& (4095 : Int32))), qu, qu, qu, qu, qu, qu, qu, qu, qu, qu, qu, qu, qu, qu, qu]) (S' := [.int v0]) (H' := []) rfl ?_
      exact ok_L_law_49 h
theorem own_iL {α : Type} {Q : α → Prop} {a b : Int32} {x y : Option α} (h1 : a.toInt < b.toInt → Tot x Q) (h2 : b.toInt ≤ a.toInt → Tot y Q) : Tot (if a < b then x else y) Q :=
  Tot.ite (fun c => h1 (ilt.mp c)) (fun c => h2 (by rw [ilt] at c; omega))
theorem own_iE {α : Type} {Q : α → Prop} {a b : Int32} {x y : Option α} (h1 : a = b → Tot x Q) (h2 : ¬ a = b → Tot y Q) : Tot (if a = b then x else y) Q :=
  Tot.ite h1 h2
theorem own_bs {α β : Type} {a : α} {f : α → Option β} {Q : β → Prop} (h : Tot (f a) Q) : Tot ((some a).bind f) Q := h
theorem own_p1 {a : Int32} (h : a.toInt < 2147483647) : (a + 1).toInt = a.toInt + 1 := by
  have := Int32.le_toInt a
  ((try simp only [ilt, ile, ieq, iadd_e, isub_e, imul_e, Int32.reduceToInt] at *) <;> omega)
theorem own_m1 {a : Int32} (h : -2147483648 < a.toInt) : (a - 1).toInt = a.toInt - 1 := by
  have := Int32.toInt_lt a
  ((try simp only [ilt, ile, ieq, iadd_e, isub_e, imul_e, Int32.reduceToInt] at *) <;> omega)
def own_R (L : List Int32) : Prop := ∀ x ∈ L, 0 ≤ x.toInt ∧ x.toInt < 256
theorem own_Rg {L : List Int32} (h : own_R L) {j : Int32} (h0 : 0 ≤ j.toInt) (h1 : j.toInt < L.length) : 0 ≤ (gI L j).toInt ∧ (gI L j).toInt < 256 := by
  have h2 : j.toInt.toNat < L.length := by omega
  unfold gI
  rw [rdA_in h0 h2]
  exact h _ (List.getElem_mem h2)
theorem own_Rs {L : List Int32} (h : own_R L) {j : Nat} {x : Int32} (x0 : 0 ≤ x.toInt) (x1 : x.toInt < 256) : own_R (L.set j x) := by
  intro y hy
  rcases List.mem_or_eq_of_mem_set hy with h' | h'
  · exact h y h'
  · rw [h']; exact ⟨x0, x1⟩
abbrev own_W (RI : List Int32) (RN acc : Int32) : Prop := (RI.length = 64) ∧ (0 ≤ RN.toInt) ∧ (RN.toInt ≤ 64) ∧ (own_R RI) ∧ (∀ i : Int32, 0 ≤ i.toInt → i.toInt < RN.toInt → 1 ≤ (gI RI i).toInt ∧ (gI RI i).toInt ≤ acc.toInt) ∧ (∀ i j : Int32, 0 ≤ i.toInt → i.toInt < RN.toInt → 0 ≤ j.toInt → j.toInt < RN.toInt → gI RI i = gI RI j → i = j)
theorem own_W.l {RI : List Int32} {RN acc : Int32} (self : own_W RI RN acc) : RI.length = 64 := self.1
theorem own_W.n0 {RI : List Int32} {RN acc : Int32} (self : own_W RI RN acc) : 0 ≤ RN.toInt := self.2.1
theorem own_W.n1 {RI : List Int32} {RN acc : Int32} (self : own_W RI RN acc) : RN.toInt ≤ 64 := self.2.2.1
theorem own_W.r {RI : List Int32} {RN acc : Int32} (self : own_W RI RN acc) : own_R RI := self.2.2.2.1
theorem own_W.e {RI : List Int32} {RN acc : Int32} (self : own_W RI RN acc) : ∀ i : Int32, 0 ≤ i.toInt → i.toInt < RN.toInt → 1 ≤ (gI RI i).toInt ∧ (gI RI i).toInt ≤ acc.toInt := self.2.2.2.2.1
theorem own_W.d {RI : List Int32} {RN acc : Int32} (self : own_W RI RN acc) : ∀ i j : Int32, 0 ≤ i.toInt → i.toInt < RN.toInt → 0 ≤ j.toInt → j.toInt < RN.toInt → gI RI i = gI RI j → i = j := self.2.2.2.2.2
def own_mem (RI : List Int32) (RN x : Int32) : Prop := ∃ j : Int32, 0 ≤ j.toInt ∧ j.toInt < RN.toInt ∧ gI RI j = x
theorem own_rm2 {RI : List Int32} {RN acc : Int32} (w : own_W RI RN acc) (v : Int32) : ∀ (n : Nat) (k : Int32), 0 ≤ k.toInt → k.toInt ≤ RN.toInt → RN.toInt - k.toInt < n → (∀ j : Int32, 0 ≤ j.toInt → j.toInt < k.toInt → gI RI j ≠ v) →
    Tot (f_removeResting_2 f_removeResting_20 n RI RN v k) (fun p => own_W p.1 p.2 acc ∧ p.2.toInt ≤ RN.toInt ∧ (∀ x, own_mem p.1 p.2 x ↔ own_mem RI RN x ∧ x ≠ v) ∧ (own_mem RI RN v → p.2.toInt = RN.toInt - 1)) := by
  intro n
  have l := w.l
  have n0 := w.n0
  have n1 := w.n1
  induction n with
  | zero => intro k h0 h1 h2; omega
  | succ n ih =>
    intro k h0 h1 h2 hk
    unfold f_removeResting_2
    refine own_iL (fun c => ?_) (fun c => ?_)
    · refine Tot.rdI h0 (by omega) ?_
      refine own_iE (fun e => ?_) (fun e => ?_)
      · have m1 := own_m1 (a := RN) (by omega)
        unfold f_removeResting_20
        rw [rdg (by omega) (by omega), Option.bind_some, wrA_in h0 (by omega), Option.bind_some]
        refine Tot.mk ?_
        have g : ∀ j : Int32, 0 ≤ j.toInt → gI (RI.set k.toInt.toNat (gI RI (RN - 1))) j = if k = j then gI RI (RN - 1) else gI RI j := fun j hj => gset h0 (by omega) hj
        have lst := w.e (RN - 1) (by omega) (by omega)
        have lst2 := own_Rg w.r (j := RN - 1) (by omega) (by omega)
        refine ⟨⟨by simp [l], (by show 0 ≤ (RN - 1).toInt; omega), (by show (RN - 1).toInt ≤ 64; omega), own_Rs w.r (by omega) (by omega), ?_, ?_⟩, (by show (RN - 1).toInt ≤ RN.toInt; omega), ?_, fun _ => (by show (RN - 1).toInt = RN.toInt - 1; omega)⟩
        · intro i i0 i1
          show 1 ≤ (gI (RI.set k.toInt.toNat (gI RI (RN - 1))) i).toInt ∧ (gI (RI.set k.toInt.toNat (gI RI (RN - 1))) i).toInt ≤ acc.toInt
          have i1' : i.toInt < (RN - 1).toInt := i1
          rw [g i i0]
          split
          · exact lst
          · exact w.e i i0 (by omega)
        · intro i j i0 i1 j0 j1 hh
          have i1' : i.toInt < (RN - 1).toInt := i1
          have j1' : j.toInt < (RN - 1).toInt := j1
          have hh' : gI (RI.set k.toInt.toNat (gI RI (RN - 1))) i = gI (RI.set k.toInt.toNat (gI RI (RN - 1))) j := hh
          rw [g i i0, g j j0] at hh'
          by_cases ei : k = i <;> by_cases ej : k = j
          · rw [← ei, ← ej]
          · rw [if_pos ei, if_neg ej] at hh'
            have q := w.d _ _ (by omega) (by omega) (by omega) (by omega) hh'
            rw [ieq] at q
            omega
          · rw [if_neg ei, if_pos ej] at hh'
            have q := w.d _ _ (by omega) (by omega) (by omega) (by omega) hh'
            rw [ieq] at q
            omega
          · rw [if_neg ei, if_neg ej] at hh'
            exact w.d _ _ (by omega) (by omega) (by omega) (by omega) hh'
        · intro x
          show own_mem (RI.set k.toInt.toNat (gI RI (RN - 1))) (RN - 1) x ↔ _
          constructor
          · rintro ⟨j, j0, j1, ej⟩
            rw [g j j0] at ej
            by_cases hkj : k = j
            · rw [if_pos hkj] at ej
              refine ⟨⟨RN - 1, by omega, by omega, ej⟩, ?_⟩
              intro hx
              have q := w.d (RN - 1) k (by omega) (by omega) h0 c (by rw [ej, hx, e])
              rw [ieq] at q
              rw [ieq] at hkj
              omega
            · rw [if_neg hkj] at ej
              refine ⟨⟨j, j0, by omega, ej⟩, ?_⟩
              intro hx
              exact hkj (w.d k j h0 c j0 (by omega) (by rw [ej, hx, e]))
          · rintro ⟨⟨j, j0, j1, ej⟩, hx⟩
            have hkj : ¬ k = j := by
              intro h
              rw [← h, e] at ej
              exact hx ej.symm
            by_cases hl : j.toInt = (RN - 1).toInt
            · refine ⟨k, h0, by rw [ieq] at hkj; omega, ?_⟩
              rw [g k h0, if_pos rfl]
              rw [← ieq] at hl
              rw [← hl, ej]
            · refine ⟨j, j0, by omega, ?_⟩
              rw [g j j0, if_neg hkj, ej]
      · have p := own_p1 (a := k) (by omega)
        refine ih _ (by omega) (by omega) (by omega) ?_
        intro j j0 j1
        by_cases hj : j.toInt < k.toInt
        · exact hk j j0 hj
        · have : j = k := by rw [ieq]; omega
          rw [this]
          exact e
    · refine Tot.mk ⟨w, Int.le_refl _, ?_, ?_⟩
      · intro x
        constructor
        · rintro ⟨j, j0, j1, ej⟩
          refine ⟨⟨j, j0, j1, ej⟩, ?_⟩
          intro hx
          have j1' : j.toInt < RN.toInt := j1
          exact hk j j0 (by omega) (by rw [← hx]; exact ej)
        · exact fun h => h.1
      · rintro ⟨j, j0, j1, ej⟩
        exact absurd ej (hk j j0 (by omega))
theorem own_rm {RI : List Int32} {RN acc : Int32} (w : own_W RI RN acc) (v : Int32) : Tot (f_removeResting RI RN v) (fun p => own_W p.1 p.2 acc ∧ p.2.toInt ≤ RN.toInt ∧ (∀ x, own_mem p.1 p.2 x ↔ own_mem RI RN x ∧ x ≠ v) ∧ (own_mem RI RN v → p.2.toInt = RN.toInt - 1)) := by
  have n0 := w.n0
  have n1 := w.n1
  have e0 : (0 : Int32).toInt = 0 := rfl
  exact own_rm2 w v 100000 0 (by omega) (by omega) (by omega) (fun j j0 j1 => by omega)
theorem own_W.up {RI : List Int32} {RN acc acc' : Int32} (w : own_W RI RN acc) (h : acc.toInt ≤ acc'.toInt) : own_W RI RN acc' :=
  ⟨w.l, w.n0, w.n1, w.r, fun i i0 i1 => by have := w.e i i0 i1; omega, w.d⟩
theorem own_W.add {RI : List Int32} {RN acc v : Int32} (w : own_W RI RN acc) (a0 : 0 ≤ acc.toInt) (h : v.toInt = acc.toInt + 1) (hv : v.toInt ≤ 255) (c : RN.toInt < 64) : own_W (RI.set RN.toInt.toNat v) (RN + 1) v := by
  have l := w.l
  have n0 := w.n0
  have p := own_p1 (a := RN) (by omega)
  have g : ∀ j : Int32, 0 ≤ j.toInt → gI (RI.set RN.toInt.toNat v) j = if RN = j then v else gI RI j := fun j hj => gset n0 (by omega) hj
  refine ⟨by simp [l], by omega, by omega, own_Rs w.r (by omega) (by omega), ?_, ?_⟩
  · intro i i0 i1
    rw [g i i0]
    by_cases hi : RN = i
    · rw [if_pos hi]; omega
    · rw [if_neg hi]
      rw [ieq] at hi
      have := w.e i i0 (by omega)
      omega
  · intro i j i0 i1 j0 j1 hh
    rw [g i i0, g j j0] at hh
    by_cases hi : RN = i <;> by_cases hj : RN = j
    · rw [← hi, ← hj]
    · rw [if_pos hi, if_neg hj] at hh
      rw [ieq] at hj
      have := w.e j j0 (by omega)
      rw [← hh] at this
      omega
    · rw [if_neg hi, if_pos hj] at hh
      rw [ieq] at hi
      have := w.e i i0 (by omega)
      rw [hh] at this
      omega
    · rw [if_neg hi, if_neg hj] at hh
      rw [ieq] at hi hj
      exact w.d i j i0 (by omega) j0 (by omega) hh
theorem own_Rrep (n : Nat) : own_R (List.replicate n 0) := by
  intro x hx
  rw [List.eq_of_mem_replicate hx]
  decide
theorem own_i0 {P : Int32 → Prop} {k : Int32} (h : ∀ j : Int32, 0 ≤ j.toInt → j.toInt < k.toInt → P j) (hk : P k) (k0 : 0 ≤ k.toInt) (hk1 : k.toInt < 2147483647) : ∀ j : Int32, 0 ≤ j.toInt → j.toInt < (k + 1).toInt → P j := by
  have p := own_p1 (a := k) (by omega)
  intro j j0 j1
  by_cases e : j.toInt < k.toInt
  · exact h j j0 e
  · have : j = k := by rw [ieq]; omega
    rw [this]; exact hk
def own_bt (v a b : Int32) : Prop := if v = 0 then b.toInt < a.toInt else a.toInt < b.toInt
theorem own_bestX {SD PR RI : List Int32} {RN acc : Int32} (w : own_W RI RN acc) (lS : SD.length = 256) (lP : PR.length = 256) (hp : ∀ x, own_mem RI RN x → 1 ≤ (gI PR x).toInt) (v1 : Int32) :
    Tot (f_bestOf SD PR RI RN v1) (fun r => (r = 0 ∧ ∀ x, own_mem RI RN x → ¬ gI SD x = v1) ∨ (∃ x, own_mem RI RN x ∧ gI SD x = v1 ∧ gI PR x = r ∧ 1 ≤ r.toInt ∧ ∀ y, own_mem RI RN y → gI SD y = v1 → ¬ own_bt v1 (gI PR y) r)) := by
  have e0 : (0 : Int32).toInt = 0 := rfl
  have l := w.l
  have n0 := w.n0
  have n1 := w.n1
  have key : ∀ (n : Nat) (v2 v3 : Int32), 0 ≤ v3.toInt → v3.toInt ≤ RN.toInt → RN.toInt - v3.toInt < n → ((v2 = 0 ∧ ∀ j : Int32, 0 ≤ j.toInt → j.toInt < v3.toInt → ¬ gI SD (gI RI j) = v1) ∨ (∃ x, own_mem RI RN x ∧ gI SD x = v1 ∧ gI PR x = v2 ∧ 1 ≤ v2.toInt ∧ ∀ j : Int32, 0 ≤ j.toInt → j.toInt < v3.toInt → gI SD (gI RI j) = v1 → ¬ own_bt v1 (gI PR (gI RI j)) v2)) →
      Tot (f_bestOf_4 SD PR RI RN n v1 v2 v3) (fun r => (r = 0 ∧ ∀ x, own_mem RI RN x → ¬ gI SD x = v1) ∨ (∃ x, own_mem RI RN x ∧ gI SD x = v1 ∧ gI PR x = r ∧ 1 ≤ r.toInt ∧ ∀ y, own_mem RI RN y → gI SD y = v1 → ¬ own_bt v1 (gI PR y) r)) := by
    intro n
    induction n with
    | zero => intro v2 v3 h0 h1 h2; omega
    | succ n ih =>
      intro v2 v3 h0 h1 h2 hv
      unfold f_bestOf_4 f_better
      refine own_iL (fun c => ?_) (fun c => ?_)
      · have p := own_p1 (a := v3) (by omega)
        have rg := own_Rg w.r h0 (by omega)
        have hm : own_mem RI RN (gI RI v3) := ⟨v3, h0, c, rfl⟩
        have hpr := hp _ hm
        rw [rdg h0 (by omega), Option.bind_some, rdg rg.1 (by omega), Option.bind_some]
        refine own_iE (fun g => ?_) (fun g => ?_)
        · rw [rdg rg.1 (by omega), Option.bind_some]
          refine own_iE (fun z => ?_) (fun z => ?_)
          · rcases hv with ⟨_, hv⟩ | ⟨x, _, _, _, hx, _⟩
            · refine ih _ _ (by omega) (by omega) (by omega) (Or.inr ⟨_, hm, g, rfl, hpr, ?_⟩)
              refine own_i0 (fun j j0 j1 hs => absurd hs (hv j j0 j1)) (fun _ => ?_) h0 (by omega)
              unfold own_bt
              split <;> omega
            · rw [z] at hx; exact absurd hx (by decide)
          · rcases hv with ⟨hz, _⟩ | ⟨x, hx1, hx2, hx3, hx4, hx5⟩
            · exact absurd hz z
            · refine own_bs ?_
              by_cases b : own_bt v1 (gI PR (gI RI v3)) v2
              · have e : (if (if v1 = (0 : Int32) then (if v2 < gI PR (gI RI v3) then (1 : Int32) else (0 : Int32)) else (if gI PR (gI RI v3) < v2 then (1 : Int32) else (0 : Int32))) = (0 : Int32) then v2 else gI PR (gI RI v3)) = gI PR (gI RI v3) := by
                  unfold own_bt at b
                  by_cases q : v1 = 0
                  · rw [if_pos q] at b ⊢; rw [if_pos (ilt.mpr b), if_neg (by decide)]
                  · rw [if_neg q] at b ⊢; rw [if_pos (ilt.mpr b), if_neg (by decide)]
                rw [e]
                refine ih _ _ (by omega) (by omega) (by omega) (Or.inr ⟨_, hm, g, rfl, hpr, ?_⟩)
                refine own_i0 (fun j j0 j1 hs hb => ?_) (fun _ => ?_) h0 (by omega)
                · refine hx5 j j0 j1 hs ?_
                  unfold own_bt at b hb ⊢
                  by_cases q : v1 = 0
                  · rw [if_pos q] at b hb ⊢; omega
                  · rw [if_neg q] at b hb ⊢; omega
                · unfold own_bt
                  split <;> omega
              · have e : (if (if v1 = (0 : Int32) then (if v2 < gI PR (gI RI v3) then (1 : Int32) else (0 : Int32)) else (if gI PR (gI RI v3) < v2 then (1 : Int32) else (0 : Int32))) = (0 : Int32) then v2 else gI PR (gI RI v3)) = v2 := by
                  have b' := b
                  unfold own_bt at b
                  by_cases q : v1 = 0
                  · rw [if_pos q] at b ⊢; rw [if_neg (fun z => b (ilt.mp z)), if_pos rfl]
                  · rw [if_neg q] at b ⊢; rw [if_neg (fun z => b (ilt.mp z)), if_pos rfl]
                rw [e]
                exact ih _ _ (by omega) (by omega) (by omega) (Or.inr ⟨x, hx1, hx2, hx3, hx4, own_i0 hx5 (fun _ => b) h0 (by omega)⟩)
        · rcases hv with ⟨hz, hv⟩ | ⟨x, hx1, hx2, hx3, hx4, hx5⟩
          · exact ih _ _ (by omega) (by omega) (by omega) (Or.inl ⟨hz, own_i0 hv g h0 (by omega)⟩)
          · exact ih _ _ (by omega) (by omega) (by omega) (Or.inr ⟨x, hx1, hx2, hx3, hx4, own_i0 hx5 (fun q => absurd q g) h0 (by omega)⟩)
      · have e : v3.toInt = RN.toInt := by omega
        rw [e] at hv
        refine Tot.mk ?_
        rcases hv with ⟨hz, hv⟩ | ⟨x, hx1, hx2, hx3, hx4, hx5⟩
        · left
          refine ⟨hz, ?_⟩
          rintro x ⟨j, j0, j1, ej⟩
          rw [← ej]; exact hv j j0 j1
        · right
          refine ⟨x, hx1, hx2, hx3, hx4, ?_⟩
          rintro y ⟨j, j0, j1, ej⟩ hy
          rw [← ej] at hy ⊢
          exact hx5 j j0 j1 hy
  exact key 100000 0 0 (by omega) (by omega) (by omega) (Or.inl ⟨rfl, fun j j0 j1 => by omega⟩)
theorem own_div1 {e b S : Int} (he : 0 ≤ e) (heS : e ≤ S) (hb : 0 ≤ b) (hS : 0 < S) : 0 ≤ e * b / S ∧ e * b / S ≤ b ∧ (e * b / S) * S ≤ e * b := by
  have m : 0 ≤ e * b := Int.mul_nonneg he hb
  refine ⟨Int.ediv_nonneg m (by omega), ?_, Int.ediv_mul_le _ (by omega)⟩
  apply Int.ediv_le_of_le_mul hS
  rw [Int.mul_comm b S]
  exact Int.mul_le_mul_of_nonneg_right heS hb
theorem own_ldiv {a b : Int64} (h0 : 0 ≤ a.toInt) (h1 : a.toInt < 9000000000000000000) (hb : 0 < b.toInt) : (a / b).toInt = a.toInt / b.toInt := by
  have d0 := Int.ediv_nonneg h0 (show 0 ≤ b.toInt by omega)
  have d1 : a.toInt / b.toInt ≤ a.toInt := Int.ediv_le_self _ h0
  rw [Int64.toInt_div, Int.tdiv_eq_ediv_of_nonneg h0]
  exact Int.bmod_eq_of_le (by omega) (by omega)
theorem own_l32 {a : Int64} (h0 : -2147483648 ≤ a.toInt) (h1 : a.toInt < 2147483648) : a.toInt32.toInt = a.toInt := by
  rw [Int64.toInt_toInt32]
  exact Int.bmod_eq_of_le (by omega) (by omega)
theorem own_cfX {SD RI TP0 : List Int32} {RN acc : Int32} (w : own_W RI RN acc) (lS : SD.length = 256) (lT : TP0.length = 256) (v1 : Int32) : Tot (f_clearFlags SD RI RN TP0 v1) (fun T => T.length = 256 ∧ (∀ x, own_mem RI RN x → gI SD x = v1 → gI T x = 0) ∧ (∀ x : Int32, 0 ≤ x.toInt → gI T x = 0 ∨ gI T x = gI TP0 x)) := by
  have e0 : (0 : Int32).toInt = 0 := rfl
  have l := w.l
  have n0 := w.n0
  have n1 := w.n1
  have key : ∀ (n : Nat) (T : List Int32) (v2 : Int32), 0 ≤ v2.toInt → v2.toInt ≤ RN.toInt → RN.toInt - v2.toInt < n → T.length = 256 → (∀ j : Int32, 0 ≤ j.toInt → j.toInt < v2.toInt → gI SD (gI RI j) = v1 → gI T (gI RI j) = 0) → (∀ x : Int32, 0 ≤ x.toInt → gI T x = 0 ∨ gI T x = gI TP0 x) →
      Tot (f_clearFlags_2 SD RI RN n T v1 v2) (fun T => T.length = 256 ∧ (∀ x, own_mem RI RN x → gI SD x = v1 → gI T x = 0) ∧ (∀ x : Int32, 0 ≤ x.toInt → gI T x = 0 ∨ gI T x = gI TP0 x)) := by
    intro n
    induction n with
    | zero => intro T v2 a b c; omega
    | succ n ih =>
      intro T v2 a b c lT h1 h2
      unfold f_clearFlags_2
      refine own_iL (fun c1 => ?_) (fun c1 => ?_)
      · have p := own_p1 (a := v2) (by omega)
        have rg := own_Rg w.r a (by omega)
        rw [rdg a (by omega), Option.bind_some, rdg rg.1 (by omega), Option.bind_some]
        refine own_iE (fun g => ?_) (fun g => ?_)
        · rw [wrA_in rg.1 (by omega), Option.bind_some]
          have gT : ∀ x : Int32, 0 ≤ x.toInt → gI (T.set (gI RI v2).toInt.toNat 0) x = if gI RI v2 = x then 0 else gI T x := fun x hx => gset rg.1 (by omega) hx
          refine ih _ _ (by omega) (by omega) (by omega) (by rw [List.length_set]; exact lT) ?_ ?_
          · refine own_i0 (fun j j0 j1 hs => ?_) (fun _ => ?_) a (by omega)
            · have rj := own_Rg w.r j0 (by omega)
              rw [gT _ rj.1]
              by_cases e : gI RI v2 = gI RI j
              · rw [if_pos e]
              · rw [if_neg e]; exact h1 j j0 j1 hs
            · rw [gT _ rg.1, if_pos rfl]
          · intro x hx
            rw [gT x hx]
            by_cases e : gI RI v2 = x
            · rw [if_pos e]; exact Or.inl rfl
            · rw [if_neg e]; exact h2 x hx
        · exact ih _ _ (by omega) (by omega) (by omega) lT (own_i0 h1 (fun q => absurd q g) a (by omega)) h2
      · have e : v2.toInt = RN.toInt := by omega
        rw [e] at h1
        refine Tot.mk ⟨lT, ?_, h2⟩
        rintro x ⟨j, j0, j1, ej⟩ hs
        rw [← ej] at hs ⊢
        exact h1 j j0 j1 hs
  unfold f_clearFlags
  exact key 100000 TP0 0 (by omega) (by omega) (by omega) lT (fun j j0 j1 => by omega) (fun x _ => Or.inr rfl)
theorem own_on {x : Int32} (h : 0 ≤ x.toInt) : Int32.ofNat x.toInt.toNat = x := by
  have := Int32.toInt_lt x
  rw [ieq, Int32.toInt_ofNat_of_lt (by omega)]
  omega
def own_ws (w : Int32 → Int) : Nat → Int
  | 0 => 0
  | n + 1 => own_ws w n + w (Int32.ofNat n)
theorem own_ws_same {w u : Int32 → Int} : ∀ n : Nat, n ≤ 100000 → (∀ x : Int32, 0 ≤ x.toInt → x.toInt < n → w x = u x) → own_ws w n = own_ws u n := by
  intro n
  induction n with
  | zero => intro _ _; rfl
  | succ n ih =>
    intro hn h
    have e : (Int32.ofNat n).toInt = n := Int32.toInt_ofNat_of_lt (by omega)
    rw [own_ws, own_ws, ih (by omega) (fun x a b => h x a (by omega)), h _ (by omega) (by omega)]
theorem own_ws_0 {w : Int32 → Int} : ∀ n : Nat, n ≤ 100000 → (∀ x : Int32, 0 ≤ x.toInt → x.toInt < n → w x = 0) → own_ws w n = 0 := by
  intro n
  induction n with
  | zero => intro _ _; rfl
  | succ n ih =>
    intro hn h
    have e : (Int32.ofNat n).toInt = n := Int32.toInt_ofNat_of_lt (by omega)
    rw [own_ws, ih (by omega) (fun x a b => h x a (by omega)), h _ (by omega) (by omega)]
    rfl
theorem own_ws_one {w : Int32 → Int} {y : Int32} (y0 : 0 ≤ y.toInt) : ∀ n : Nat, n ≤ 100000 → own_ws w n = own_ws (fun x => if x = y then 0 else w x) n + (if y.toInt < n then w y else 0) := by
  intro n
  induction n with
  | zero => intro _; rw [own_ws, own_ws, if_neg (by omega)]; rfl
  | succ n ih =>
    intro hn
    have e : (Int32.ofNat n).toInt = n := Int32.toInt_ofNat_of_lt (by omega)
    rw [own_ws, own_ws, ih (by omega)]
    by_cases q : Int32.ofNat n = y
    · rw [if_pos q, q]
      rw [q] at e
      rw [if_neg (by omega), if_pos (by omega)]
      first | done | omega
    · rw [if_neg q]
      rw [ieq] at q
      by_cases l : y.toInt < n
      · rw [if_pos l, if_pos (by omega)]; omega
      · rw [if_neg l, if_neg (by omega)]; omega
theorem own_ws_log {L : List Int32} : ∀ (n : Nat), n ≤ 100000 → ∀ w : Int32 → Int, (∀ k : Int32, 0 ≤ k.toInt → k.toInt < n → 0 ≤ (gI L k).toInt ∧ (gI L k).toInt < 256) → (∀ i j : Int32, 0 ≤ i.toInt → i.toInt < n → 0 ≤ j.toInt → j.toInt < n → gI L i = gI L j → i = j) → (∀ x : Int32, 0 ≤ x.toInt → x.toInt < 256 → (∀ k : Int32, 0 ≤ k.toInt → k.toInt < n → ¬ gI L k = x) → w x = 0) → own_ws w 256 = own_ws (fun k => w (gI L k)) n := by
  intro n
  induction n with
  | zero =>
    intro _ w h1 h2 h3
    rw [own_ws_0 256 (by omega) (fun x a b => h3 x a b (fun k p q => by omega))]
    rfl
  | succ n ih =>
    intro hn w h1 h2 h3
    have e : (Int32.ofNat n).toInt = n := Int32.toInt_ofNat_of_lt (by omega)
    have r := h1 (Int32.ofNat n) (by omega) (by omega)
    rw [own_ws_one (w := w) r.1 256 (by omega), if_pos (by omega)]
    have st : own_ws (fun k => w (gI L k)) (n + 1) = own_ws (fun k => w (gI L k)) n + w (gI L (Int32.ofNat n)) := rfl
    rw [st, ih (by omega) _ (fun k a b => h1 k a (by omega)) (fun i j a b c d => h2 i j a (by omega) c (by omega)) ?_]
    · rw [own_ws_same n (by omega) (u := fun k => w (gI L k))]
      intro k a b
      have ne : ¬ gI L k = gI L (Int32.ofNat n) := by
        intro q
        have := h2 k (Int32.ofNat n) a (by omega) (by omega) (by omega) q
        rw [ieq] at this
        omega
      show (if gI L k = gI L (Int32.ofNat n) then 0 else w (gI L k)) = _
      rw [if_neg ne]
    · intro x a b c
      show (if x = gI L (Int32.ofNat n) then 0 else w x) = 0
      by_cases q : x = gI L (Int32.ofNat n)
      · rw [if_pos q]
      · rw [if_neg q]
        refine h3 x a b (fun k p1 p2 => ?_)
        by_cases g : k.toInt < n
        · exact c k p1 g
        · have : k = Int32.ofNat n := by rw [ieq]; omega
          rw [this]
          exact fun z => q z.symm
theorem own_fq {FI FQ FP : List Int32} {FN k : Int32} (lI : FI.length = 64) (lQ : FQ.length = 64) (lP : FP.length = 64) (f1 : FN.toInt ≤ 64) (k0 : 0 ≤ k.toInt) (k1 : k.toInt < FN.toInt) : f_fillId FI FN k = some (gI FI k) ∧ f_fillQty FQ FN k = some (gI FQ k) ∧ f_fillPrice FP FN k = some (gI FP k) := by
  have e0 : (0 : Int32).toInt = 0 := rfl
  have n0 : ¬ k < 0 := by rw [ilt]; omega
  have n1 : k < FN := by rw [ilt]; omega
  unfold f_fillId f_fillQty f_fillPrice
  rw [if_neg n0, if_neg n0, if_neg n0, if_pos n1, if_pos n1, if_pos n1, rdg k0 (by omega), rdg k0 (by omega), rdg k0 (by omega), Option.bind_some, Option.bind_some, Option.bind_some]
  exact ⟨rfl, rfl, rfl⟩
def own_wd (SD PR RM RI : List Int32) (s p : Int32) (j : Int32) : Int := if gI SD (gI RI j) = s ∧ gI PR (gI RI j) = p then (gI RM (gI RI j)).toInt else 0
theorem own_ws_1 (w : Int32 → Int) {v : Int32} (v0 : 0 ≤ v.toInt) : own_ws w (v.toInt.toNat + 1) = own_ws w v.toInt.toNat + w v := by
  rw [own_ws, own_on v0]
theorem own_dep30 {SD PR RM RI : List Int32} {RN s p : Int32} (sd : SD.length = 256) (pr : PR.length = 256) (lM : RM.length = 256) (lI : RI.length = 64) (n1 : RN.toInt ≤ 64) (W : Int32 → Int) (hr : ∀ j : Int32, 0 ≤ j.toInt → j.toInt < RN.toInt → 0 ≤ (gI RI j).toInt ∧ (gI RI j).toInt < 256 ∧ 0 ≤ (gI RM (gI RI j)).toInt ∧ (gI RM (gI RI j)).toInt ≤ 10000) (h1 : ∀ j : Int32, gI SD (gI RI j) = s → gI PR (gI RI j) = p → W j = (gI RM (gI RI j)).toInt) (h2 : ∀ j : Int32, ¬ (gI SD (gI RI j) = s ∧ gI PR (gI RI j) = p) → W j = 0) : ∀ (n : Nat) (d j : Int32) (y : Int), 0 ≤ j.toInt → j.toInt ≤ RN.toInt → RN.toInt - j.toInt < n → d.toInt = y → y = own_ws W j.toInt.toNat → 0 ≤ y → y ≤ 10000 * j.toInt → ∃ r, f_depthAt_30 SD PR RM RI RN n s p d j = some r ∧ r.toInt = own_ws W RN.toInt.toNat := by
  intro n
  induction n with
  | zero => intro d j y a b c; exfalso; omega
  | succ n ih =>
    intro d j y a b c hd hy y0 y1
    unfold f_depthAt_30
    by_cases g : j < RN
    · have g' := ilt.mp g
      have pj := own_p1 (a := j) (by omega)
      have r := hr j a g'
      have sw : own_ws W (j + 1).toInt.toNat = y + W j := by
        rw [show (j + 1).toInt.toNat = j.toInt.toNat + 1 by omega, own_ws_1 W a, hy]
      clear hy
      rw [if_pos g, rdg a (by omega), Option.bind_some, rdg (by omega) (by omega), Option.bind_some]
      by_cases c1 : gI SD (gI RI j) = s
      · rw [if_pos c1, rdg (by omega) (by omega), Option.bind_some]
        by_cases c2 : gI PR (gI RI j) = p
        · rw [if_pos c2, rdg (by omega) (by omega), Option.bind_some]
          have hw := h1 j c1 c2
          rw [hw] at sw
          exact ih _ _ (y + (gI RM (gI RI j)).toInt) (by omega) (by omega) (by omega) (by rw [iadd_i (by omega) (by omega), hd]) sw.symm (by omega) (by omega)
        · rw [if_neg c2]
          rw [h2 j (fun z => c2 z.2), Int.add_zero] at sw
          exact ih _ _ y (by omega) (by omega) (by omega) hd sw.symm (by omega) (by omega)
      · rw [if_neg c1]
        rw [h2 j (fun z => c1 z.1), Int.add_zero] at sw
        exact ih _ _ y (by omega) (by omega) (by omega) hd sw.symm (by omega) (by omega)
    · rw [if_neg g]
      rw [ilt] at g
      have : j.toInt = RN.toInt := by omega
      rw [this] at hy
      exact ⟨d, rfl, hd.trans hy⟩
def own_min (a b : Int) : Int := if a < b then a else b
def own_cut (m a : Int) : Int := if a < m then 0 else a
def own_t5 (c x e : Int) : Int := if 0 < c then own_min c (own_min e x) else 0
def own_r5 (m x y e t : Int) : Int := (e - t) - own_cut m ((e - t) * (x - t) / ((x - t) + y)) - own_cut m ((e - t) * y / ((x - t) + y))
def own_p5 (m x y e t : Int) : Int × Int :=
  if 0 < e - t then
    (t + own_cut m ((e - t) * (x - t) / ((x - t) + y)) + own_min (own_r5 m x y e t) (x - (t + own_cut m ((e - t) * (x - t) / ((x - t) + y)))),
     own_cut m ((e - t) * y / ((x - t) + y)) + own_min (own_r5 m x y e t - own_min (own_r5 m x y e t) (x - (t + own_cut m ((e - t) * (x - t) / ((x - t) + y))))) (y - own_cut m ((e - t) * y / ((x - t) + y))))
  else (t, 0)
theorem own_minI {a b : Int32} : (if a < b then a else b).toInt = own_min a.toInt b.toInt := by
  unfold own_min
  by_cases h : a < b
  · rw [if_pos h, if_pos (ilt.mp h)]
  · rw [if_neg h, if_neg (fun z => h (ilt.mpr z))]
theorem own_cutI {a m : Int32} : (if a < m then (0 : Int32) else a).toInt = own_cut m.toInt a.toInt := by
  unfold own_cut
  by_cases h : a < m
  · rw [if_pos h, if_pos (ilt.mp h)]; rfl
  · rw [if_neg h, if_neg (fun z => h (ilt.mpr z))]
theorem own_cutb {m a b : Int} (h0 : 0 ≤ a) (h1 : a ≤ b) : 0 ≤ own_cut m a ∧ own_cut m a ≤ b := by
  unfold own_cut
  split <;> omega
theorem own_r5b {m x y e t : Int} (hx : 1 ≤ x) (hy : 1 ≤ y) (t0 : 0 ≤ t) (tx : t ≤ x) (te : t < e) (es : e ≤ x + y) :
    0 ≤ own_cut m ((e - t) * (x - t) / ((x - t) + y)) ∧ own_cut m ((e - t) * (x - t) / ((x - t) + y)) ≤ x - t ∧ 0 ≤ own_cut m ((e - t) * y / ((x - t) + y)) ∧ own_cut m ((e - t) * y / ((x - t) + y)) ≤ y ∧ 0 ≤ own_r5 m x y e t ∧ own_r5 m x y e t ≤ e - t := by
  have d1 := own_div1 (e := e - t) (b := x - t) (S := (x - t) + y) (by omega) (by omega) (by omega) (by omega)
  have d2 := own_div1 (e := e - t) (b := y) (S := (x - t) + y) (by omega) (by omega) (by omega) (by omega)
  have c1 := own_cutb (m := m) d1.1 d1.2.1
  have c2 := own_cutb (m := m) d2.1 d2.2.1
  have le : (e - t) * (x - t) / ((x - t) + y) + (e - t) * y / ((x - t) + y) ≤ e - t := by
    have s : ((e - t) * (x - t) / ((x - t) + y) + (e - t) * y / ((x - t) + y)) * ((x - t) + y) ≤ (e - t) * ((x - t) + y) := by
      rw [Int.add_mul, Int.mul_add (e - t)]
      exact Int.add_le_add d1.2.2 d2.2.2
    exact Int.le_of_mul_le_mul_right s (by omega)
  have k1 : own_cut m ((e - t) * (x - t) / ((x - t) + y)) ≤ (e - t) * (x - t) / ((x - t) + y) := by unfold own_cut; split <;> omega
  have k2 : own_cut m ((e - t) * y / ((x - t) + y)) ≤ (e - t) * y / ((x - t) + y) := by unfold own_cut; split <;> omega
  unfold own_r5
  refine ⟨c1.1, c1.2, c2.1, c2.2, by omega, by omega⟩
theorem own_al4x {k : List Int32 → Int32 → Int32 → Option (Int32 × List Int32)} {TP LI LR : List Int32} {ma tc : Int32} (l : LR.length = 64) (LA : List Int32) (q : Int32) (n : Nat) : f_allocate_4 k TP LI LR ma tc 2 (n + 3) LA q 0 0 = k LA q (0 + gI LR 0 + gI LR 1) := by
  rw [f_allocate_4, if_pos (by decide), rdg (by decide) (by rw [l]; decide), Option.bind_some, f_allocate_4, if_pos (by decide), rdg (by decide) (by rw [l]; decide), Option.bind_some, f_allocate_4, if_neg (by decide)]
  rfl
theorem own_top5 {TP LI LR LA : List Int32} {tc x e : Int32} (lT : TP.length = 256) (lI : LI.length = 64) (lR : LR.length = 64) (lA : LA.length = 64) (i0 : gI LI 0 = 1) (tp : ¬ gI TP 1 = 0) (r0 : gI LR 0 = x) (a0 : gI LA 0 = 0) (x0 : 1 ≤ x.toInt) (e0 : 1 ≤ e.toInt) (c0 : 0 ≤ tc.toInt) : ∃ t : Int32, t.toInt = own_t5 tc.toInt x.toInt e.toInt ∧ ∃ B : List Int32, f_topStep TP LI LR tc 2 LA e = some (t, B) ∧ B.length = 64 ∧ gI B 0 = t ∧ gI B 1 = gI LA 1 := by
  have z0 : (0 : Int32).toInt = 0 := rfl
  have o1 : (1 : Int32).toInt = 1 := rfl
  unfold f_topStep own_t5
  by_cases c : 0 < tc
  · have c' := ilt.mp c
    rw [if_pos c, if_pos (by omega)]
    have key : ∀ v : Int32, 0 ≤ v.toInt → ∀ t : Int32, (if tc < v then tc else v) = t → ∃ B : List Int32, f_topStep_57 TP LI LR tc 2 LA 0 v = some (t, B) ∧ B.length = 64 ∧ gI B 0 = t ∧ gI B 1 = gI LA 1 := by
      intro v v0 t ht
      have tn : 0 ≤ t.toInt := by rw [← ht]; split <;> omega
      unfold f_topStep_57 f_topStep_72 f_topStep_80
      rw [ht, if_neg (by rw [ilt]; omega), rdg (by decide) (by rw [lA]; decide), Option.bind_some, wrA_in (by decide) (by rw [lA]; decide), Option.bind_some, a0]
      have z : (0 : Int32) + t = t := Int32.zero_add t
      refine ⟨_, rfl, by rw [List.length_set]; exact lA, ?_, ?_⟩
      · rw [gset (by decide) (by rw [lA]; decide) (by decide), if_pos rfl, z]
      · rw [gset (by decide) (by rw [lA]; decide) (by decide), if_neg (by decide)]
    have st : f_topStep_11 (f_topStep_35 TP LI LR tc 2) TP LI LR tc 2 100000 LA e 0 = f_topStep_57 TP LI LR tc 2 LA 0 (if x < e then x else e) := by
      have s : ∀ n : Nat, f_topStep_11 (f_topStep_35 TP LI LR tc 2) TP LI LR tc 2 (n + 1) LA e 0 = f_topStep_57 TP LI LR tc 2 LA 0 (if x < e then x else e) := by
        intro n
        rw [f_topStep_11, if_pos (by decide), rdg (by decide) (by rw [lI]; decide), Option.bind_some, i0, rdg (by decide) (by rw [lT]; decide), Option.bind_some, if_neg tp]
        unfold f_topStep_35
        rw [rdg (by decide) (by rw [lR]; decide), Option.bind_some, Option.bind_some, r0]
        by_cases q : x < e
        · rw [if_pos q, if_pos q]
        · rw [if_neg q, if_neg q]
      exact s 99999
    rw [st]
    have vv : (if x < e then x else e).toInt = own_min e.toInt x.toInt := by
      unfold own_min
      by_cases q : x < e
      · rw [if_pos q]; rw [ilt] at q; rw [if_neg (by omega)]
      · rw [if_neg q]; rw [ilt] at q
        by_cases q2 : e.toInt < x.toInt
        · rw [if_pos q2]
        · rw [if_neg q2]; omega
    have vn : 0 ≤ (if x < e then x else e).toInt := by split <;> omega
    obtain ⟨B, hB⟩ := key _ vn _ rfl
    exact ⟨_, by rw [own_minI, vv], B, hB⟩
  · rw [if_neg c]
    rw [ilt] at c
    exact ⟨0, by rw [if_neg (by omega)]; rfl, LA, rfl, lA, a0, rfl⟩
theorem own_pr5x {LR B : List Int32} {ma x y t e2 : Int32} (lR : LR.length = 64) (lB : B.length = 64) (r0 : gI LR 0 = x) (r1 : gI LR 1 = y) (b0 : gI B 0 = t) (b1 : gI B 1 = 0) (x0 : 1 ≤ x.toInt) (x1 : x.toInt ≤ 1024) (y0 : 1 ≤ y.toInt) (y1 : y.toInt ≤ 1024) (t0 : 0 ≤ t.toInt) (tx : t.toInt ≤ x.toInt) (e0 : 1 ≤ e2.toInt) (e1 : e2.toInt ≤ (x.toInt - t.toInt) + y.toInt) : ∃ (s1 s2 : Int32) (C : List Int32), s1.toInt = own_cut ma.toInt (e2.toInt * (x.toInt - t.toInt) / ((x.toInt - t.toInt) + y.toInt)) ∧ s2.toInt = own_cut ma.toInt (e2.toInt * y.toInt / ((x.toInt - t.toInt) + y.toInt)) ∧ f_proRataStep LR ma 2 B e2 = some (0 + s1 + s2, C) ∧ C.length = 64 ∧ gI C 0 = t + s1 ∧ gI C 1 = 0 + s2 := by
  have l0 : (0 : Int64).toInt = 0 := rfl
  have z0 : (0 : Int32).toInt = 0 := rfl
  have sub1 : (x - t).toInt = x.toInt - t.toInt := isub_i (by omega) (by omega)
  have sub2 : (y - 0).toInt = y.toInt := by rw [isub_i (by omega) (by omega), z0]; omega
  have sA : ((0 : Int64) + (x - t).toInt64).toInt = x.toInt - t.toInt := by rw [ladd_i (by rw [Int32.toInt_toInt64]; omega) (by rw [Int32.toInt_toInt64]; omega), Int32.toInt_toInt64, l0, sub1]; omega
  have sB : ((0 : Int64) + (x - t).toInt64 + (y - 0).toInt64).toInt = (x.toInt - t.toInt) + y.toInt := by rw [ladd_i (by rw [Int32.toInt_toInt64]; omega) (by rw [Int32.toInt_toInt64]; omega), Int32.toInt_toInt64, sA, sub2]
  have st5 : ∀ n : Nat, f_proRataStep_5 (f_proRataStep_39 LR ma 2) LR ma 2 (n + 3) B e2 0 0 = f_proRataStep_39 LR ma 2 B e2 ((0 : Int64) + (x - t).toInt64 + (y - 0).toInt64) := by
    intro n
    have h1 : gI LR (0 + 1) = y := r1
    have h2 : gI B (0 + 1) = 0 := b1
    rw [f_proRataStep_5, if_pos (by decide), rdg (by decide) (by rw [lR]; decide), Option.bind_some, rdg (by decide) (by rw [lB]; decide), Option.bind_some, f_proRataStep_5, if_pos (by decide), rdg (by decide) (by rw [lR]; decide), Option.bind_some, rdg (by decide) (by rw [lB]; decide), Option.bind_some, f_proRataStep_5, if_neg (by decide), r0, b0, h1, h2]
  generalize (0 : Int64) + (x - t).toInt64 + (y - 0).toInt64 = S at sB st5
  have nz : ¬ S = 0 := fun z => by rw [z, l0] at sB; omega
  have div : ∀ u : Int32, 0 ≤ u.toInt → u.toInt ≤ 1024 → ((e2.toInt64 * u.toInt64) / S).toInt32.toInt = e2.toInt * u.toInt / ((x.toInt - t.toInt) + y.toInt) := by
    intro u u0 u1
    have m0 : 0 ≤ e2.toInt * u.toInt := Int.mul_nonneg (by omega) u0
    have m1 : e2.toInt * u.toInt ≤ 2048 * 1024 := Int.mul_le_mul (by omega) u1 u0 (by omega)
    have ml : (e2.toInt64 * u.toInt64).toInt = e2.toInt * u.toInt := by
      rw [lmul_i (by rw [Int32.toInt_toInt64, Int32.toInt_toInt64]; omega) (by rw [Int32.toInt_toInt64, Int32.toInt_toInt64]; omega), Int32.toInt_toInt64, Int32.toInt_toInt64]
    have q := own_ldiv (a := e2.toInt64 * u.toInt64) (b := S) (by rw [ml]; omega) (by rw [ml]; omega) (by omega)
    have d0 := Int.ediv_nonneg m0 (show 0 ≤ S.toInt by omega)
    have d1 : e2.toInt * u.toInt / S.toInt ≤ e2.toInt * u.toInt := Int.ediv_le_self _ m0
    rw [own_l32 (by rw [q, ml]; omega) (by rw [q, ml]; omega), q, ml, sB]
  have st53 : ∀ n : Nat, ∃ C, f_proRataStep_53 LR ma 2 (n + 3) B e2 S 0 0 = some (0 + (if ((e2.toInt64 * (x - t).toInt64) / S).toInt32 < ma then 0 else ((e2.toInt64 * (x - t).toInt64) / S).toInt32) + (if ((e2.toInt64 * (y - 0).toInt64) / S).toInt32 < ma then 0 else ((e2.toInt64 * (y - 0).toInt64) / S).toInt32), C) ∧ C.length = 64 ∧ gI C 0 = t + (if ((e2.toInt64 * (x - t).toInt64) / S).toInt32 < ma then 0 else ((e2.toInt64 * (x - t).toInt64) / S).toInt32) ∧ gI C 1 = 0 + (if ((e2.toInt64 * (y - 0).toInt64) / S).toInt32 < ma then 0 else ((e2.toInt64 * (y - 0).toInt64) / S).toInt32) := by
    intro n
    generalize hs1 : (if ((e2.toInt64 * (x - t).toInt64) / S).toInt32 < ma then (0 : Int32) else ((e2.toInt64 * (x - t).toInt64) / S).toInt32) = s1
    generalize hs2 : (if ((e2.toInt64 * (y - 0).toInt64) / S).toInt32 < ma then (0 : Int32) else ((e2.toInt64 * (y - 0).toInt64) / S).toInt32) = s2
    have lB1 : (B.set (0 : Int32).toInt.toNat (t + s1)).length = 64 := by rw [List.length_set]; exact lB
    have h1 : gI LR (0 + 1) = y := r1
    have h2 : gI (B.set (0 : Int32).toInt.toNat (t + s1)) (0 + 1) = 0 := by
      rw [gset (by decide) (by rw [lB]; decide) (by decide), if_neg (by decide)]
      exact b1
    rw [f_proRataStep_53, if_pos (by decide), rdg (by decide) (by rw [lR]; decide), Option.bind_some, rdg (by decide) (by rw [lB]; decide), Option.bind_some, if_neg nz, r0, b0, hs1]
    unfold f_proRataStep_102
    rw [rdg (by decide) (by rw [lB]; decide), Option.bind_some, wrA_in (by decide) (by rw [lB]; decide), Option.bind_some, b0, f_proRataStep_53, if_pos (by decide), rdg (by decide) (by rw [lR]; decide), Option.bind_some, rdg (by decide) (by rw [lB1]; decide), Option.bind_some, if_neg nz, h1, h2, hs2]
    unfold f_proRataStep_102
    rw [rdg (by decide) (by rw [lB1]; decide), Option.bind_some, wrA_in (by decide) (by rw [lB1]; decide), Option.bind_some, h2, f_proRataStep_53, if_neg (by decide)]
    refine ⟨_, rfl, by rw [List.length_set]; exact lB1, ?_, ?_⟩
    · rw [gset (by decide) (by rw [lB1]; decide) (by decide), if_neg (by decide), gset (by decide) (by rw [lB]; decide) (by decide), if_pos rfl]
    · rw [gset (by decide) (by rw [lB1]; decide) (by decide), if_pos (by decide)]
  obtain ⟨C, eC, lC, c0, c1⟩ := st53 99997
  refine ⟨_, _, C, ?_, ?_, ?_, lC, c0, c1⟩
  · rw [own_cutI, div (x - t) (by omega) (by omega), sub1]
  · rw [own_cutI, div (y - 0) (by omega) (by omega), sub2]
  · unfold f_proRataStep
    rw [show f_proRataStep_5 (f_proRataStep_39 LR ma 2) LR ma 2 100000 B e2 0 0 = _ from st5 99997]
    unfold f_proRataStep_39
    rw [if_pos (by rw [lltI]; omega)]
    exact eC
theorem own_ts5 {LR C : List Int32} {x y c0 c1 r : Int32} (lR : LR.length = 64) (lC : C.length = 64) (r0 : gI LR 0 = x) (r1 : gI LR 1 = y) (h0 : gI C 0 = c0) (h1 : gI C 1 = c1) (x1 : x.toInt ≤ 1024) (y1 : y.toInt ≤ 1024) (n0 : 0 ≤ c0.toInt) (n1 : 0 ≤ c1.toInt) (cx : c0.toInt ≤ x.toInt) (cy : c1.toInt ≤ y.toInt) (rr : 0 ≤ r.toInt) (rr1 : r.toInt ≤ 4096) : ∃ D, f_timeStep LR 2 C r = some D ∧ D.length = 64 ∧ (gI D 0).toInt = c0.toInt + own_min r.toInt (x.toInt - c0.toInt) ∧ (gI D 1).toInt = c1.toInt + own_min (r.toInt - own_min r.toInt (x.toInt - c0.toInt)) (y.toInt - c1.toInt) := by
  have z0 : (0 : Int32).toInt = 0 := rfl
  have sx : (x - c0).toInt = x.toInt - c0.toInt := isub_i (by omega) (by omega)
  have sy : (y - c1).toInt = y.toInt - c1.toInt := isub_i (by omega) (by omega)
  have h1' : gI C (0 + 1) = c1 := h1
  have r1' : gI LR (0 + 1) = y := r1
  -- the second order
  have s2 : ∀ (n : Nat) (C : List Int32) (r : Int32), C.length = 64 → gI C 1 = c1 → 0 ≤ r.toInt → r.toInt ≤ 4096 → ∃ D, f_timeStep_4 LR 2 (n + 2) C r (0 + 1) = some D ∧ D.length = 64 ∧ gI D 0 = gI C 0 ∧ (gI D 1).toInt = c1.toInt + own_min r.toInt (y.toInt - c1.toInt) := by
    intro n C r lC h1 rr rr1
    have h1' : gI C (0 + 1) = c1 := h1
    rw [f_timeStep_4, if_pos (by decide)]
    by_cases q : 0 < r
    · rw [if_pos q, rdg (by decide) (by rw [lR]; decide), Option.bind_some, rdg (by decide) (by rw [lC]; decide), Option.bind_some, r1', h1']
      have mi := own_minI (a := r) (b := y - c1)
      rw [sy] at mi
      generalize (if r < y - c1 then r else y - c1) = m at mi
      have mb : own_min r.toInt (y.toInt - c1.toInt) ≤ y.toInt - c1.toInt ∧ 0 ≤ own_min r.toInt (y.toInt - c1.toInt) := by unfold own_min; split <;> omega
      unfold f_timeStep_43
      by_cases q2 : 0 < m
      · rw [if_pos q2, rdg (by decide) (by rw [lC]; decide), Option.bind_some, wrA_in (by decide) (by rw [lC]; decide), Option.bind_some, f_timeStep_4, if_neg (by decide)]
        refine ⟨_, rfl, by rw [List.length_set]; exact lC, ?_, ?_⟩
        · rw [gset (by decide) (by rw [lC]; decide) (by decide), if_neg (by decide)]
        · rw [gset (by decide) (by rw [lC]; decide) (by decide), if_pos (by decide), h1', iadd_i (by omega) (by omega), mi]
      · rw [if_neg q2, f_timeStep_4, if_neg (by decide)]
        rw [ilt] at q2
        exact ⟨C, rfl, lC, rfl, by rw [h1]; omega⟩
    · rw [if_neg q]
      rw [ilt] at q
      refine ⟨C, rfl, lC, rfl, ?_⟩
      have : own_min r.toInt (y.toInt - c1.toInt) = 0 := by unfold own_min; split <;> omega
      rw [h1, this]
      omega
  have s1 : ∀ n : Nat, ∃ D, f_timeStep_4 LR 2 (n + 3) C r 0 = some D ∧ D.length = 64 ∧ (gI D 0).toInt = c0.toInt + own_min r.toInt (x.toInt - c0.toInt) ∧ (gI D 1).toInt = c1.toInt + own_min (r.toInt - own_min r.toInt (x.toInt - c0.toInt)) (y.toInt - c1.toInt) := by
    intro n
    rw [f_timeStep_4, if_pos (by decide)]
    have mb : own_min r.toInt (x.toInt - c0.toInt) ≤ x.toInt - c0.toInt ∧ 0 ≤ own_min r.toInt (x.toInt - c0.toInt) ∧ own_min r.toInt (x.toInt - c0.toInt) ≤ r.toInt := by unfold own_min; split <;> omega
    by_cases q : 0 < r
    · rw [if_pos q, rdg (by decide) (by rw [lR]; decide), Option.bind_some, rdg (by decide) (by rw [lC]; decide), Option.bind_some, r0, h0]
      have mi := own_minI (a := r) (b := x - c0)
      rw [sx] at mi
      generalize (if r < x - c0 then r else x - c0) = m at mi
      unfold f_timeStep_43
      by_cases q2 : 0 < m
      · rw [if_pos q2, rdg (by decide) (by rw [lC]; decide), Option.bind_some, wrA_in (by decide) (by rw [lC]; decide), Option.bind_some, h0]
        have sr : (r - m).toInt = r.toInt - m.toInt := isub_i (by omega) (by omega)
        have ad : (c0 + m).toInt = c0.toInt + m.toInt := iadd_i (by omega) (by omega)
        obtain ⟨D, e1, e2, e3, e4⟩ := s2 n (C.set (0 : Int32).toInt.toNat (c0 + m)) (r - m) (by rw [List.length_set]; exact lC) (by rw [gset (by decide) (by rw [lC]; decide) (by decide), if_neg (by decide)]; exact h1) (by omega) (by omega)
        refine ⟨D, e1, e2, ?_, ?_⟩
        · rw [e3, gset (by decide) (by rw [lC]; decide) (by decide), if_pos rfl, ad, mi]
        · rw [e4, sr, mi]
      · rw [if_neg q2]
        rw [ilt] at q2
        obtain ⟨D, e1, e2, e3, e4⟩ := s2 n C r lC h1 rr rr1
        have mz : own_min r.toInt (x.toInt - c0.toInt) = 0 := by omega
        refine ⟨D, e1, e2, ?_, ?_⟩
        · rw [e3, h0, mz]; omega
        · rw [e4, mz]; congr 2; omega
    · rw [if_neg q]
      rw [ilt] at q
      have mz : own_min r.toInt (x.toInt - c0.toInt) = 0 := by omega
      have mz2 : own_min (r.toInt - 0) (y.toInt - c1.toInt) = 0 := by unfold own_min; split <;> omega
      refine ⟨C, rfl, lC, ?_, ?_⟩
      · rw [h0, mz]; omega
      · rw [h1, mz, mz2]; omega
  exact s1 99997
theorem own_al5 {TP LI LR LA : List Int32} {ma tc x y z : Int32} (lT : TP.length = 256) (lI : LI.length = 64) (lR : LR.length = 64) (lA : LA.length = 64) (i0 : gI LI 0 = 1) (tp : ¬ gI TP 1 = 0) (r0 : gI LR 0 = x) (r1 : gI LR 1 = y) (a0 : gI LA 0 = 0) (a1 : gI LA 1 = 0) (x0 : 1 ≤ x.toInt) (x1 : x.toInt ≤ 1024) (y0 : 1 ≤ y.toInt) (y1 : y.toInt ≤ 1024) (z0 : 1 ≤ z.toInt) (z1 : z.toInt ≤ 4096) (c0 : 0 ≤ tc.toInt) : ∃ (e : Int32) (D : List Int32), f_allocate TP LI LR ma tc 2 LA z = some (e, D) ∧ e.toInt = own_min z.toInt (x.toInt + y.toInt) ∧ D.length = 64 ∧ (gI D 0).toInt = (own_p5 ma.toInt x.toInt y.toInt e.toInt (own_t5 tc.toInt x.toInt e.toInt)).1 ∧ (gI D 1).toInt = (own_p5 ma.toInt x.toInt y.toInt e.toInt (own_t5 tc.toInt x.toInt e.toInt)).2 := by
  have zz : (0 : Int32).toInt = 0 := rfl
  have sxy : (0 + x + y : Int32).toInt = x.toInt + y.toInt := by
    have : (0 + x : Int32) = x := Int32.zero_add x
    rw [this]
    exact iadd_i (by omega) (by omega)
  have st : f_allocate TP LI LR ma tc 2 LA z = f_allocate_27 TP LI LR ma tc 2 LA z (0 + x + y) := by
    unfold f_allocate
    rw [show f_allocate_4 (f_allocate_27 TP LI LR ma tc 2) TP LI LR ma tc 2 100000 LA z 0 0 = _ from own_al4x lR LA z 99997, r0, r1]
  rw [st]
  unfold f_allocate_27 f_allocate_37
  have ee := own_minI (a := z) (b := 0 + x + y)
  rw [sxy] at ee
  generalize (if z < 0 + x + y then z else 0 + x + y) = e at ee
  have eb : 1 ≤ e.toInt ∧ e.toInt ≤ x.toInt + y.toInt ∧ e.toInt ≤ z.toInt := by rw [ee]; unfold own_min; split <;> omega
  obtain ⟨t, ht, B, eB, lB, b0, b1⟩ := own_top5 lT lI lR lA i0 tp r0 a0 x0 (e := e) (by omega) c0
  rw [a1] at b1
  have tb : 0 ≤ t.toInt ∧ t.toInt ≤ x.toInt ∧ t.toInt ≤ e.toInt := by
    rw [ht]
    unfold own_t5 own_min
    split
    · split <;> split <;> omega
    · omega
  rw [eB, Option.bind_some]
  show ∃ (e' : Int32) (D : List Int32), (if (0 : Int32) < e - t then _ else _) = some (e', D) ∧ _
  have se : (e - t).toInt = e.toInt - t.toInt := isub_i (by omega) (by omega)
  by_cases q : 0 < e - t
  · rw [if_pos q]
    rw [ilt, se] at q
    obtain ⟨s1, s2, C, h1, h2, eC, lC, g0, g1⟩ := own_pr5x (ma := ma) lR lB r0 r1 b0 b1 x0 x1 y0 y1 tb.1 tb.2.1 (e2 := e - t) (by omega) (by omega)
    rw [se] at h1 h2
    obtain ⟨k1, k2, k3, k4, k5, k6⟩ := own_r5b (m := ma.toInt) (x := x.toInt) (y := y.toInt) (e := e.toInt) (t := t.toInt) x0 y0 tb.1 tb.2.1 (by omega) eb.2.1
    have rd : own_r5 ma.toInt x.toInt y.toInt e.toInt t.toInt = e.toInt - t.toInt - s1.toInt - s2.toInt := by unfold own_r5; rw [← h1, ← h2]
    rw [← h1] at k1 k2
    rw [← h2] at k3 k4
    rw [eC, Option.bind_some]
    show ∃ (e' : Int32) (D : List Int32), f_allocate_67 TP LI LR ma tc 2 C e (e - t) (0 + s1 + s2) = some (e', D) ∧ _
    unfold f_allocate_67
    have su : (0 + s1 + s2 : Int32).toInt = s1.toInt + s2.toInt := by
      have : (0 + s1 : Int32) = s1 := Int32.zero_add s1
      rw [this]
      exact iadd_i (by omega) (by omega)
    have sr : (e - t - (0 + s1 + s2)).toInt = own_r5 ma.toInt x.toInt y.toInt e.toInt t.toInt := by rw [isub_i (by omega) (by omega), se, su, rd]; omega
    have ct : (t + s1).toInt = t.toInt + s1.toInt := iadd_i (by omega) (by omega)
    have c2 : (0 + s2 : Int32).toInt = s2.toInt := by
      have : (0 + s2 : Int32) = s2 := Int32.zero_add s2
      rw [this]
    obtain ⟨D, eD, lD, d0, d1⟩ := own_ts5 (r := e - t - (0 + s1 + s2)) lR lC r0 r1 g0 g1 x1 y1 (by omega) (by omega) (by omega) (by omega) (by omega) (by omega)
    rw [eD, Option.bind_some]
    refine ⟨e, D, rfl, ee, lD, ?_, ?_⟩
    · rw [d0, sr, ct, ← ht]
      unfold own_p5
      rw [if_pos (by omega), ← h1]
    · rw [d1, sr, ct, c2, ← ht]
      unfold own_p5
      rw [if_pos (by omega), ← h1, ← h2]
  · rw [if_neg q]
    rw [ilt, se] at q
    unfold f_allocate_67
    have sr : (e - t - 0).toInt = 0 := by rw [isub_i (by omega) (by omega), se, zz]; omega
    obtain ⟨D, eD, lD, d0, d1⟩ := own_ts5 (r := e - t - 0) lR lB r0 r1 b0 b1 x1 y1 tb.1 (by omega) tb.2.1 (by omega) (by omega) (by omega)
    rw [eD, Option.bind_some]
    have m0 : own_min 0 (x.toInt - t.toInt) = 0 := by unfold own_min; split <;> omega
    have m1 : own_min (0 - 0) (y.toInt - 0) = 0 := by unfold own_min; split <;> omega
    refine ⟨e, D, rfl, ee, lD, ?_, ?_⟩
    · rw [d0, sr, m0, ← ht]
      unfold own_p5
      rw [if_neg (by omega)]
      omega
    · rw [d1, sr, m0, zz, m1, ← ht]
      unfold own_p5
      rw [if_neg (by omega)]
      rfl
theorem own_idiv {a b : Int32} (h0 : 0 ≤ a.toInt) (hb : 0 < b.toInt) : (a / b).toInt = a.toInt / b.toInt := by
  have em : (-1 : Int32).toInt = -1 := rfl
  rw [Int32.toInt_div_of_ne_right _ _ (fun z => by rw [ieq, em] at z; omega), Int.tdiv_eq_ediv_of_nonneg h0]
theorem own_132 {v0 v1 x y z m e T : Int32} (x0 : 1 ≤ x.toInt) (x1 : x.toInt ≤ 1024) (y0 : 1 ≤ y.toInt) (y1 : y.toInt ≤ 1024) (e0 : 1 ≤ e.toInt) (e1 : e.toInt ≤ x.toInt + y.toInt) (t0 : 0 ≤ T.toInt) (tx : T.toInt ≤ x.toInt) (te : T.toInt ≤ e.toInt) : ∃ a1 a2 : Int32, f_L_law_132 v0 v1 x y z m e T = f_L_law_289 v0 v1 x y z e a1 a2 ∧ a1.toInt = (own_p5 m.toInt x.toInt y.toInt e.toInt T.toInt).1 ∧ a2.toInt = (own_p5 m.toInt x.toInt y.toInt e.toInt T.toInt).2 := by
  have zz : (0 : Int32).toInt = 0 := rfl
  have se : (e - T).toInt = e.toInt - T.toInt := isub_i (by omega) (by omega)
  have sx : (x - T).toInt = x.toInt - T.toInt := isub_i (by omega) (by omega)
  have ss : (x - T + y).toInt = x.toInt - T.toInt + y.toInt := by rw [iadd_i (by omega) (by omega), sx]
  unfold f_L_law_132
  by_cases q : 0 < e - T
  · have q' := ilt.mp q
    have nz : ¬ x - T + y = 0 := by rw [ieq]; omega
    rw [if_pos q, if_neg nz, if_neg nz]
    have div : ∀ u : Int32, 0 ≤ u.toInt → u.toInt ≤ 1024 → (((e - T) * u) / (x - T + y)).toInt = (e.toInt - T.toInt) * u.toInt / (x.toInt - T.toInt + y.toInt) := by
      intro u u0 u1
      have m0 : 0 ≤ (e.toInt - T.toInt) * u.toInt := Int.mul_nonneg (by omega) u0
      have m1 : (e.toInt - T.toInt) * u.toInt ≤ 2048 * 1024 := Int.mul_le_mul (by omega) u1 u0 (by omega)
      have ml : ((e - T) * u).toInt = (e.toInt - T.toInt) * u.toInt := by rw [imul_i (by rw [se]; omega) (by rw [se]; omega), se]
      rw [own_idiv (by rw [ml]; exact m0) (by omega), ml, ss]
    obtain ⟨k1, k2, k3, k4, k5, k6⟩ := own_r5b (m := m.toInt) (x := x.toInt) (y := y.toInt) (e := e.toInt) (t := T.toInt) x0 y0 t0 tx (by omega) e1
    have h1 := own_cutI (a := ((e - T) * (x - T)) / (x - T + y)) (m := m)
    rw [div (x - T) (by omega) (by omega), sx] at h1
    have h2 := own_cutI (a := ((e - T) * y) / (x - T + y)) (m := m)
    rw [div y (by omega) (by omega)] at h2
    unfold f_L_law_190 f_L_law_200 f_L_law_244 f_L_law_280
    generalize (if ((e - T) * (x - T)) / (x - T + y) < m then (0 : Int32) else ((e - T) * (x - T)) / (x - T + y)) = s1 at h1
    generalize (if ((e - T) * y) / (x - T + y) < m then (0 : Int32) else ((e - T) * y) / (x - T + y)) = s2 at h2
    have rd : own_r5 m.toInt x.toInt y.toInt e.toInt T.toInt = e.toInt - T.toInt - s1.toInt - s2.toInt := by unfold own_r5; rw [← h1, ← h2]
    rw [← h1] at k1 k2
    rw [← h2] at k3 k4
    have sr1 : (e - T - s1).toInt = e.toInt - T.toInt - s1.toInt := by rw [isub_i (by omega) (by omega), se]
    have sr : (e - T - s1 - s2).toInt = own_r5 m.toInt x.toInt y.toInt e.toInt T.toInt := by rw [isub_i (by omega) (by omega), sr1, rd]
    have ct : (T + s1).toInt = T.toInt + s1.toInt := iadd_i (by omega) (by omega)
    have cx : (x - (T + s1)).toInt = x.toInt - (T.toInt + s1.toInt) := by rw [isub_i (by omega) (by omega), ct]
    have c2 : (0 + s2 : Int32).toInt = s2.toInt := by
      have : (0 + s2 : Int32) = s2 := Int32.zero_add s2
      rw [this]
    have cy : (y - (0 + s2)).toInt = y.toInt - s2.toInt := by rw [isub_i (by omega) (by omega), c2]
    have g1 := own_minI (a := e - T - s1 - s2) (b := x - (T + s1))
    rw [sr, cx] at g1
    generalize (if e - T - s1 - s2 < x - (T + s1) then e - T - s1 - s2 else x - (T + s1)) = w1 at g1
    have b1 : 0 ≤ w1.toInt ∧ w1.toInt ≤ x.toInt - (T.toInt + s1.toInt) ∧ w1.toInt ≤ own_r5 m.toInt x.toInt y.toInt e.toInt T.toInt := by rw [g1]; unfold own_min; split <;> omega
    have sr2 : (e - T - s1 - s2 - w1).toInt = own_r5 m.toInt x.toInt y.toInt e.toInt T.toInt - w1.toInt := by rw [isub_i (by omega) (by omega), sr]
    have g2 := own_minI (a := e - T - s1 - s2 - w1) (b := y - (0 + s2))
    rw [sr2, cy] at g2
    generalize (if e - T - s1 - s2 - w1 < y - (0 + s2) then e - T - s1 - s2 - w1 else y - (0 + s2)) = w2 at g2
    have b2 : 0 ≤ w2.toInt ∧ w2.toInt ≤ y.toInt - s2.toInt := by rw [g2]; unfold own_min; split <;> omega
    refine ⟨_, _, rfl, ?_, ?_⟩
    · rw [iadd_i (by omega) (by omega), ct, g1]
      unfold own_p5
      rw [if_pos (by omega), ← h1]
    · rw [iadd_i (by omega) (by omega), c2, g2, g1]
      unfold own_p5
      rw [if_pos (by omega), ← h1, ← h2]
  · rw [if_neg q]
    rw [ilt, se] at q
    refine ⟨T, 0, rfl, ?_, ?_⟩
    · unfold own_p5
      rw [if_neg (by omega)]
    · unfold own_p5
      rw [if_neg (by omega)]
      rfl
theorem own_p5b {m x y e t : Int} (hx : 1 ≤ x) (hy : 1 ≤ y) (e0 : 1 ≤ e) (es : e ≤ x + y) (t0 : 0 ≤ t) (tx : t ≤ x) (te : t ≤ e) : 0 ≤ (own_p5 m x y e t).1 ∧ (own_p5 m x y e t).1 ≤ x ∧ 0 ≤ (own_p5 m x y e t).2 ∧ (own_p5 m x y e t).2 ≤ y ∧ (own_p5 m x y e t).1 + (own_p5 m x y e t).2 = e := by
  unfold own_p5
  by_cases q : 0 < e - t
  · obtain ⟨k1, k2, k3, k4, k5, k6⟩ := own_r5b (m := m) hx hy t0 tx (by omega) es
    rw [if_pos q]
    have rd : own_r5 m x y e t = (e - t) - own_cut m ((e - t) * (x - t) / ((x - t) + y)) - own_cut m ((e - t) * y / ((x - t) + y)) := rfl
    generalize own_cut m ((e - t) * (x - t) / ((x - t) + y)) = s1 at *
    generalize own_cut m ((e - t) * y / ((x - t) + y)) = s2 at *
    generalize own_r5 m x y e t = r at *
    show 0 ≤ t + s1 + own_min r (x - (t + s1)) ∧ t + s1 + own_min r (x - (t + s1)) ≤ x ∧ 0 ≤ s2 + own_min (r - own_min r (x - (t + s1))) (y - s2) ∧ s2 + own_min (r - own_min r (x - (t + s1))) (y - s2) ≤ y ∧ t + s1 + own_min r (x - (t + s1)) + (s2 + own_min (r - own_min r (x - (t + s1))) (y - s2)) = e
    unfold own_min
    split <;> split <;> omega
  · rw [if_neg q]
    show 0 ≤ t ∧ t ≤ x ∧ (0 : Int) ≤ 0 ∧ (0 : Int) ≤ y ∧ t + 0 = e
    omega
theorem own_t5b {c x e : Int} (hc : 0 ≤ c) (hx : 1 ≤ x) (he : 1 ≤ e) : 0 ≤ own_t5 c x e ∧ own_t5 c x e ≤ x ∧ own_t5 c x e ≤ e := by
  unfold own_t5 own_min
  split
  · split <;> split <;> omega
  · omega
theorem own_95 {v0 v1 x y z m c : Int32} (x0 : 1 ≤ x.toInt) (x1 : x.toInt ≤ 1024) (y0 : 1 ≤ y.toInt) (y1 : y.toInt ≤ 1024) (z0 : 1 ≤ z.toInt) (z1 : z.toInt ≤ 4096) (c0 : 0 ≤ c.toInt) : ∃ e a1 a2 : Int32, f_L_law_73 v0 v1 x y z m c = f_L_law_289 v0 v1 x y z e a1 a2 ∧ e.toInt = own_min z.toInt (x.toInt + y.toInt) ∧ a1.toInt = (own_p5 m.toInt x.toInt y.toInt e.toInt (own_t5 c.toInt x.toInt e.toInt)).1 ∧ a2.toInt = (own_p5 m.toInt x.toInt y.toInt e.toInt (own_t5 c.toInt x.toInt e.toInt)).2 := by
  have zz : (0 : Int32).toInt = 0 := rfl
  have sxy : (x + y).toInt = x.toInt + y.toInt := iadd_i (by omega) (by omega)
  unfold f_L_law_73 f_L_law_95
  have ee := own_minI (a := z) (b := x + y)
  rw [sxy] at ee
  generalize (if z < x + y then z else x + y) = e at ee
  have eb : 1 ≤ e.toInt ∧ e.toInt ≤ x.toInt + y.toInt := by rw [ee]; unfold own_min; split <;> omega
  have tb := own_t5b (c := c.toInt) (x := x.toInt) (e := e.toInt) c0 x0 eb.1
  by_cases q : 0 < c
  · have q' := ilt.mp q
    rw [if_pos q]
    unfold f_L_law_119
    have t1 := own_minI (a := e) (b := x)
    generalize (if e < x then e else x) = w at t1
    have t2 := own_minI (a := c) (b := w)
    rw [t1] at t2
    generalize (if c < w then c else w) = T at t2
    have tt5 : own_t5 c.toInt x.toInt e.toInt = T.toInt := by unfold own_t5; rw [if_pos (by omega), t2]
    rw [tt5] at tb
    obtain ⟨a1, a2, h1, h2, h3⟩ := own_132 (v0 := v0) (v1 := v1) (z := z) (m := m) x0 x1 y0 y1 eb.1 eb.2 tb.1 tb.2.1 tb.2.2
    exact ⟨e, a1, a2, h1, ee, by rw [tt5]; exact h2, by rw [tt5]; exact h3⟩
  · rw [if_neg q]
    rw [ilt] at q
    have tt5 : own_t5 c.toInt x.toInt e.toInt = (0 : Int32).toInt := by unfold own_t5; rw [if_neg (by omega)]; rfl
    obtain ⟨a1, a2, h1, h2, h3⟩ := own_132 (v0 := v0) (v1 := v1) (z := z) (m := m) (T := 0) x0 x1 y0 y1 eb.1 eb.2 (by omega) (by omega) (by omega)
    exact ⟨e, a1, a2, h1, ee, by rw [tt5]; exact h2, by rw [tt5]; exact h3⟩
abbrev own_S5 (RM FL ST TP RI FI FQ FP : List Int32) (RN FN : Int32) (x y p r : Int) : Prop := (RM.length = 256) ∧ (FL.length = 256) ∧ (ST.length = 256) ∧ (TP.length = 256) ∧ (FI.length = 64) ∧ (FQ.length = 64) ∧ (FP.length = 64) ∧ (own_W RI RN 2) ∧ (∀ v : Int32, own_mem RI RN v ↔ (v = 1 ∧ p < x) ∨ (v = 2 ∧ r < y)) ∧ ((gI RM 1).toInt = x - p) ∧ ((gI RM 2).toInt = y - r) ∧ ((gI FL 1).toInt = p) ∧ ((gI FL 2).toInt = r) ∧ (gI FL 3 = 0) ∧ (gI ST 1 = if p = x then 2 else 1) ∧ (gI ST 2 = if r = y then 2 else 1) ∧ (p < x → gI TP 1 = 1) ∧ (FN.toInt = (if 0 < p then 1 else 0) + (if 0 < r then 1 else 0)) ∧ (0 < p → gI FI 0 = 1 ∧ (gI FQ 0).toInt = p ∧ gI FP 0 = 100) ∧ (0 < r → gI FI (if 0 < p then 1 else 0) = 2 ∧ (gI FQ (if 0 < p then 1 else 0)).toInt = r ∧ gI FP (if 0 < p then 1 else 0) = 100)
theorem own_S5.lM {RM FL ST TP RI FI FQ FP : List Int32} {RN FN : Int32} {x y p r : Int} (self : own_S5 RM FL ST TP RI FI FQ FP RN FN x y p r) : RM.length = 256 := self.1
theorem own_S5.lF {RM FL ST TP RI FI FQ FP : List Int32} {RN FN : Int32} {x y p r : Int} (self : own_S5 RM FL ST TP RI FI FQ FP RN FN x y p r) : FL.length = 256 := self.2.1
theorem own_S5.lS {RM FL ST TP RI FI FQ FP : List Int32} {RN FN : Int32} {x y p r : Int} (self : own_S5 RM FL ST TP RI FI FQ FP RN FN x y p r) : ST.length = 256 := self.2.2.1
theorem own_S5.lT {RM FL ST TP RI FI FQ FP : List Int32} {RN FN : Int32} {x y p r : Int} (self : own_S5 RM FL ST TP RI FI FQ FP RN FN x y p r) : TP.length = 256 := self.2.2.2.1
theorem own_S5.lI {RM FL ST TP RI FI FQ FP : List Int32} {RN FN : Int32} {x y p r : Int} (self : own_S5 RM FL ST TP RI FI FQ FP RN FN x y p r) : FI.length = 64 := self.2.2.2.2.1
theorem own_S5.lQ {RM FL ST TP RI FI FQ FP : List Int32} {RN FN : Int32} {x y p r : Int} (self : own_S5 RM FL ST TP RI FI FQ FP RN FN x y p r) : FQ.length = 64 := self.2.2.2.2.2.1
theorem own_S5.lP {RM FL ST TP RI FI FQ FP : List Int32} {RN FN : Int32} {x y p r : Int} (self : own_S5 RM FL ST TP RI FI FQ FP RN FN x y p r) : FP.length = 64 := self.2.2.2.2.2.2.1
theorem own_S5.w {RM FL ST TP RI FI FQ FP : List Int32} {RN FN : Int32} {x y p r : Int} (self : own_S5 RM FL ST TP RI FI FQ FP RN FN x y p r) : own_W RI RN 2 := self.2.2.2.2.2.2.2.1
theorem own_S5.me {RM FL ST TP RI FI FQ FP : List Int32} {RN FN : Int32} {x y p r : Int} (self : own_S5 RM FL ST TP RI FI FQ FP RN FN x y p r) : ∀ v : Int32, own_mem RI RN v ↔ (v = 1 ∧ p < x) ∨ (v = 2 ∧ r < y) := self.2.2.2.2.2.2.2.2.1
theorem own_S5.m1 {RM FL ST TP RI FI FQ FP : List Int32} {RN FN : Int32} {x y p r : Int} (self : own_S5 RM FL ST TP RI FI FQ FP RN FN x y p r) : (gI RM 1).toInt = x - p := self.2.2.2.2.2.2.2.2.2.1
theorem own_S5.m2 {RM FL ST TP RI FI FQ FP : List Int32} {RN FN : Int32} {x y p r : Int} (self : own_S5 RM FL ST TP RI FI FQ FP RN FN x y p r) : (gI RM 2).toInt = y - r := self.2.2.2.2.2.2.2.2.2.2.1
theorem own_S5.f1 {RM FL ST TP RI FI FQ FP : List Int32} {RN FN : Int32} {x y p r : Int} (self : own_S5 RM FL ST TP RI FI FQ FP RN FN x y p r) : (gI FL 1).toInt = p := self.2.2.2.2.2.2.2.2.2.2.2.1
theorem own_S5.f2 {RM FL ST TP RI FI FQ FP : List Int32} {RN FN : Int32} {x y p r : Int} (self : own_S5 RM FL ST TP RI FI FQ FP RN FN x y p r) : (gI FL 2).toInt = r := self.2.2.2.2.2.2.2.2.2.2.2.2.1
theorem own_S5.f3 {RM FL ST TP RI FI FQ FP : List Int32} {RN FN : Int32} {x y p r : Int} (self : own_S5 RM FL ST TP RI FI FQ FP RN FN x y p r) : gI FL 3 = 0 := self.2.2.2.2.2.2.2.2.2.2.2.2.2.1
theorem own_S5.s1 {RM FL ST TP RI FI FQ FP : List Int32} {RN FN : Int32} {x y p r : Int} (self : own_S5 RM FL ST TP RI FI FQ FP RN FN x y p r) : gI ST 1 = if p = x then 2 else 1 := self.2.2.2.2.2.2.2.2.2.2.2.2.2.2.1
theorem own_S5.s2 {RM FL ST TP RI FI FQ FP : List Int32} {RN FN : Int32} {x y p r : Int} (self : own_S5 RM FL ST TP RI FI FQ FP RN FN x y p r) : gI ST 2 = if r = y then 2 else 1 := self.2.2.2.2.2.2.2.2.2.2.2.2.2.2.2.1
theorem own_S5.t1 {RM FL ST TP RI FI FQ FP : List Int32} {RN FN : Int32} {x y p r : Int} (self : own_S5 RM FL ST TP RI FI FQ FP RN FN x y p r) : p < x → gI TP 1 = 1 := self.2.2.2.2.2.2.2.2.2.2.2.2.2.2.2.2.1
theorem own_S5.n {RM FL ST TP RI FI FQ FP : List Int32} {RN FN : Int32} {x y p r : Int} (self : own_S5 RM FL ST TP RI FI FQ FP RN FN x y p r) : FN.toInt = (if 0 < p then 1 else 0) + (if 0 < r then 1 else 0) := self.2.2.2.2.2.2.2.2.2.2.2.2.2.2.2.2.2.1
theorem own_S5.l1 {RM FL ST TP RI FI FQ FP : List Int32} {RN FN : Int32} {x y p r : Int} (self : own_S5 RM FL ST TP RI FI FQ FP RN FN x y p r) : 0 < p → gI FI 0 = 1 ∧ (gI FQ 0).toInt = p ∧ gI FP 0 = 100 := self.2.2.2.2.2.2.2.2.2.2.2.2.2.2.2.2.2.2.1
theorem own_S5.l2 {RM FL ST TP RI FI FQ FP : List Int32} {RN FN : Int32} {x y p r : Int} (self : own_S5 RM FL ST TP RI FI FQ FP RN FN x y p r) : 0 < r → gI FI (if 0 < p then 1 else 0) = 2 ∧ (gI FQ (if 0 < p then 1 else 0)).toInt = r ∧ gI FP (if 0 < p then 1 else 0) = 100 := self.2.2.2.2.2.2.2.2.2.2.2.2.2.2.2.2.2.2.2
theorem own_ap1 {LI LA RM FL ST TP RI FI FQ FP : List Int32} {LN RN FN v1 v2 acc id a r : Int32} {n : Nat} {Q : List Int32 × List Int32 × List Int32 × List Int32 × List Int32 × List Int32 × List Int32 × List Int32 × Int32 × Int32 → Prop} (lLI : LI.length = 64) (lLA : LA.length = 64) (lM : RM.length = 256) (lF : FL.length = 256) (lS : ST.length = 256) (lT : TP.length = 256) (lI : FI.length = 64) (lQ : FQ.length = 64) (lP : FP.length = 64) (v0 : 0 ≤ v2.toInt) (v64 : v2.toInt < 64) (cc : v2.toInt < LN.toInt) (hid : gI LI v2 = id) (i0 : 0 ≤ id.toInt) (i1 : id.toInt < 256) (w : own_W RI RN acc) (ha : gI LA v2 = a) (hr : gI RM id = r) (a0 : 0 ≤ a.toInt) (ar : a.toInt ≤ r.toInt) (r2 : r.toInt ≤ 10000) (f0 : 0 ≤ FN.toInt) (f1 : FN.toInt < 64)
    (h0 : a.toInt = 0 → Tot (f_applyLevel_2 LI LA LN n RM FL ST TP RI FI FQ FP RN FN v1 (v2 + 1)) Q)
    (h1 : 0 < a.toInt → a.toInt < r.toInt → Tot (f_applyLevel_2 LI LA LN n (RM.set id.toInt.toNat (r - a)) (FL.set id.toInt.toNat (gI FL id + a)) ST TP RI (FI.set FN.toInt.toNat id) (FQ.set FN.toInt.toNat a) (FP.set FN.toInt.toNat v1) RN (FN + 1) v1 (v2 + 1)) Q)
    (h2 : 0 < a.toInt → a.toInt = r.toInt → ∀ (RI' : List Int32) (RN' : Int32), own_W RI' RN' acc → (∀ x, own_mem RI' RN' x ↔ own_mem RI RN x ∧ x ≠ id) → Tot (f_applyLevel_2 LI LA LN n ((RM.set id.toInt.toNat (r - a)).set id.toInt.toNat 0) (FL.set id.toInt.toNat (gI FL id + a)) (ST.set id.toInt.toNat 2) (TP.set id.toInt.toNat 0) RI' (FI.set FN.toInt.toNat id) (FQ.set FN.toInt.toNat a) (FP.set FN.toInt.toNat v1) RN' (FN + 1) v1 (v2 + 1)) Q) :
    Tot (f_applyLevel_2 LI LA LN (n + 1) RM FL ST TP RI FI FQ FP RN FN v1 v2) Q := by
  have e0 : (0 : Int32).toInt = 0 := rfl
  have e64 : (64 : Int32).toInt = 64 := rfl
  rw [f_applyLevel_2, if_pos (by rw [ilt]; exact cc), rdg v0 (by omega), Option.bind_some, ha]
  refine own_iL (fun c1 => ?_) (fun c1 => h0 (by omega))
  rw [rdg v0 (by omega), Option.bind_some, hid]
  refine own_iL (fun c3 => ?_) (fun c3 => by omega)
  rw [wrA_in f0 (by omega), Option.bind_some, wrA_in f0 (by omega), Option.bind_some, wrA_in f0 (by omega), Option.bind_some]
  unfold f_applyLevel_82
  have lM1 : (RM.set id.toInt.toNat (r - a)).length = 256 := by rw [List.length_set]; exact lM
  have sub : (r - a).toInt = r.toInt - a.toInt := isub_i (by omega) (by omega)
  rw [rdg i0 (by omega), Option.bind_some, hr, wrA_in i0 (by omega), Option.bind_some, rdg i0 (by omega), Option.bind_some, wrA_in i0 (by omega), Option.bind_some, rdg i0 (by omega), Option.bind_some, gset i0 (by omega) i0, if_pos rfl]
  refine own_iL (fun c2 => h1 (by omega) (by omega)) (fun c2 => ?_)
  rw [wrA_in i0 (by omega), Option.bind_some, wrA_in i0 (by omega), Option.bind_some, wrA_in i0 (by omega), Option.bind_some]
  refine Tot.bind (own_rm w id) ?_
  rintro ⟨RI', RN'⟩ ⟨w', _, hi, _⟩
  exact h2 (by omega) (by omega) RI' RN' w' hi
theorem own_ap50 {LI LA RM FL ST TP RI FI FQ FP : List Int32} {RN FN a : Int32} {x y : Int} {n : Nat} {Q : List Int32 × List Int32 × List Int32 × List Int32 × List Int32 × List Int32 × List Int32 × List Int32 × Int32 × Int32 → Prop} (lLI : LI.length = 64) (lLA : LA.length = 64) (S : own_S5 RM FL ST TP RI FI FQ FP RN FN x y 0 0) (hid : gI LI 0 = 1) (ha : gI LA 0 = a) (x1 : 1 ≤ x) (x2 : x ≤ 1024) (y1 : 1 ≤ y) (a0 : 0 ≤ a.toInt) (ax : a.toInt ≤ x)
    (hk : ∀ (RM FL ST TP RI FI FQ FP : List Int32) (RN FN : Int32), own_S5 RM FL ST TP RI FI FQ FP RN FN x y a.toInt 0 → Tot (f_applyLevel_2 LI LA 2 n RM FL ST TP RI FI FQ FP RN FN 100 1) Q) : Tot (f_applyLevel_2 LI LA 2 (n + 1) RM FL ST TP RI FI FQ FP RN FN 100 0) Q := by
  have e0 : (0 : Int32).toInt = 0 := rfl
  have e1 : (1 : Int32).toInt = 1 := rfl
  have e2 : (2 : Int32).toInt = 2 := rfl
  obtain ⟨lM, lF, lS, lT, lI, lQ, lP, w, me, m1, m2, f1, f2, f3, s1, s2, t1, nn, l1, l2⟩ := S
  have fn : FN = 0 := by rw [ieq, nn]; simp
  subst fn
  have z01 : (0 : Int32) + 1 = 1 := rfl
  have k2 : ∀ L : List Int32, L.length = 256 → ∀ v j : Int32, 0 ≤ j.toInt → gI (L.set (1 : Int32).toInt.toNat v) j = if 1 = j then v else gI L j := fun L l v j hj => gset (by decide) (by rw [l]; decide) hj
  have k6 : ∀ L : List Int32, L.length = 64 → ∀ v j : Int32, 0 ≤ j.toInt → gI (L.set (0 : Int32).toInt.toNat v) j = if 0 = j then v else gI L j := fun L l v j hj => gset (by decide) (by rw [l]; decide) hj
  have ad : (gI FL 1 + a).toInt = a.toInt := by rw [iadd_i (by omega) (by omega), f1]; omega
  have sub : (gI RM 1 - a).toInt = x - a.toInt := by rw [isub_i (by omega) (by omega), m1]; omega
  refine own_ap1 lLI lLA lM lF lS lT lI lQ lP (by decide) (by decide) (by decide) hid (by decide) (by decide) w ha rfl a0 (by omega) (by omega) (by decide) (by decide) (fun z => ?_) (fun z1 z2 => ?_) (fun z1 z2 RI' RN' w' hi => ?_)
  · rw [z01]
    refine hk _ _ _ _ _ _ _ _ _ _ ?_
    rw [z]
    exact ⟨lM, lF, lS, lT, lI, lQ, lP, w, me, m1, m2, f1, f2, f3, s1, s2, t1, nn, l1, l2⟩
  · rw [z01]
    refine hk _ _ _ _ _ _ _ _ _ _ ⟨by rw [List.length_set]; exact lM, by rw [List.length_set]; exact lF, lS, lT, by rw [List.length_set]; exact lI, by rw [List.length_set]; exact lQ, by rw [List.length_set]; exact lP, w, ?_, ?_, ?_, ?_, ?_, ?_, ?_, s2, ?_, ?_, ?_, ?_⟩
    · intro v
      rw [me v]
      constructor
      · rintro (⟨q1, q2⟩ | q)
        · exact Or.inl ⟨q1, by omega⟩
        · exact Or.inr q
      · rintro (⟨q1, q2⟩ | q)
        · exact Or.inl ⟨q1, by omega⟩
        · exact Or.inr q
    · rw [k2 _ lM _ _ (by decide), if_pos rfl, sub]
    · rw [k2 _ lM _ _ (by decide), if_neg (by decide)]; exact m2
    · rw [k2 _ lF _ _ (by decide), if_pos rfl, ad]
    · rw [k2 _ lF _ _ (by decide), if_neg (by decide)]; exact f2
    · rw [k2 _ lF _ _ (by decide), if_neg (by decide)]; exact f3
    · rw [s1, if_neg (by omega), if_neg (by omega)]
    · intro _; exact t1 (by omega)
    · rw [if_pos z1, e1]; simp
    · intro _
      rw [k6 _ lI _ _ (by decide), k6 _ lQ _ _ (by decide), k6 _ lP _ _ (by decide), if_pos rfl, if_pos rfl, if_pos rfl]
      exact ⟨rfl, rfl, rfl⟩
    · intro q; omega
  · rw [z01]
    have az : a.toInt = x := by omega
    have lM1 : (RM.set (1 : Int32).toInt.toNat (gI RM 1 - a)).length = 256 := by rw [List.length_set]; exact lM
    refine hk _ _ _ _ _ _ _ _ _ _ ⟨by rw [List.length_set]; exact lM1, by rw [List.length_set]; exact lF, by rw [List.length_set]; exact lS, by rw [List.length_set]; exact lT, by rw [List.length_set]; exact lI, by rw [List.length_set]; exact lQ, by rw [List.length_set]; exact lP, w', ?_, ?_, ?_, ?_, ?_, ?_, ?_, ?_, ?_, ?_, ?_, ?_⟩
    · intro v
      rw [hi v, me v]
      constructor
      · rintro ⟨⟨q1, q2⟩ | q, q3⟩
        · exact absurd q1 q3
        · exact Or.inr q
      · rintro (⟨q1, q2⟩ | q)
        · omega
        · exact ⟨Or.inr q, by rw [q.1]; decide⟩
    · rw [k2 _ lM1 _ _ (by decide), if_pos rfl, e0]; omega
    · rw [k2 _ lM1 _ _ (by decide), if_neg (by decide), k2 _ lM _ _ (by decide), if_neg (by decide)]; exact m2
    · rw [k2 _ lF _ _ (by decide), if_pos rfl, ad]
    · rw [k2 _ lF _ _ (by decide), if_neg (by decide)]; exact f2
    · rw [k2 _ lF _ _ (by decide), if_neg (by decide)]; exact f3
    · rw [k2 _ lS _ _ (by decide), if_pos rfl, if_pos az]
    · rw [k2 _ lS _ _ (by decide), if_neg (by decide)]; exact s2
    · intro q; omega
    · rw [if_pos z1, e1]; simp
    · intro _
      rw [k6 _ lI _ _ (by decide), k6 _ lQ _ _ (by decide), k6 _ lP _ _ (by decide), if_pos rfl, if_pos rfl, if_pos rfl]
      exact ⟨rfl, rfl, rfl⟩
    · intro q; omega
theorem own_ap51 {LI LA RM FL ST TP RI FI FQ FP : List Int32} {RN FN a : Int32} {x y p : Int} {n : Nat} (lLI : LI.length = 64) (lLA : LA.length = 64) (S : own_S5 RM FL ST TP RI FI FQ FP RN FN x y p 0) (hid : gI LI 1 = 2) (ha : gI LA 1 = a) (y1 : 1 ≤ y) (y2 : y ≤ 1024) (a0 : 0 ≤ a.toInt) (ay : a.toInt ≤ y) : Tot (f_applyLevel_2 LI LA 2 (n + 2) RM FL ST TP RI FI FQ FP RN FN 100 1) (fun (RM, FL, ST, TP, RI, FI, FQ, FP, RN, FN) => own_S5 RM FL ST TP RI FI FQ FP RN FN x y p a.toInt) := by
  have e0 : (0 : Int32).toInt = 0 := rfl
  have e1 : (1 : Int32).toInt = 1 := rfl
  have e2 : (2 : Int32).toInt = 2 := rfl
  obtain ⟨lM, lF, lS, lT, lI, lQ, lP, w, me, m1, m2, f1, f2, f3, s1, s2, t1, nn, l1, l2⟩ := S
  rw [if_neg (show ¬ (0 : Int) < 0 by omega), Int.add_zero] at nn
  -- where the log stands
  obtain ⟨k, hk, hn, kz⟩ : ∃ k : Int32, k = (if 0 < p then 1 else 0) ∧ FN = k ∧ (k = 0 ∨ k = 1) := by
    refine ⟨_, rfl, ?_, ?_⟩
    · rw [ieq, nn]; split <;> rfl
    · split <;> simp
  subst hn
  have fb : 0 ≤ FN.toInt ∧ FN.toInt < 64 ∧ FN.toInt ≤ 1 := by rcases kz with h | h <;> rw [h] <;> decide
  have pF : (FN + 1).toInt = FN.toInt + 1 := own_p1 (by omega)
  have z12 : (1 : Int32) + 1 = 2 := rfl
  have endd : ∀ (m : Nat) (RM FL ST TP RI FI FQ FP : List Int32) (RN FN : Int32) (Q : List Int32 × List Int32 × List Int32 × List Int32 × List Int32 × List Int32 × List Int32 × List Int32 × Int32 × Int32 → Prop), Q (RM, FL, ST, TP, RI, FI, FQ, FP, RN, FN) → Tot (f_applyLevel_2 LI LA 2 (m + 1) RM FL ST TP RI FI FQ FP RN FN 100 2) Q := by
    intro m RM FL ST TP RI FI FQ FP RN FN Q h
    rw [f_applyLevel_2, if_neg (by decide)]
    exact Tot.mk h
  have k2 : ∀ L : List Int32, L.length = 256 → ∀ v j : Int32, 0 ≤ j.toInt → gI (L.set (2 : Int32).toInt.toNat v) j = if 2 = j then v else gI L j := fun L l v j hj => gset (by decide) (by rw [l]; decide) hj
  have k6 : ∀ L : List Int32, L.length = 64 → ∀ v j : Int32, 0 ≤ j.toInt → gI (L.set FN.toInt.toNat v) j = if FN = j then v else gI L j := fun L l v j hj => gset fb.1 (by omega) hj
  have ad : (gI FL 2 + a).toInt = a.toInt := by rw [iadd_i (by omega) (by omega), f2]; omega
  have sub : (gI RM 2 - a).toInt = y - a.toInt := by rw [isub_i (by omega) (by omega), m2]; omega
  have old : ∀ L : List Int32, L.length = 64 → ∀ v : Int32, 0 < p → gI (L.set FN.toInt.toNat v) 0 = gI L 0 := by
    intro L l v hp
    rw [k6 L l v 0 (by decide), if_neg]
    rw [hk, if_pos hp]
    decide
  refine own_ap1 lLI lLA lM lF lS lT lI lQ lP (by decide) (by decide) (by decide) hid (by decide) (by decide) w ha rfl a0 (by omega) (by omega) fb.1 fb.2.1 (fun z => ?_) (fun z1 z2 => ?_) (fun z1 z2 RI' RN' w' hi => ?_)
  · rw [z12]
    refine endd n _ _ _ _ _ _ _ _ _ _ _ ?_
    show own_S5 RM FL ST TP RI FI FQ FP RN FN x y p a.toInt
    rw [z]
    exact ⟨lM, lF, lS, lT, lI, lQ, lP, w, me, m1, m2, f1, f2, f3, s1, s2, t1, by rw [nn]; simp, l1, l2⟩
  · rw [z12]
    refine endd n _ _ _ _ _ _ _ _ _ _ _ ?_
    refine ⟨by rw [List.length_set]; exact lM, by rw [List.length_set]; exact lF, lS, lT, by rw [List.length_set]; exact lI, by rw [List.length_set]; exact lQ, by rw [List.length_set]; exact lP, w, ?_, ?_, ?_, ?_, ?_, ?_, s1, ?_, t1, ?_, ?_, ?_⟩
    · intro v
      rw [me v]
      constructor
      · rintro (q | ⟨q1, q2⟩)
        · exact Or.inl q
        · exact Or.inr ⟨q1, by omega⟩
      · rintro (q | ⟨q1, q2⟩)
        · exact Or.inl q
        · exact Or.inr ⟨q1, by omega⟩
    · rw [k2 _ lM _ _ (by decide), if_neg (by decide)]; exact m1
    · rw [k2 _ lM _ _ (by decide), if_pos rfl, sub]
    · rw [k2 _ lF _ _ (by decide), if_neg (by decide)]; exact f1
    · rw [k2 _ lF _ _ (by decide), if_pos rfl, ad]
    · rw [k2 _ lF _ _ (by decide), if_neg (by decide)]; exact f3
    · rw [s2, if_neg (by omega), if_neg (by omega)]
    · show (FN + 1).toInt = _
      rw [pF, nn, if_pos z1]
    · intro hp
      rw [old _ lI _ hp, old _ lQ _ hp, old _ lP _ hp]
      exact l1 hp
    · intro _
      rw [← hk, k6 _ lI _ _ fb.1, k6 _ lQ _ _ fb.1, k6 _ lP _ _ fb.1, if_pos rfl, if_pos rfl, if_pos rfl]
      exact ⟨rfl, rfl, rfl⟩
  · rw [z12]
    have az : a.toInt = y := by omega
    have lM1 : (RM.set (2 : Int32).toInt.toNat (gI RM 2 - a)).length = 256 := by rw [List.length_set]; exact lM
    refine endd n _ _ _ _ _ _ _ _ _ _ _ ?_
    refine ⟨by rw [List.length_set]; exact lM1, by rw [List.length_set]; exact lF, by rw [List.length_set]; exact lS, by rw [List.length_set]; exact lT, by rw [List.length_set]; exact lI, by rw [List.length_set]; exact lQ, by rw [List.length_set]; exact lP, w', ?_, ?_, ?_, ?_, ?_, ?_, ?_, ?_, ?_, ?_, ?_, ?_⟩
    · intro v
      rw [hi v, me v]
      constructor
      · rintro ⟨q | ⟨q1, q2⟩, q3⟩
        · exact Or.inl q
        · exact absurd q1 q3
      · rintro (q | ⟨q1, q2⟩)
        · exact ⟨Or.inl q, by rw [q.1]; decide⟩
        · omega
    · rw [k2 _ lM1 _ _ (by decide), if_neg (by decide), k2 _ lM _ _ (by decide), if_neg (by decide)]; exact m1
    · rw [k2 _ lM1 _ _ (by decide), if_pos rfl, e0]; omega
    · rw [k2 _ lF _ _ (by decide), if_neg (by decide)]; exact f1
    · rw [k2 _ lF _ _ (by decide), if_pos rfl, ad]
    · rw [k2 _ lF _ _ (by decide), if_neg (by decide)]; exact f3
    · rw [k2 _ lS _ _ (by decide), if_neg (by decide)]; exact s1
    · rw [k2 _ lS _ _ (by decide), if_pos rfl, if_pos az]
    · intro q
      rw [k2 _ lT _ _ (by decide), if_neg (by decide)]; exact t1 q
    · show (FN + 1).toInt = _
      rw [pF, nn, if_pos z1]
    · intro hp
      rw [old _ lI _ hp, old _ lQ _ hp, old _ lP _ hp]
      exact l1 hp
    · intro _
      rw [← hk, k6 _ lI _ _ fb.1, k6 _ lQ _ _ fb.1, k6 _ lP _ _ fb.1, if_pos rfl, if_pos rfl, if_pos rfl]
      exact ⟨rfl, rfl, rfl⟩
theorem own_ml5 {SD PR RM FL ST TP RI FI FQ FP LI LR LA : List Int32} {SP : List Int64} {ma tc LN FN x y z : Int32} {sa sb : Int64} (sd : SD.length = 256) (pr : PR.length = 256) (d1 : gI SD 1 = 1) (d2 : gI SD 2 = 1) (p1 : gI PR 1 = 100) (p2 : gI PR 2 = 100) (i0 : gI RI 0 = 1) (i1 : gI RI 1 = 2) (s1 : rdA SP 1 = some sa) (s2 : rdA SP 2 = some sb) (sl : ¬ sb < sa) (lLI : LI.length = 64) (lLR : LR.length = 64) (lLA : LA.length = 64) (S : own_S5 RM FL ST TP RI FI FQ FP 2 FN x.toInt y.toInt 0 0) (x0 : 1 ≤ x.toInt) (x1 : x.toInt ≤ 1024) (y0 : 1 ≤ y.toInt) (y1 : y.toInt ≤ 1024) (z0 : 1 ≤ z.toInt) (z1 : z.toInt ≤ 4096) (c0 : 0 ≤ tc.toInt) :
    Tot (f_matchLevel SD PR SP ma tc RM FL ST TP RI FI FQ FP LI LR LA 2 FN LN 1 100 z) (fun (e, RM', FL', ST', TP', RI', FI', FQ', FP', LI', LR', LA', RN', FN', LN') => e.toInt = own_min z.toInt (x.toInt + y.toInt) ∧ own_S5 RM' FL' ST' TP' RI' FI' FQ' FP' RN' FN' x.toInt y.toInt (own_p5 ma.toInt x.toInt y.toInt e.toInt (own_t5 tc.toInt x.toInt e.toInt)).1 (own_p5 ma.toInt x.toInt y.toInt e.toInt (own_t5 tc.toInt x.toInt e.toInt)).2) := by
  have lRI := S.w.l
  have lM := S.lM
  have l6 : ∀ (L : List Int32) (v : Int32), L.length = 64 → (L.set (0 : Int32).toInt.toNat v).length = 64 := fun L v l => by rw [List.length_set]; exact l
  have i1' : gI RI (0 + 1) = 2 := i1
  have gat : f_gatherLevel SD PR RI 2 LI LN 1 100 = some ((LI.set (0 : Int32).toInt.toNat 1).set (0 + 1 : Int32).toInt.toNat 2, 2) := by
    have s : ∀ n : Nat, f_gatherLevel_7 SD PR RI 2 (n + 3) LI 0 1 100 0 = some ((LI.set (0 : Int32).toInt.toNat 1).set (0 + 1 : Int32).toInt.toNat 2, 0 + 1 + 1) := by
      intro n
      rw [f_gatherLevel_7, if_pos (by decide), rdg (by decide) (by rw [lRI]; decide), Option.bind_some, i0, rdg (by decide) (by rw [sd]; decide), Option.bind_some, if_pos d1, rdg (by decide) (by rw [pr]; decide), Option.bind_some, if_pos p1, if_pos (by decide), wrA_in (by decide) (by rw [lLI]; decide), Option.bind_some,
        f_gatherLevel_7, if_pos (by decide), rdg (by decide) (by rw [lRI]; decide), Option.bind_some, i1', rdg (by decide) (by rw [sd]; decide), Option.bind_some, if_pos d2, rdg (by decide) (by rw [pr]; decide), Option.bind_some, if_pos p2, if_pos (by decide), wrA_in (by decide) (by rw [l6 LI 1 lLI]; decide), Option.bind_some,
        f_gatherLevel_7, if_neg (by decide)]
    unfold f_gatherLevel
    exact s 99997
  have lL2 : ((LI.set (0 : Int32).toInt.toNat 1).set (0 + 1 : Int32).toInt.toNat 2).length = 64 := by rw [List.length_set]; exact l6 LI 1 lLI
  have g0 : gI ((LI.set (0 : Int32).toInt.toNat 1).set (0 + 1 : Int32).toInt.toNat 2) 0 = 1 := by
    rw [gset (by decide) (by rw [l6 LI 1 lLI]; decide) (by decide), if_neg (by decide), gset (by decide) (by rw [lLI]; decide) (by decide), if_pos rfl]
  have g1 : gI ((LI.set (0 : Int32).toInt.toNat 1).set (0 + 1 : Int32).toInt.toNat 2) 1 = 2 := by
    rw [gset (by decide) (by rw [l6 LI 1 lLI]; decide) (by decide), if_pos (by decide)]
  generalize (LI.set (0 : Int32).toInt.toNat 1).set (0 + 1 : Int32).toInt.toNat 2 = L2 at gat lL2 g0 g1
  have srt : f_sortLevel SP 2 L2 = some (L2.set (1 : Int32).toInt.toNat 2) := by
    have s27 : ∀ (n : Nat) (k : List Int32 → Int32 → Int32 → Int32 → Option (List Int32)), f_sortLevel_27 k SP 2 (n + 1) L2 1 2 sb 1 = k L2 1 2 1 := by
      intro n k
      have gg : gI L2 (1 - 1) = 1 := g0
      rw [f_sortLevel_27, if_pos (by decide), rdg (by decide) (by rw [lL2]; decide), Option.bind_some, gg, s1, Option.bind_some, if_neg sl]
    have s : ∀ n : Nat, f_sortLevel_2 SP 2 (n + 2) L2 1 = some (L2.set (1 : Int32).toInt.toNat 2) := by
      intro n
      rw [f_sortLevel_2, if_pos (by decide), rdg (by decide) (by rw [lL2]; decide), Option.bind_some, g1, s2, Option.bind_some, show f_sortLevel_27 (f_sortLevel_73 (f_sortLevel_2 SP 2 (n + 1)) SP 2) SP 2 100000 L2 1 2 sb 1 = _ from s27 99999 _]
      unfold f_sortLevel_73
      rw [wrA_in (by decide) (by rw [lL2]; decide), Option.bind_some, f_sortLevel_2, if_neg (by decide)]
    unfold f_sortLevel
    exact s 99998
  have lL3 : (L2.set (1 : Int32).toInt.toNat 2).length = 64 := by rw [List.length_set]; exact lL2
  have h0 : gI (L2.set (1 : Int32).toInt.toNat 2) 0 = 1 := by rw [gset (by decide) (by rw [lL2]; decide) (by decide), if_neg (by decide)]; exact g0
  have h1 : gI (L2.set (1 : Int32).toInt.toNat 2) 1 = 2 := by rw [gset (by decide) (by rw [lL2]; decide) (by decide), if_pos rfl]
  generalize L2.set (1 : Int32).toInt.toNat 2 = L3 at srt lL3 h0 h1
  have h1' : gI L3 (0 + 1) = 2 := h1
  have rx : gI RM 1 = x := by rw [ieq, S.m1]; omega
  have ry : gI RM 2 = y := by rw [ieq, S.m2]; omega
  have lr : ((LR.set (0 : Int32).toInt.toNat x).set (0 + 1 : Int32).toInt.toNat y).length = 64 := by rw [List.length_set]; exact l6 LR x lLR
  have la : ((LA.set (0 : Int32).toInt.toNat 0).set (0 + 1 : Int32).toInt.toNat 0).length = 64 := by rw [List.length_set]; exact l6 LA 0 lLA
  have r0 : gI ((LR.set (0 : Int32).toInt.toNat x).set (0 + 1 : Int32).toInt.toNat y) 0 = x := by
    rw [gset (by decide) (by rw [l6 LR x lLR]; decide) (by decide), if_neg (by decide), gset (by decide) (by rw [lLR]; decide) (by decide), if_pos rfl]
  have r1 : gI ((LR.set (0 : Int32).toInt.toNat x).set (0 + 1 : Int32).toInt.toNat y) 1 = y := by
    rw [gset (by decide) (by rw [l6 LR x lLR]; decide) (by decide), if_pos (by decide)]
  have a0 : gI ((LA.set (0 : Int32).toInt.toNat 0).set (0 + 1 : Int32).toInt.toNat 0) 0 = 0 := by
    rw [gset (by decide) (by rw [l6 LA 0 lLA]; decide) (by decide), if_neg (by decide), gset (by decide) (by rw [lLA]; decide) (by decide), if_pos rfl]
  have a1 : gI ((LA.set (0 : Int32).toInt.toNat 0).set (0 + 1 : Int32).toInt.toNat 0) 1 = 0 := by
    rw [gset (by decide) (by rw [l6 LA 0 lLA]; decide) (by decide), if_pos (by decide)]
  have m13 : ∀ k : List Int32 → List Int32 → List Int32 → List Int32 → List Int32 → List Int32 → List Int32 → List Int32 → List Int32 → List Int32 → List Int32 → Int32 → Int32 → Int32 → Int32 → Int32 → Option (Int32 × List Int32 × List Int32 × List Int32 × List Int32 × List Int32 × List Int32 × List Int32 × List Int32 × List Int32 × List Int32 × List Int32 × Int32 × Int32 × Int32), f_matchLevel_13 k SD PR SP ma tc 100000 RM FL ST TP RI FI FQ FP L3 LR LA 2 FN 2 100 z 0 = k RM FL ST TP RI FI FQ FP L3 ((LR.set (0 : Int32).toInt.toNat x).set (0 + 1 : Int32).toInt.toNat y) ((LA.set (0 : Int32).toInt.toNat 0).set (0 + 1 : Int32).toInt.toNat 0) 2 FN 2 100 z := by
    intro k
    have s : ∀ n : Nat, f_matchLevel_13 k SD PR SP ma tc (n + 3) RM FL ST TP RI FI FQ FP L3 LR LA 2 FN 2 100 z 0 = k RM FL ST TP RI FI FQ FP L3 ((LR.set (0 : Int32).toInt.toNat x).set (0 + 1 : Int32).toInt.toNat y) ((LA.set (0 : Int32).toInt.toNat 0).set (0 + 1 : Int32).toInt.toNat 0) 2 FN 2 100 z := by
      intro n
      rw [f_matchLevel_13, if_pos (by decide), rdg (by decide) (by rw [lL3]; decide), Option.bind_some, h0, rdg (by decide) (by rw [lM]; decide), Option.bind_some, rx, wrA_in (by decide) (by rw [lLR]; decide), Option.bind_some, wrA_in (by decide) (by rw [lLA]; decide), Option.bind_some,
        f_matchLevel_13, if_pos (by decide), rdg (by decide) (by rw [lL3]; decide), Option.bind_some, h1', rdg (by decide) (by rw [lM]; decide), Option.bind_some, ry, wrA_in (by decide) (by rw [l6 LR x lLR]; decide), Option.bind_some, wrA_in (by decide) (by rw [l6 LA 0 lLA]; decide), Option.bind_some,
        f_matchLevel_13, if_neg (by decide)]
    exact s 99997
  generalize (LR.set (0 : Int32).toInt.toNat x).set (0 + 1 : Int32).toInt.toNat y = R2 at m13 lr r0 r1
  generalize (LA.set (0 : Int32).toInt.toNat 0).set (0 + 1 : Int32).toInt.toNat 0 = A2 at m13 la a0 a1
  obtain ⟨e, D, eA, he, lD, hd0, hd1⟩ := own_al5 (ma := ma) (tc := tc) (z := z) S.lT lL3 lr la h0 (by rw [S.t1 (by omega)]; decide) r0 r1 a0 a1 x0 x1 y0 y1 z0 z1 c0
  have eb : 1 ≤ e.toInt ∧ e.toInt ≤ x.toInt + y.toInt := by rw [he]; unfold own_min; split <;> omega
  have tb := own_t5b (c := tc.toInt) (x := x.toInt) (e := e.toInt) c0 x0 eb.1
  obtain ⟨b1, b2, b3, b4, b5⟩ := own_p5b (m := ma.toInt) x0 y0 eb.1 eb.2 tb.1 tb.2.1 tb.2.2
  unfold f_matchLevel
  rw [gat, Option.bind_some]
  show Tot ((f_sortLevel SP 2 L2).bind _) _
  rw [srt, Option.bind_some, m13]
  unfold f_matchLevel_59
  rw [eA, Option.bind_some]
  show Tot ((f_applyLevel L3 D 2 RM FL ST TP RI FI FQ FP 2 FN 100).bind _) _
  unfold f_applyLevel
  refine Tot.bind (own_ap50 (n := 99999) (a := gI D 0) lL3 lD S h0 rfl (by omega) (by omega) (by omega) (by omega) (by omega) (fun RM1 FL1 ST1 TP1 RI1 FI1 FQ1 FP1 RN1 FN1 S1 => own_ap51 (n := 99997) (a := gI D 1) lL3 lD S1 h1 rfl (by omega) (by omega) (by omega) (by omega))) ?_
  rintro ⟨RM', FL', ST', TP', RI', FI', FQ', FP', RN', FN'⟩ S2
  refine Tot.mk ⟨he, ?_⟩
  rw [← hd0, ← hd1]
  exact S2
theorem own_bo5 {SD PR RI : List Int32} (lRI : RI.length = 64) (sd : SD.length = 256) (pr : PR.length = 256) (i0 : gI RI 0 = 1) (i1 : gI RI 1 = 2) (d1 : gI SD 1 = 1) (d2 : gI SD 2 = 1) (p1 : gI PR 1 = 100) (p2 : gI PR 2 = 100) : f_bestOf SD PR RI 2 1 = some 100 := by
  have i1' : gI RI (0 + 1) = 2 := i1
  have s : ∀ n : Nat, f_bestOf_4 SD PR RI 2 (n + 3) 1 0 0 = some 100 := by
    intro n
    rw [f_bestOf_4, if_pos (by decide), rdg (by decide) (by rw [lRI]; decide), Option.bind_some, i0, rdg (by decide) (by rw [sd]; decide), Option.bind_some, if_pos d1, rdg (by decide) (by rw [pr]; decide), Option.bind_some, if_pos rfl, p1,
      f_bestOf_4, if_pos (by decide), rdg (by decide) (by rw [lRI]; decide), Option.bind_some, i1', rdg (by decide) (by rw [sd]; decide), Option.bind_some, if_pos d2, rdg (by decide) (by rw [pr]; decide), Option.bind_some, if_neg (by decide), p2]
    unfold f_better
    rw [Option.bind_some, f_bestOf_4, if_neg (by decide)]
    rfl
  unfold f_bestOf
  exact s 99997
theorem own_bo0 {SD PR RI : List Int32} {RN acc : Int32} (w : own_W RI RN acc) (sd : SD.length = 256) (pr : PR.length = 256) (hp : ∀ x, own_mem RI RN x → 1 ≤ (gI PR x).toInt) (v : Int32) (h : ∀ x, own_mem RI RN x → ¬ gI SD x = v) : f_bestOf SD PR RI RN v = some 0 := by
  obtain ⟨r, e, hr⟩ := own_bestX w sd pr hp v
  rcases hr with ⟨hz, -⟩ | ⟨x, h1, h2, -⟩
  · rw [e, hz]
  · exact absurd h2 (h x h1)
theorem own_mi0 {SD PR : List Int32} {SP : List Int64} {ma tc : Int32} {RM FL ST TP RI FI FQ FP LI LR LA : List Int32} {RN FN LN id side price q opp v7 : Int32} {n : Nat} (h7 : ¬ 64 < v7) (hb : 0 < q.toInt → f_bestOf SD PR RI RN opp = some 0) : f_matchIncoming_12 SD PR SP ma tc (n + 1) RM FL ST TP RI FI FQ FP LI LR LA RN FN LN id side price q opp v7 = some (q, RM, FL, ST, TP, RI, FI, FQ, FP, LI, LR, LA, RN, FN, LN) := by
  have e0 : (0 : Int32).toInt = 0 := rfl
  rw [f_matchIncoming_12, if_neg h7]
  by_cases h : 0 < q
  · rw [if_pos h, hb (by have := ilt.mp h; omega), Option.bind_some, if_pos rfl]
  · rw [if_neg h]
theorem own_plc {SD PR RM FL ST : List Int32} {SP : List Int64} {TP RI FI FQ FP LI LR LA : List Int32} {ma tc acc id RN FN LN q t : Int32} {stamp : Int64} (sd : SD.length = 256) (pr : PR.length = 256) (lM : RM.length = 256) (lF : FL.length = 256) (lS : ST.length = 256) (sp : SP.length = 256) (lT : TP.length = 256) (lRI : RI.length = 64) (hid : acc + 1 = id) (i0 : 0 ≤ id.toInt) (i1 : id.toInt < 256) (a1 : acc.toInt < 255) (n0 : 0 ≤ RN.toInt) (n1 : RN.toInt < 64) (q0 : 1 ≤ q.toInt) (q1 : q.toInt ≤ 10000) (b0 : f_bestOf (SD.set id.toInt.toNat 1) (PR.set id.toInt.toNat 100) RI RN 0 = some 0)
    (hb : (t = 1 ∧ f_bestOf (SD.set id.toInt.toNat 1) (PR.set id.toInt.toNat 100) RI RN 1 = some 0 ∧ f_clearFlags (SD.set id.toInt.toNat 1) RI RN (TP.set id.toInt.toNat 0) 1 = some (TP.set id.toInt.toNat 0)) ∨ (t = 0 ∧ f_bestOf (SD.set id.toInt.toNat 1) (PR.set id.toInt.toNat 100) RI RN 1 = some 100)) :
    f_submit ma tc SD PR RM FL ST SP TP RI FI FQ FP LI LR LA acc stamp RN FN LN 1 100 q 0 = some (id, SD.set id.toInt.toNat 1, PR.set id.toInt.toNat 100, (RM.set id.toInt.toNat 0).set id.toInt.toNat q, FL.set id.toInt.toNat 0, ST.set id.toInt.toNat 1, (SP.set id.toInt.toNat 0).set id.toInt.toNat (stamp + 1), (TP.set id.toInt.toNat 0).set id.toInt.toNat t, RI.set RN.toInt.toNat id, FI, FQ, FP, LI, LR, LA, id, stamp + 1, RN + 1, 0, LN) := by
  have e0 : (0 : Int32).toInt = 0 := rfl
  have e1 : (1 : Int32).toInt = 1 := rfl
  have e64 : (64 : Int32).toInt = 64 := rfl
  have e255 : (255 : Int32).toInt = 255 := rfl
  have e10000 : (10000 : Int32).toInt = 10000 := rfl
  have ls : ∀ (L : List Int32) (v : Int32), L.length = 256 → (L.set id.toInt.toNat v).length = 256 := fun L v l => by rw [List.length_set]; exact l
  have lsp : ∀ (L : List Int64) (v : Int64), L.length = 256 → (L.set id.toInt.toNat v).length = 256 := fun L v l => by rw [List.length_set]; exact l
  have nq : ¬ q = 0 := by rw [ieq]; omega
  unfold f_submit f_submit_11
  rw [if_neg (by decide), if_pos rfl, if_neg (by decide), if_neg (by decide), if_neg (by rw [ilt]; omega), if_neg (by rw [ilt]; omega), if_pos rfl]
  unfold f_submit_55
  rw [if_pos (by rw [ilt]; omega), hid, wrA_in i0 (by omega), Option.bind_some, wrA_in i0 (by omega), Option.bind_some, wrA_in i0 (by omega), Option.bind_some, wrA_in i0 (by omega), Option.bind_some, wrA_in i0 (by omega), Option.bind_some, wrA_in i0 (by omega), Option.bind_some]
  unfold f_matchIncoming
  have mi : f_matchIncoming_12 (SD.set id.toInt.toNat 1) (PR.set id.toInt.toNat 100) (SP.set id.toInt.toNat 0) ma tc 100000 (RM.set id.toInt.toNat 0) (FL.set id.toInt.toNat 0) ST (TP.set id.toInt.toNat 0) RI FI FQ FP LI LR LA RN 0 LN id 1 100 q (1 - 1) 0 = some (q, RM.set id.toInt.toNat 0, FL.set id.toInt.toNat 0, ST, TP.set id.toInt.toNat 0, RI, FI, FQ, FP, LI, LR, LA, RN, 0, LN) := own_mi0 (n := 99999) (by decide) (fun _ => b0)
  rw [mi, Option.bind_some]
  show Option.bind (f_finishIncoming (SD.set id.toInt.toNat 1) (PR.set id.toInt.toNat 100) (RM.set id.toInt.toNat 0) ST (SP.set id.toInt.toNat 0) (TP.set id.toInt.toNat 0) RI stamp RN id 1 100 q 0) _ = _
  have fi : f_finishIncoming (SD.set id.toInt.toNat 1) (PR.set id.toInt.toNat 100) (RM.set id.toInt.toNat 0) ST (SP.set id.toInt.toNat 0) (TP.set id.toInt.toNat 0) RI stamp RN id 1 100 q 0 = some ((RM.set id.toInt.toNat 0).set id.toInt.toNat q, ST.set id.toInt.toNat 1, (SP.set id.toInt.toNat 0).set id.toInt.toNat (stamp + 1), (TP.set id.toInt.toNat 0).set id.toInt.toNat t, RI.set RN.toInt.toNat id, stamp + 1, RN + 1) := by
    unfold f_finishIncoming
    rw [if_neg nq, if_neg (by decide), if_pos (by rw [ilt]; omega)]
    have f90 : ∀ u : Int32, u &&& 1 = t → f_finishIncoming_90 (SD.set id.toInt.toNat 1) (PR.set id.toInt.toNat 100) (RM.set id.toInt.toNat 0) ST (SP.set id.toInt.toNat 0) (TP.set id.toInt.toNat 0) RI stamp RN id q u = some ((RM.set id.toInt.toNat 0).set id.toInt.toNat q, ST.set id.toInt.toNat 1, (SP.set id.toInt.toNat 0).set id.toInt.toNat (stamp + 1), (TP.set id.toInt.toNat 0).set id.toInt.toNat t, RI.set RN.toInt.toNat id, stamp + 1, RN + 1) := by
      intro u hu
      unfold f_finishIncoming_90
      rw [wrA_in i0 (by rw [lsp SP 0 sp]; omega), Option.bind_some, wrA_in i0 (by rw [ls RM 0 lM]; omega), Option.bind_some, wrA_in i0 (by omega), Option.bind_some, wrA_in i0 (by rw [ls TP 0 lT]; omega), Option.bind_some, wrA_in n0 (by omega), Option.bind_some, hu]
    rcases hb with ⟨ht, h1, h2⟩ | ⟨ht, h1⟩
    · rw [h1, Option.bind_some, if_pos rfl]
      unfold f_finishIncoming_78
      rw [if_neg (by decide), h2, Option.bind_some]
      exact f90 1 (by rw [ht]; decide)
    · rw [h1, Option.bind_some, if_neg (by decide)]
      unfold f_better f_finishIncoming_78
      rw [Option.bind_some]
      have z : (if (if (1 : Int32) = 0 then (if (100 : Int32) < 100 then (1 : Int32) else 0) else (if (100 : Int32) < 100 then (1 : Int32) else 0)) = 0 then (0 : Int32) else 1) = 0 := by decide
      rw [z, if_pos rfl]
      exact f90 0 (by rw [ht]; decide)
  rw [fi, Option.bind_some]
theorem own_sub3 {SD PR RM FL ST : List Int32} {SP : List Int64} {TP RI FI FQ FP LI LR LA : List Int32} {ma tc FN LN x y z : Int32} {stamp sa sb : Int64} (sd : SD.length = 256) (pr : PR.length = 256) (lM : RM.length = 256) (lF : FL.length = 256) (sp : SP.length = 256) (lT : TP.length = 256) (d1 : gI (SD.set (3 : Int32).toInt.toNat 0) 1 = 1) (d2 : gI (SD.set (3 : Int32).toInt.toNat 0) 2 = 1) (p1 : gI (PR.set (3 : Int32).toInt.toNat 100) 1 = 100) (p2 : gI (PR.set (3 : Int32).toInt.toNat 100) 2 = 100) (i0 : gI RI 0 = 1) (i1 : gI RI 1 = 2) (s1 : rdA (SP.set (3 : Int32).toInt.toNat 0) 1 = some sa) (s2 : rdA (SP.set (3 : Int32).toInt.toNat 0) 2 = some sb) (sl : ¬ sb < sa) (lLI : LI.length = 64) (lLR : LR.length = 64) (lLA : LA.length = 64) (S : own_S5 (RM.set (3 : Int32).toInt.toNat 0) (FL.set (3 : Int32).toInt.toNat 0) ST (TP.set (3 : Int32).toInt.toNat 0) RI FI FQ FP 2 0 x.toInt y.toInt 0 0) (x0 : 1 ≤ x.toInt) (x1 : x.toInt ≤ 1024) (y0 : 1 ≤ y.toInt) (y1 : y.toInt ≤ 1024) (z0 : 1 ≤ z.toInt) (z1 : z.toInt ≤ 4096) (c0 : 0 ≤ tc.toInt) :
    Tot (f_submit ma tc SD PR RM FL ST SP TP RI FI FQ FP LI LR LA 2 stamp 2 FN LN 0 100 z 0) (fun (r, SD', PR', RM', FL', ST', SP', TP', RI', FI', FQ', FP', LI', LR', LA', acc', stamp', RN', FN', LN') => r = 3 ∧ acc' = 3 ∧ SD' = SD.set (3 : Int32).toInt.toNat 0 ∧ PR' = PR.set (3 : Int32).toInt.toNat 100 ∧ ∃ (RMm FLm STm TPm RIm : List Int32) (RNm e : Int32), e.toInt = own_min z.toInt (x.toInt + y.toInt) ∧ own_S5 RMm FLm STm TPm RIm FI' FQ' FP' RNm FN' x.toInt y.toInt (own_p5 ma.toInt x.toInt y.toInt e.toInt (own_t5 tc.toInt x.toInt e.toInt)).1 (own_p5 ma.toInt x.toInt y.toInt e.toInt (own_t5 tc.toInt x.toInt e.toInt)).2 ∧ FL' = FLm.set (3 : Int32).toInt.toNat (0 + e) ∧ ((z - e = 0 ∧ RM' = RMm.set (3 : Int32).toInt.toNat 0 ∧ ST' = STm.set (3 : Int32).toInt.toNat 2 ∧ TP' = TPm ∧ RI' = RIm ∧ RN' = RNm) ∨ (¬ z - e = 0 ∧ RNm = 0 ∧ RM' = RMm.set (3 : Int32).toInt.toNat (z - e) ∧ ST' = STm.set (3 : Int32).toInt.toNat 1 ∧ TP'.length = 256 ∧ RI' = RIm.set (0 : Int32).toInt.toNat 3 ∧ RN' = 1))) := by
  have e0 : (0 : Int32).toInt = 0 := rfl
  have e3 : (3 : Int32).toInt = 3 := rfl
  have e64 : (64 : Int32).toInt = 64 := rfl
  have e10000 : (10000 : Int32).toInt = 10000 := rfl
  have sd3 : (SD.set (3 : Int32).toInt.toNat 0).length = 256 := by rw [List.length_set]; exact sd
  have pr3 : (PR.set (3 : Int32).toInt.toNat 100).length = 256 := by rw [List.length_set]; exact pr
  have sp3 : (SP.set (3 : Int32).toInt.toNat 0).length = 256 := by rw [List.length_set]; exact sp
  unfold f_submit f_submit_11
  rw [if_pos rfl, if_neg (by decide), if_neg (by decide), if_neg (by rw [ilt]; have e1 : (1 : Int32).toInt = 1 := rfl; omega), if_neg (by rw [ilt]; omega), if_pos rfl]
  unfold f_submit_55
  have a3 : (2 : Int32) + 1 = 3 := rfl
  rw [if_pos (by decide), a3, wrA_in (by decide) (by rw [sd]; decide), Option.bind_some, wrA_in (by decide) (by rw [pr]; decide), Option.bind_some, wrA_in (by decide) (by rw [lM]; decide), Option.bind_some, wrA_in (by decide) (by rw [lF]; decide), Option.bind_some, wrA_in (by decide) (by rw [lT]; decide), Option.bind_some, wrA_in (by decide) (by rw [sp]; decide), Option.bind_some]
  generalize SD.set (3 : Int32).toInt.toNat 0 = SD3 at *
  generalize PR.set (3 : Int32).toInt.toNat 100 = PR3 at *
  generalize SP.set (3 : Int32).toInt.toNat 0 = SP3 at *
  generalize RM.set (3 : Int32).toInt.toNat 0 = RM3 at *
  generalize FL.set (3 : Int32).toInt.toNat 0 = FL3 at *
  generalize TP.set (3 : Int32).toInt.toNat 0 = TP3 at *
  have bo := own_bo5 S.w.l sd3 pr3 i0 i1 d1 d2 p1 p2
  have mi : Tot (f_matchIncoming SD3 PR3 SP3 ma tc RM3 FL3 ST TP3 RI FI FQ FP LI LR LA 2 0 LN 3 0 100 z) (fun (q', RM', FL', ST', TP', RI', FI', FQ', FP', LI', LR', LA', RN', FN', LN') => ∃ (FLm : List Int32) (e : Int32), q' = z - e ∧ e.toInt = own_min z.toInt (x.toInt + y.toInt) ∧ own_S5 RM' FLm ST' TP' RI' FI' FQ' FP' RN' FN' x.toInt y.toInt (own_p5 ma.toInt x.toInt y.toInt e.toInt (own_t5 tc.toInt x.toInt e.toInt)).1 (own_p5 ma.toInt x.toInt y.toInt e.toInt (own_t5 tc.toInt x.toInt e.toInt)).2 ∧ FL' = FLm.set (3 : Int32).toInt.toNat (0 + e) ∧ (¬ z - e = 0 → RN' = 0)) := by
    unfold f_matchIncoming
    have st : ∀ n : Nat, Tot (f_matchIncoming_12 SD3 PR3 SP3 ma tc (n + 2) RM3 FL3 ST TP3 RI FI FQ FP LI LR LA 2 0 LN 3 0 100 z (1 - 0) 0) (fun (q', RM', FL', ST', TP', RI', FI', FQ', FP', LI', LR', LA', RN', FN', LN') => ∃ (FLm : List Int32) (e : Int32), q' = z - e ∧ e.toInt = own_min z.toInt (x.toInt + y.toInt) ∧ own_S5 RM' FLm ST' TP' RI' FI' FQ' FP' RN' FN' x.toInt y.toInt (own_p5 ma.toInt x.toInt y.toInt e.toInt (own_t5 tc.toInt x.toInt e.toInt)).1 (own_p5 ma.toInt x.toInt y.toInt e.toInt (own_t5 tc.toInt x.toInt e.toInt)).2 ∧ FL' = FLm.set (3 : Int32).toInt.toNat (0 + e) ∧ (¬ z - e = 0 → RN' = 0)) := by
      intro n
      have bo' : f_bestOf SD3 PR3 RI 2 (1 - 0) = some 100 := bo
      have cz : ¬ (if (0 : Int32) = 0 then (if (100 : Int32) < 100 then (0 : Int32) else 1) else (if (100 : Int32) < 100 then (0 : Int32) else 1)) = 0 := by decide
      rw [f_matchIncoming_12, if_neg (by decide), if_pos (by rw [ilt]; omega), bo', Option.bind_some, if_neg (by decide)]
      unfold f_crosses
      rw [Option.bind_some, if_neg cz]
      refine Tot.bind (own_ml5 (LN := LN) (FN := 0) sd3 pr3 d1 d2 p1 p2 i0 i1 s1 s2 sl lLI lLR lLA S x0 x1 y0 y1 z0 z1 c0) ?_
      rintro ⟨e, RM', FL', ST', TP', RI', FI', FQ', FP', LI', LR', LA', RN', FN', LN'⟩ ⟨he, S'⟩
      have he' : e.toInt = own_min z.toInt (x.toInt + y.toInt) := he
      have S2 : own_S5 RM' FL' ST' TP' RI' FI' FQ' FP' RN' FN' x.toInt y.toInt (own_p5 ma.toInt x.toInt y.toInt e.toInt (own_t5 tc.toInt x.toInt e.toInt)).1 (own_p5 ma.toInt x.toInt y.toInt e.toInt (own_t5 tc.toInt x.toInt e.toInt)).2 := S'
      have eb : 1 ≤ e.toInt ∧ e.toInt ≤ x.toInt + y.toInt ∧ e.toInt ≤ z.toInt ∧ (e.toInt < z.toInt → e.toInt = x.toInt + y.toInt) := by rw [he']; unfold own_min; split <;> omega
      have tb := own_t5b (c := tc.toInt) (x := x.toInt) (e := e.toInt) c0 x0 eb.1
      obtain ⟨b1, b2, b3, b4, b5⟩ := own_p5b (m := ma.toInt) x0 y0 eb.1 eb.2.1 tb.1 tb.2.1 tb.2.2
      have sz : (z - e).toInt = z.toInt - e.toInt := isub_i (by omega) (by omega)
      have none : 0 < (z - e).toInt → ∀ v, ¬ own_mem RI' RN' v := by
        intro h v hv
        rcases (S2.me v).mp hv with ⟨-, q⟩ | ⟨-, q⟩ <;> omega
      refine own_iL (fun _ => ?_) (fun h => by omega)
      have lF' := S2.lF
      rw [rdg (by decide) (by rw [lF']; decide), Option.bind_some, wrA_in (by decide) (by rw [lF']; decide), Option.bind_some, S2.f3]
      rw [own_mi0 (by decide) (fun h => own_bo0 S2.w sd3 pr3 (fun v hv => absurd hv (none h v)) _ (fun v hv => absurd hv (none h v)))]
      refine Tot.mk ⟨FL', e, rfl, he', S2, rfl, fun h => ?_⟩
      have n0 := S2.w.n0
      rw [ieq]
      by_cases g : RN'.toInt = 0
      · exact g
      · exfalso
        have hz : 0 < (z - e).toInt := by rw [ieq] at h; omega
        exact none hz _ ⟨0, by decide, by omega, rfl⟩
    exact st 99998
  refine Tot.bind mi ?_
  rintro ⟨q, RMm, FL', STm, TPm, RIm, FI', FQ', FP', LI', LR', LA', RNm, FN', LN'⟩ ⟨FLm, e, hq, he, Sm, hF, hn⟩
  have hq' : q = z - e := hq
  have Sm' : own_S5 RMm FLm STm TPm RIm FI' FQ' FP' RNm FN' x.toInt y.toInt (own_p5 ma.toInt x.toInt y.toInt e.toInt (own_t5 tc.toInt x.toInt e.toInt)).1 (own_p5 ma.toInt x.toInt y.toInt e.toInt (own_t5 tc.toInt x.toInt e.toInt)).2 := Sm
  have hF' : FL' = FLm.set (3 : Int32).toInt.toNat (0 + e) := hF
  have hn' : ¬ z - e = 0 → RNm = 0 := hn
  subst hq'
  have fi : Tot (f_finishIncoming SD3 PR3 RMm STm SP3 TPm RIm stamp RNm 3 0 100 (z - e) 0) (fun (RM', ST', SP', TP', RI', stamp', RN') => (z - e = 0 ∧ RM' = RMm.set (3 : Int32).toInt.toNat 0 ∧ ST' = STm.set (3 : Int32).toInt.toNat 2 ∧ TP' = TPm ∧ RI' = RIm ∧ RN' = RNm) ∨ (¬ z - e = 0 ∧ RNm = 0 ∧ RM' = RMm.set (3 : Int32).toInt.toNat (z - e) ∧ ST' = STm.set (3 : Int32).toInt.toNat 1 ∧ TP'.length = 256 ∧ RI' = RIm.set (0 : Int32).toInt.toNat 3 ∧ RN' = 1)) := by
    have lMm := Sm'.lM
    have lSm := Sm'.lS
    have lTm := Sm'.lT
    have lIm := Sm'.w.l
    unfold f_finishIncoming
    refine own_iE (fun h => ?_) (fun h => ?_)
    · rw [wrA_in (by decide) (by rw [lSm]; decide), Option.bind_some, wrA_in (by decide) (by rw [lMm]; decide), Option.bind_some]
      exact Tot.mk (Or.inl ⟨h, rfl, rfl, rfl, rfl, rfl⟩)
    · have rz := hn' h
      subst rz
      have w := Sm'.w
      have no : ∀ v, ¬ own_mem RIm 0 v := by
        rintro v ⟨j, j0, j1, -⟩
        omega
      rw [if_neg (by decide), if_pos (by decide), own_bo0 w sd3 pr3 (fun v hv => absurd hv (no v)) 0 (fun v hv => absurd hv (no v)), Option.bind_some, if_pos rfl]
      unfold f_finishIncoming_78
      rw [if_neg (by decide)]
      refine Tot.bind (own_cfX w sd3 lTm 0) ?_
      intro T hT
      have lT' := hT.1
      unfold f_finishIncoming_90
      rw [wrA_in (by decide) (by rw [sp3]; decide), Option.bind_some, wrA_in (by decide) (by rw [lMm]; decide), Option.bind_some, wrA_in (by decide) (by rw [lSm]; decide), Option.bind_some, wrA_in (by decide) (by rw [lT']; decide), Option.bind_some, wrA_in (by decide) (by rw [lIm]; decide), Option.bind_some]
      exact Tot.mk (Or.inr ⟨h, rfl, rfl, rfl, by rw [List.length_set]; exact lT', rfl, rfl⟩)
  refine Tot.bind fi ?_
  rintro ⟨RM3', ST3', SP3', TP3', RI3', stamp3', RN3'⟩ hc
  exact Tot.mk ⟨rfl, rfl, rfl, rfl, RMm, FLm, STm, TPm, RIm, RNm, e, he, Sm', hF', hc⟩
theorem own_bz {SD PR RI : List Int32} (v : Int32) : f_bestOf SD PR RI 0 v = some 0 := by
  have s : ∀ n : Nat, f_bestOf_4 SD PR RI 0 (n + 1) v 0 0 = some 0 := by
    intro n
    rw [f_bestOf_4, if_neg (by decide)]
  unfold f_bestOf
  exact s 99999
theorem own_cz {SD RI TP : List Int32} (v : Int32) : f_clearFlags SD RI 0 TP v = some TP := by
  have s : ∀ n : Nat, f_clearFlags_2 SD RI 0 (n + 1) TP v 0 = some TP := by
    intro n
    rw [f_clearFlags_2, if_neg (by decide)]
  unfold f_clearFlags
  exact s 99999
theorem own_b1 {SD PR RI : List Int32} {id sv pv : Int32} (lRI : RI.length = 64) (sd : SD.length = 256) (pr : PR.length = 256) (i0 : gI RI 0 = id) (h0 : 0 ≤ id.toInt) (h1 : id.toInt < 256) (d : gI SD id = sv) (p : gI PR id = pv) (v : Int32) : f_bestOf SD PR RI 1 v = some (if sv = v then pv else 0) := by
  have s : ∀ n : Nat, f_bestOf_4 SD PR RI 1 (n + 2) v 0 0 = some (if sv = v then pv else 0) := by
    intro n
    rw [f_bestOf_4, if_pos (by decide), rdg (by decide) (by rw [lRI]; decide), Option.bind_some, i0, rdg h0 (by omega), Option.bind_some, d]
    by_cases q : sv = v
    · rw [if_pos q, if_pos q, rdg h0 (by omega), Option.bind_some, p, if_pos rfl, f_bestOf_4, if_neg (by decide)]
    · rw [if_neg q, if_neg q, f_bestOf_4, if_neg (by decide)]
  unfold f_bestOf
  exact s 99998
theorem own_ini (v0 v1 : Int32) : ∃ ma tc : Int32, (if v0 < 1 then (1 : Int32) else (if (100 : Int32) < v0 then 100 else v0)) = ma ∧ (if v1 < 0 then (0 : Int32) else (if (10000 : Int32) < v1 then 10000 else v1)) = tc ∧ 0 ≤ tc.toInt ∧ f_init v0 v1 = some (List.replicate 256 0, List.replicate 256 0, List.replicate 256 0, List.replicate 256 0, List.replicate 256 0, List.replicate 256 0, List.replicate 256 0, List.replicate 64 0, List.replicate 64 0, List.replicate 64 0, List.replicate 64 0, List.replicate 64 0, List.replicate 64 0, List.replicate 64 0, ma, tc, 0, 0, 0, 0, 0) := by
  have e0 : (0 : Int32).toInt = 0 := rfl
  refine ⟨_, _, rfl, rfl, ?_, ?_⟩
  · by_cases c : v1 < 0
    · rw [if_pos c]; decide
    · rw [if_neg c]
      rw [ilt] at c
      by_cases c2 : 10000 < v1
      · rw [if_pos c2]; decide
      · rw [if_neg c2]; omega
  · unfold f_init f_init_132 f_init_141 f_init_152 f_init_165
    have h1 : (if (100 : Int32) < (if v0 < 1 then (1 : Int32) else v0) then (100 : Int32) else (if v0 < 1 then (1 : Int32) else v0)) = (if v0 < 1 then (1 : Int32) else (if (100 : Int32) < v0 then 100 else v0)) := by
      by_cases c : v0 < 1
      · rw [if_pos c, if_pos c, if_neg (by decide)]
      · rw [if_neg c, if_neg c]
    have h2 : (if (10000 : Int32) < (if v1 < 0 then (0 : Int32) else v1) then (10000 : Int32) else (if v1 < 0 then (0 : Int32) else v1)) = (if v1 < 0 then (0 : Int32) else (if (10000 : Int32) < v1 then 10000 else v1)) := by
      by_cases c : v1 < 0
      · rw [if_pos c, if_pos c, if_neg (by decide)]
      · rw [if_neg c, if_neg c]
    rw [h1, h2]
theorem own_438 {SD PR RM FL ST TP RI FI FQ FP : List Int32} {RN FN x y z e a1 a2 : Int32} {RMm FLm STm TPm RIm : List Int32} {RNm : Int32} (sd : SD.length = 256) (pr : PR.length = 256) (d1 : gI SD 1 = 1) (d2 : gI SD 2 = 1) (d3 : gI SD 3 = 0) (p1 : gI PR 1 = 100) (p2 : gI PR 2 = 100) (p3 : gI PR 3 = 100) (x0 : 1 ≤ x.toInt) (x1 : x.toInt ≤ 1024) (y0 : 1 ≤ y.toInt) (y1 : y.toInt ≤ 1024) (z0 : 1 ≤ z.toInt) (z1 : z.toInt ≤ 4096) (he : e.toInt = own_min z.toInt (x.toInt + y.toInt)) (b1 : 0 ≤ a1.toInt) (b2 : a1.toInt ≤ x.toInt) (b3 : 0 ≤ a2.toInt) (b4 : a2.toInt ≤ y.toInt) (b5 : a1.toInt + a2.toInt = e.toInt) (S : own_S5 RMm FLm STm TPm RIm FI FQ FP RNm FN x.toInt y.toInt a1.toInt a2.toInt) (hF : FL = FLm.set (3 : Int32).toInt.toNat (0 + e))
    (hc : (z - e = 0 ∧ RM = RMm.set (3 : Int32).toInt.toNat 0 ∧ ST = STm.set (3 : Int32).toInt.toNat 2 ∧ TP = TPm ∧ RI = RIm ∧ RN = RNm) ∨ (¬ z - e = 0 ∧ RNm = 0 ∧ RM = RMm.set (3 : Int32).toInt.toNat (z - e) ∧ ST = STm.set (3 : Int32).toInt.toNat 1 ∧ TP.length = 256 ∧ RI = RIm.set (0 : Int32).toInt.toNat 3 ∧ RN = 1)) :
    ∀ v15 v16 v17 v18 t0 : Int32, v15 = (if 0 < a1 then 1 else 2) → v16 = (if 0 < a1 then a1 else a2) → v17 = (if 0 < a1 then (if 0 < a2 then 2 else 0) else 0) → v18 = (if v17 = 2 then a2 else 0) → t0 = (if v17 = 0 then 1 else 2) → f_L_law_438 SD PR RM FL ST TP RI FI FQ FP 3 RN FN x y e a1 a2 (z - e) v15 v16 v17 v18 t0 FN = some 1 := by
  intro v15 v16 v17 v18 t0 h15 h16 h17 h18 ht0
  have q0 : (0 : Int32).toInt = 0 := rfl
  have q1 : (1 : Int32).toInt = 1 := rfl
  have q2 : (2 : Int32).toInt = 2 := rfl
  have q3 : (3 : Int32).toInt = 3 := rfl
  have q100 : (100 : Int32).toInt = 100 := rfl
  have eb : 1 ≤ e.toInt ∧ e.toInt ≤ x.toInt + y.toInt ∧ e.toInt ≤ z.toInt ∧ (e.toInt < z.toInt → e.toInt = x.toInt + y.toInt) := by rw [he]; unfold own_min; split <;> omega
  have sz : (z - e).toInt = z.toInt - e.toInt := isub_i (by omega) (by omega)
  have sx : (x - a1).toInt = x.toInt - a1.toInt := isub_i (by omega) (by omega)
  have sy : (y - a2).toInt = y.toInt - a2.toInt := isub_i (by omega) (by omega)
  obtain ⟨lM, lF, lS, lT, lI, lQ, lP, w, me, m1, m2, f1, f2, f3, s1, s2, t1, nn, l1, l2⟩ := S
  have lFL : FL.length = 256 := by rw [hF, List.length_set]; exact lF
  have lRM : RM.length = 256 := by rcases hc with ⟨-, h, -⟩ | ⟨-, -, h, -⟩ <;> rw [h, List.length_set] <;> exact lM
  have lST : ST.length = 256 := by rcases hc with ⟨-, -, h, -⟩ | ⟨-, -, -, h, -⟩ <;> rw [h, List.length_set] <;> exact lS
  have lTP : TP.length = 256 := by
    rcases hc with ⟨-, -, -, h, -⟩ | ⟨-, -, -, -, h, -⟩
    · rw [h]; exact lT
    · exact h
  have gF : ∀ v : Int32, 0 ≤ v.toInt → gI FL v = if 3 = v then 0 + e else gI FLm v := fun v hv => by rw [hF]; exact gset (by decide) (by rw [lF]; decide) hv
  have gM : ∀ v : Int32, 0 ≤ v.toInt → ¬ 3 = v → gI RM v = gI RMm v := fun v hv ne => by
    rcases hc with ⟨-, h, -⟩ | ⟨-, -, h, -⟩ <;> rw [h, gset (by decide) (by rw [lM]; decide) hv, if_neg ne]
  have gS : ∀ v : Int32, 0 ≤ v.toInt → ¬ 3 = v → gI ST v = gI STm v := fun v hv ne => by
    rcases hc with ⟨-, -, h, -⟩ | ⟨-, -, -, h, -⟩ <;> rw [h, gset (by decide) (by rw [lS]; decide) hv, if_neg ne]
  have st : ∀ v : Int32, 1 ≤ v.toInt → v.toInt ≤ 3 → f_status ST 3 v = some (gI ST v) := fun v va vb => by
    unfold f_status
    rw [if_neg (by rw [ilt]; omega), if_neg (by rw [ilt]; omega), rdg (by omega) (by omega), Option.bind_some]
  have flq : ∀ v : Int32, 1 ≤ v.toInt → v.toInt ≤ 3 → f_filled FL 3 v = some (gI FL v) := fun v va vb => by
    unfold f_filled
    rw [if_neg (by rw [ilt]; omega), if_neg (by rw [ilt]; omega), rdg (by omega) (by omega), Option.bind_some]
  have rsq : ∀ v : Int32, 1 ≤ v.toInt → v.toInt ≤ 3 → f_isResting ST 3 v = some (if gI ST v = 1 then 1 else 0) := fun v va vb => by
    unfold f_isResting
    rw [if_neg (by rw [ilt]; omega), if_neg (by rw [ilt]; omega), rdg (by omega) (by omega), Option.bind_some]
  have rmq : ∀ v : Int32, 1 ≤ v.toInt → v.toInt ≤ 3 → f_remaining RM ST 3 v = some (if gI ST v = 1 then gI RM v else 0) := fun v va vb => by
    unfold f_remaining
    rw [rsq v va vb, Option.bind_some]
    by_cases h : gI ST v = 1
    · rw [if_pos h, if_pos h, if_neg (by decide), rdg (by omega) (by omega), Option.bind_some]
    · rw [if_neg h, if_neg h, if_pos rfl]
  have n1 : ¬ (3 : Int32) = 1 := by decide
  have n2 : ¬ (3 : Int32) = 2 := by decide
  have fnb : FN.toInt = (if 0 < a1.toInt then 1 else 0) + (if 0 < a2.toInt then 1 else 0) := nn
  have ltI : ∀ u : Int32, (0 < u) ↔ 0 < u.toInt := fun u => by rw [ilt]; rfl
  -- the log
  have logOK : ∃ k1 k2 k3 : Int32, FN = t0 ∧ f_fillId FI FN 0 = some v15 ∧ f_fillQty FQ FN 0 = some v16 ∧ f_fillPrice FP FN 0 = some 100 ∧ f_fillId FI FN 1 = some v17 ∧ f_fillQty FQ FN 1 = some v18 ∧ f_fillPrice FP FN 1 = some (if v17 = 0 then 0 else 100) := by
    refine ⟨0, 0, 0, ?_⟩
    have i0 : ∀ (k : Int32), 0 ≤ k.toInt → k.toInt < FN.toInt → f_fillId FI FN k = some (gI FI k) ∧ f_fillQty FQ FN k = some (gI FQ k) ∧ f_fillPrice FP FN k = some (gI FP k) := fun k a b => own_fq lI lQ lP (by rw [fnb]; split <;> split <;> omega) a b
    have o1 : ∀ (k : Int32), 0 ≤ k.toInt → FN.toInt ≤ k.toInt → f_fillId FI FN k = some 0 ∧ f_fillQty FQ FN k = some 0 ∧ f_fillPrice FP FN k = some 0 := fun k a b => by
      unfold f_fillId f_fillQty f_fillPrice
      have u1 : ¬ k < 0 := by rw [ilt]; omega
      have u2 : ¬ k < FN := by rw [ilt]; omega
      rw [if_neg u1, if_neg u1, if_neg u1, if_neg u2, if_neg u2, if_neg u2]
      exact ⟨rfl, rfl, rfl⟩
    by_cases c1 : 0 < a1.toInt
    · have c1' := (ltI a1).mpr c1
      obtain ⟨g1, g2, g3⟩ := l1 c1
      rw [if_pos c1'] at h15 h16 h17
      by_cases c2 : 0 < a2.toInt
      · have c2' := (ltI a2).mpr c2
        obtain ⟨g4, g5, g6⟩ := l2 c2
        rw [if_pos c1] at g4 g5 g6
        rw [if_pos c2'] at h17
        rw [if_pos c1, if_pos c2] at fnb
        rw [h17, if_pos rfl] at h18
        rw [h17, if_neg (by decide)] at ht0
        obtain ⟨u1, u2, u3⟩ := i0 0 (by decide) (by omega)
        obtain ⟨u4, u5, u6⟩ := i0 1 (by decide) (by omega)
        rw [u1, u2, u3, u4, u5, u6, g1, g3, g4, g6, h15, h16, h17, h18, ht0]
        have w1 : gI FQ 0 = a1 := by rw [ieq]; exact g2
        have w2 : gI FQ 1 = a2 := by rw [ieq]; exact g5
        rw [w1, w2, if_neg (by decide)]
        exact ⟨by rw [ieq]; omega, rfl, rfl, rfl, rfl, rfl, rfl⟩
      · have c2' : ¬ 0 < a2 := fun h => c2 ((ltI a2).mp h)
        rw [if_neg c2'] at h17
        rw [if_pos c1, if_neg c2] at fnb
        rw [h17, if_neg (by decide)] at h18
        rw [h17, if_pos rfl] at ht0
        obtain ⟨u1, u2, u3⟩ := i0 0 (by decide) (by omega)
        obtain ⟨u4, u5, u6⟩ := o1 1 (by decide) (by omega)
        rw [u1, u2, u3, u4, u5, u6, g1, g3, h15, h16, h17, h18, ht0]
        have w1 : gI FQ 0 = a1 := by rw [ieq]; exact g2
        rw [w1, if_pos rfl]
        exact ⟨by rw [ieq]; omega, rfl, rfl, rfl, rfl, rfl, rfl⟩
    · have c1' : ¬ 0 < a1 := fun h => c1 ((ltI a1).mp h)
      have c2 : 0 < a2.toInt := by omega
      obtain ⟨g4, g5, g6⟩ := l2 c2
      rw [if_neg c1] at g4 g5 g6
      rw [if_neg c1'] at h15 h16 h17
      rw [if_neg c1, if_pos c2] at fnb
      rw [h17, if_neg (by decide)] at h18
      rw [h17, if_pos rfl] at ht0
      obtain ⟨u1, u2, u3⟩ := i0 0 (by decide) (by omega)
      obtain ⟨u4, u5, u6⟩ := o1 1 (by decide) (by omega)
      rw [u1, u2, u3, u4, u5, u6, g4, g6, h15, h16, h17, h18, ht0]
      have w1 : gI FQ 0 = a2 := by rw [ieq]; exact g5
      rw [w1, if_pos rfl]
      exact ⟨by rw [ieq]; omega, rfl, rfl, rfl, rfl, rfl, rfl⟩
  obtain ⟨-, -, -, u0, u1, u2, u3, u4, u5, u6⟩ := logOK
  -- the orders
  have st1 : gI ST 1 = if x = a1 then 2 else 1 := by
    rw [gS 1 (by decide) n1, s1]
    by_cases h : x = a1
    · rw [if_pos h, if_pos (by rw [h])]
    · rw [if_neg h, if_neg (fun q => h (by rw [ieq]; omega))]
  have st2 : gI ST 2 = if y = a2 then 2 else 1 := by
    rw [gS 2 (by decide) n2, s2]
    by_cases h : y = a2
    · rw [if_pos h, if_pos (by rw [h])]
    · rw [if_neg h, if_neg (fun q => h (by rw [ieq]; omega))]
  have rm1 : (if gI ST 1 = 1 then gI RM 1 else 0) = x - a1 := by
    rw [st1]
    by_cases h : x = a1
    · rw [if_pos h, if_neg (by decide), ieq, sx, h]; omega
    · rw [if_neg h, if_pos rfl, gM 1 (by decide) n1, ieq, m1, sx]
  have rm2 : (if gI ST 2 = 1 then gI RM 2 else 0) = y - a2 := by
    rw [st2]
    by_cases h : y = a2
    · rw [if_pos h, if_neg (by decide), ieq, sy, h]; omega
    · rw [if_neg h, if_pos rfl, gM 2 (by decide) n2, ieq, m2, sy]
  have top : f_isTop ST TP 3 1 = some (if a1 < x then 1 else 0) := by
    unfold f_isTop
    rw [rsq 1 (by decide) (by decide), Option.bind_some, st1]
    by_cases h : x = a1
    · have nl : ¬ a1 < x := by rw [ilt, h]; omega
      rw [if_pos h, if_neg (c := (2 : Int32) = 1) (by decide), if_pos rfl, if_neg nl]
    · have lt : a1.toInt < x.toInt := by rw [ieq] at h; omega
      have tp1 : gI TP 1 = 1 := by
        rcases hc with ⟨-, -, -, h', -⟩ | ⟨hz, -⟩
        · rw [h']; exact t1 lt
        · exfalso
          rw [ieq] at hz
          omega
      rw [if_neg h, if_pos (c := (1 : Int32) = 1) rfl, if_neg (by decide), rdg (by decide) (by rw [lTP]; decide), Option.bind_some, tp1, if_neg (by decide), if_pos (by rw [ilt]; exact lt)]
  have fe : (0 : Int32) + e = e := Int32.zero_add e
  have fl1 : gI FL 1 = a1 := by rw [gF 1 (by decide), if_neg n1, ieq, f1]
  have fl2 : gI FL 2 = a2 := by rw [gF 2 (by decide), if_neg n2, ieq, f2]
  have fl3 : gI FL 3 = e := by rw [gF 3 (by decide), if_pos rfl, fe]
  have st3 : gI ST 3 = (if z - e = 0 then 2 else 1) := by
    rcases hc with ⟨hz, -, h, -⟩ | ⟨hz, -, -, h, -⟩
    · rw [if_pos hz, h, gset (by decide) (by rw [lS]; decide) (by decide), if_pos rfl]
    · rw [if_neg hz, h, gset (by decide) (by rw [lS]; decide) (by decide), if_pos rfl]
  have rm3 : (if gI ST 3 = 1 then gI RM 3 else 0) = z - e := by
    rcases hc with ⟨hz, -⟩ | ⟨hz, -, h, -⟩
    · rw [st3, if_pos hz, if_neg (by decide), hz]
    · rw [st3, if_neg hz, if_pos rfl, h, gset (by decide) (by rw [lM]; decide) (by decide), if_pos rfl]
  have sxy : (x + y).toInt = x.toInt + y.toInt := iadd_i (by omega) (by omega)
  have sxe : (x + y - e).toInt = x.toInt + y.toInt - e.toInt := by rw [isub_i (by omega) (by omega), sxy]
  -- what rests
  have dep : f_depthAt SD PR RM RI RN 1 100 = some (x + y - e) := by
    have go : ∀ W : Int32 → Int, (∀ j : Int32, gI SD (gI RI j) = 1 → gI PR (gI RI j) = 100 → W j = (gI RM (gI RI j)).toInt) → (∀ j : Int32, ¬ (gI SD (gI RI j) = 1 ∧ gI PR (gI RI j) = 100) → W j = 0) → own_ws W RN.toInt.toNat = x.toInt + y.toInt - e.toInt → RI.length = 64 → 0 ≤ RN.toInt → RN.toInt ≤ 64 → (∀ j : Int32, 0 ≤ j.toInt → j.toInt < RN.toInt → 0 ≤ (gI RI j).toInt ∧ (gI RI j).toInt < 256 ∧ 0 ≤ (gI RM (gI RI j)).toInt ∧ (gI RM (gI RI j)).toInt ≤ 10000) → f_depthAt SD PR RM RI RN 1 100 = some (x + y - e) := by
      intro W w1 w2 ws lRI r0 r1 rr
      obtain ⟨d, ed, hd⟩ := own_dep30 sd pr lRM lRI r1 W rr w1 w2 100000 0 0 0 (by decide) (by omega) (by omega) rfl rfl (by omega) (by decide)
      unfold f_depthAt f_depthAt_11
      rw [if_neg (by decide), if_pos rfl, if_neg (by decide), if_neg (by decide), ed]
      congr 1
      rw [ieq, hd, ws, sxe]
    have w1 : ∀ j : Int32, gI SD (gI RI j) = 1 → gI PR (gI RI j) = 100 → own_wd SD PR RM RI 1 100 j = (gI RM (gI RI j)).toInt := fun j c1 c2 => by unfold own_wd; rw [if_pos ⟨c1, c2⟩]
    have w2 : ∀ j : Int32, ¬ (gI SD (gI RI j) = 1 ∧ gI PR (gI RI j) = 100) → own_wd SD PR RM RI 1 100 j = 0 := fun j c => by unfold own_wd; rw [if_neg c]
    refine go _ w1 w2 ?_ ?_ ?_ ?_ ?_
    · rcases hc with ⟨hz, hRM, hST, hTP, hRI, hRN⟩ | ⟨hz, hR0, hRM, hST, hTP, hRI, hRN⟩
      · subst hRI hRN
        have n0 := w.n0
        have n64 := w.n1
        let u : Int32 → Int := fun v => if v = 1 then x.toInt - a1.toInt else (if v = 2 then y.toInt - a2.toInt else 0)
        have same : own_ws (own_wd SD PR RM RI 1 100) RN.toInt.toNat = own_ws (fun j => u (gI RI j)) RN.toInt.toNat := by
          refine own_ws_same _ (by omega) (fun j j0 j1 => ?_)
          rcases (me (gI RI j)).mp ⟨j, j0, by omega, rfl⟩ with ⟨h, -⟩ | ⟨h, -⟩
          · rw [w1 j (by rw [h]; exact d1) (by rw [h]; exact p1), h, gM 1 (by decide) n1, m1]
            rfl
          · rw [w1 j (by rw [h]; exact d2) (by rw [h]; exact p2), h, gM 2 (by decide) n2, m2]
            rfl
        rw [same, ← own_ws_log (L := RI) RN.toInt.toNat (by omega) u (fun k k0 k1 => by have := w.e k k0 (by omega); omega) (fun i j i0 i1 j0 j1 h => w.d i j i0 (by omega) j0 (by omega) h) ?_]
        · have k1 := own_ws_one (w := u) (y := 1) (by decide) 256 (by omega)
          have k2 := own_ws_one (w := fun v => if v = 1 then 0 else u v) (y := 2) (by decide) 256 (by omega)
          have k3 : own_ws (fun v => if v = 2 then (0 : Int) else (if v = 1 then 0 else u v)) 256 = 0 := by
            refine own_ws_0 256 (by omega) (fun v _ _ => ?_)
            show (if v = 2 then (0 : Int) else (if v = 1 then 0 else (if v = 1 then x.toInt - a1.toInt else (if v = 2 then y.toInt - a2.toInt else 0)))) = 0
            by_cases h2 : v = 2
            · rw [if_pos h2]
            · rw [if_neg h2]
              by_cases h1 : v = 1
              · rw [if_pos h1]
              · rw [if_neg h1, if_neg h1, if_neg h2]
          rw [if_pos (by decide)] at k1 k2
          have e1 : u 1 = x.toInt - a1.toInt := rfl
          have e2 : (if (2 : Int32) = 1 then (0 : Int) else u 2) = y.toInt - a2.toInt := rfl
          have k2' : own_ws (fun v => if v = 1 then 0 else u v) 256 = own_ws (fun v => if v = 2 then (0 : Int) else (if v = 1 then 0 else u v)) 256 + (if (2 : Int32) = 1 then (0 : Int) else u 2) := k2
          rw [k1, k2', k3, e1, e2]
          omega
        · intro v v0 v1 hv
          show (if v = 1 then x.toInt - a1.toInt else (if v = 2 then y.toInt - a2.toInt else 0)) = 0
          have nm : ¬ own_mem RI RN v := by
            rintro ⟨j, j0, j1, ej⟩
            exact hv j j0 (by omega) ej
          by_cases h1 : v = 1
          · rw [if_pos h1]
            have : ¬ a1.toInt < x.toInt := fun h => nm ((me v).mpr (Or.inl ⟨h1, h⟩))
            omega
          · rw [if_neg h1]
            by_cases h2 : v = 2
            · rw [if_pos h2]
              have : ¬ a2.toInt < y.toInt := fun h => nm ((me v).mpr (Or.inr ⟨h2, h⟩))
              omega
            · rw [if_neg h2]
      · have r1 : RN.toInt.toNat = 1 := by rw [hRN]; rfl
        have g0 : gI RI 0 = 3 := by rw [hRI, gset (by decide) (by rw [w.l]; decide) (by decide), if_pos rfl]
        have o0 : Int32.ofNat 0 = 0 := rfl
        rw [r1, own_ws, own_ws, o0, w2 0 (fun h => by rw [g0, d3] at h; exact absurd h.1 (by decide))]
        have hz' := hz
        rw [ieq] at hz'
        omega
    · rcases hc with ⟨-, -, -, -, h, -⟩ | ⟨-, -, -, -, -, h, -⟩
      · rw [h]; exact w.l
      · rw [h, List.length_set]; exact w.l
    · rcases hc with ⟨-, -, -, -, -, h⟩ | ⟨-, -, -, -, -, -, h⟩
      · rw [h]; exact w.n0
      · rw [h]; decide
    · rcases hc with ⟨-, -, -, -, -, h⟩ | ⟨-, -, -, -, -, -, h⟩
      · rw [h]; exact w.n1
      · rw [h]; decide
    · intro j j0 j1
      rcases hc with ⟨hz, hRM, hST, hTP, hRI, hRN⟩ | ⟨hz, hR0, hRM, hST, hTP, hRI, hRN⟩
      · rw [hRI]
        rw [hRN] at j1
        rcases (me (gI RIm j)).mp ⟨j, j0, j1, rfl⟩ with ⟨h, -⟩ | ⟨h, -⟩
        · rw [h, gM 1 (by decide) n1, m1, q1]; omega
        · rw [h, gM 2 (by decide) n2, m2, q2]; omega
      · have jz : j = 0 := by rw [hRN, q1] at j1; rw [ieq]; omega
        have g0 : gI RI 0 = 3 := by rw [hRI, gset (by decide) (by rw [w.l]; decide) (by decide), if_pos rfl]
        have g3 : gI RM 3 = z - e := by rw [hRM, gset (by decide) (by rw [lM]; decide) (by decide), if_pos rfl]
        rw [jz, g0, g3, sz, q3]
        omega
  have best : f_bestPrice SD PR RI RN 0 = some (if z - e = 0 then 0 else 100) := by
    unfold f_bestPrice f_bestPrice_11
    rw [if_pos rfl]
    rcases hc with ⟨hz, hRM, hST, hTP, hRI, hRN⟩ | ⟨hz, hR0, hRM, hST, hTP, hRI, hRN⟩
    · rw [if_pos hz, hRI, hRN, own_bo0 w sd pr (fun v hv => ?_) 0 (fun v hv => ?_), Option.bind_some]
      · rcases (me v).mp hv with ⟨h, -⟩ | ⟨h, -⟩
        · rw [h, p1]; decide
        · rw [h, p2]; decide
      · rcases (me v).mp hv with ⟨h, -⟩ | ⟨h, -⟩
        · rw [h, d1]; decide
        · rw [h, d2]; decide
    · have g0 : gI RI 0 = 3 := by rw [hRI, gset (by decide) (by rw [w.l]; decide) (by decide), if_pos rfl]
      have lRI : RI.length = 64 := by rw [hRI, List.length_set]; exact w.l
      rw [if_neg hz, hRN, own_b1 lRI sd pr g0 (by decide) (by decide) d3 p3 0, Option.bind_some, if_pos rfl]
  unfold f_L_law_438
  rw [if_pos u0, u1, Option.bind_some, if_pos rfl, u2, Option.bind_some, if_pos rfl, u3, Option.bind_some, if_pos rfl, u4, Option.bind_some, if_pos rfl, u5, Option.bind_some, if_pos rfl, u6, Option.bind_some]
  unfold f_L_law_517
  rw [if_pos rfl, rmq 1 (by decide) (by decide), Option.bind_some, if_pos rm1, st 1 (by decide) (by decide), Option.bind_some]
  unfold f_L_law_554
  rw [if_pos st1, top, Option.bind_some]
  unfold f_L_law_575
  rw [if_pos rfl, rmq 2 (by decide) (by decide), Option.bind_some, if_pos rm2, st 2 (by decide) (by decide), Option.bind_some]
  unfold f_L_law_612
  rw [if_pos st2, flq 1 (by decide) (by decide), Option.bind_some, if_pos fl1, flq 2 (by decide) (by decide), Option.bind_some, if_pos fl2, flq 3 (by decide) (by decide), Option.bind_some, if_pos fl3, st 3 (by decide) (by decide), Option.bind_some]
  unfold f_L_law_668
  rw [if_pos st3, rmq 3 (by decide) (by decide), Option.bind_some, if_pos rm3, dep, Option.bind_some, if_pos rfl, best, Option.bind_some]
  unfold f_L_law_720
  rw [if_pos rfl]
theorem own_gt {L : List Int32} {i v : Int32} {n : Nat} (l : L.length = n) (hi : 0 ≤ i.toInt) (hl : i.toInt < n) : gI (L.set i.toInt.toNat v) i = v := by
  rw [gset hi (by omega) hi, if_pos rfl]
theorem own_gn {L : List Int32} {i j v : Int32} {n : Nat} (l : L.length = n) (hi : 0 ≤ i.toInt) (hl : i.toInt < n) (hj : 0 ≤ j.toInt) (ne : ¬ i = j) : gI (L.set i.toInt.toNat v) j = gI L j := by
  rw [gset hi (by omega) hj, if_neg ne]
theorem own_sl {α : Type} {L : List α} {i : Nat} {v : α} {n : Nat} (l : L.length = n) : (L.set i v).length = n := by
  rw [List.length_set]
  exact l
theorem own_351 {v0 v1 x y z e a1 a2 ma tc : Int32} (x0 : 1 ≤ x.toInt) (x1 : x.toInt ≤ 1024) (y0 : 1 ≤ y.toInt) (y1 : y.toInt ≤ 1024) (z0 : 1 ≤ z.toInt) (z1 : z.toInt ≤ 4096) (c0 : 0 ≤ tc.toInt) (hi : f_init v0 v1 = some (List.replicate 256 0, List.replicate 256 0, List.replicate 256 0, List.replicate 256 0, List.replicate 256 0, List.replicate 256 0, List.replicate 256 0, List.replicate 64 0, List.replicate 64 0, List.replicate 64 0, List.replicate 64 0, List.replicate 64 0, List.replicate 64 0, List.replicate 64 0, ma, tc, 0, 0, 0, 0, 0)) (he : e.toInt = own_min z.toInt (x.toInt + y.toInt)) (h1 : a1.toInt = (own_p5 ma.toInt x.toInt y.toInt e.toInt (own_t5 tc.toInt x.toInt e.toInt)).1) (h2 : a2.toInt = (own_p5 ma.toInt x.toInt y.toInt e.toInt (own_t5 tc.toInt x.toInt e.toInt)).2) : f_L_law_289 v0 v1 x y z e a1 a2 = some 1 := by
  have eb : 1 ≤ e.toInt ∧ e.toInt ≤ x.toInt + y.toInt := by rw [he]; unfold own_min; split <;> omega
  have tb := own_t5b (c := tc.toInt) (x := x.toInt) (e := e.toInt) c0 x0 eb.1
  obtain ⟨b1, b2, b3, b4, b5⟩ := own_p5b (m := ma.toInt) x0 y0 eb.1 eb.2 tb.1 tb.2.1 tb.2.2
  rw [← h1] at b1 b2 b5
  rw [← h2] at b3 b4 b5
  unfold f_L_law_289 f_L_law_306 f_L_law_320 f_L_law_337 f_L_law_351
  rw [hi, Option.bind_some]
  have lZ : (List.replicate 256 (0 : Int32)).length = 256 := by simp
  have lY : (List.replicate 64 (0 : Int32)).length = 64 := by simp
  have lW : (List.replicate 256 (0 : Int64)).length = 256 := by simp
  have gZ : ∀ j : Int32, 0 ≤ j.toInt → j.toInt < 256 → gI (List.replicate 256 (0 : Int32)) j = 0 := fun j p q => gI_rep p q
  have oY : own_R (List.replicate 64 (0 : Int32)) := own_Rrep 64
  generalize List.replicate 256 (0 : Int32) = Z at *
  generalize List.replicate 64 (0 : Int32) = Y at *
  generalize List.replicate 256 (0 : Int64) = W at *
  have o1 : (0 : Int32) + 1 = 1 := rfl
  have o2 : (1 : Int32) + 1 = 2 := rfl
  have ls : ∀ (L : List Int32) (i : Nat) (v : Int32), L.length = 256 → (L.set i v).length = 256 := fun L i v l => own_sl l
  have lq : ∀ (L : List Int64) (i : Nat) (v : Int64), L.length = 256 → (L.set i v).length = 256 := fun L i v l => own_sl l
  have l6 : ∀ (L : List Int32) (i : Nat) (v : Int32), L.length = 64 → (L.set i v).length = 64 := fun L i v l => own_sl l
  have r1 := own_plc (ma := ma) (tc := tc) (FI := Y) (FQ := Y) (FP := Y) (LI := Y) (LR := Y) (LA := Y) (FN := 0) (LN := 0) (stamp := 0) (t := 1) (q := x) (id := 1) (acc := 0) (RN := 0) lZ lZ lZ lZ lZ lW lZ lY o1 (by decide) (by decide) (by decide) (by decide) (by decide) x0 (by omega) (own_bz 0) (Or.inl ⟨rfl, own_bz 1, own_cz 1⟩)
  show Option.bind (f_submit ma tc Z Z Z Z Z W Z Y Y Y Y Y Y Y 0 0 0 0 0 1 100 x 0) _ = _
  rw [r1, Option.bind_some]
  have rI0 : gI (Y.set (0 : Int32).toInt.toNat 1) 0 = 1 := own_gt lY (by decide) (by decide)
  have sD1 : gI ((Z.set (1 : Int32).toInt.toNat 1).set (2 : Int32).toInt.toNat 1) 1 = 1 := by rw [own_gn (ls _ _ _ lZ) (by decide) (by decide) (by decide) (by decide), own_gt lZ (by decide) (by decide)]
  have sP1 : gI ((Z.set (1 : Int32).toInt.toNat 100).set (2 : Int32).toInt.toNat 100) 1 = 100 := by rw [own_gn (ls _ _ _ lZ) (by decide) (by decide) (by decide) (by decide), own_gt lZ (by decide) (by decide)]
  have r2 := own_plc (ma := ma) (tc := tc) (SD := Z.set (1 : Int32).toInt.toNat 1) (PR := Z.set (1 : Int32).toInt.toNat 100) (RM := (Z.set (1 : Int32).toInt.toNat 0).set (1 : Int32).toInt.toNat x) (FL := Z.set (1 : Int32).toInt.toNat 0) (ST := Z.set (1 : Int32).toInt.toNat 1) (SP := (W.set (1 : Int32).toInt.toNat 0).set (1 : Int32).toInt.toNat (0 + 1)) (TP := (Z.set (1 : Int32).toInt.toNat 0).set (1 : Int32).toInt.toNat 1) (RI := Y.set (0 : Int32).toInt.toNat 1) (FI := Y) (FQ := Y) (FP := Y) (LI := Y) (LR := Y) (LA := Y) (FN := 0) (LN := 0) (stamp := 0 + 1) (t := 0) (q := y) (id := 2) (acc := 1) (RN := 1) (ls _ _ _ lZ) (ls _ _ _ lZ) (ls _ _ _ (ls _ _ _ lZ)) (ls _ _ _ lZ) (ls _ _ _ lZ) (lq _ _ _ (lq _ _ _ lW)) (ls _ _ _ (ls _ _ _ lZ)) (l6 _ _ _ lY) o2 (by decide) (by decide) (by decide) (by decide) (by decide) y0 (by omega) (own_b1 (l6 _ _ _ lY) (ls _ _ _ (ls _ _ _ lZ)) (ls _ _ _ (ls _ _ _ lZ)) rI0 (by decide) (by decide) sD1 sP1 0) (Or.inr ⟨rfl, own_b1 (l6 _ _ _ lY) (ls _ _ _ (ls _ _ _ lZ)) (ls _ _ _ (ls _ _ _ lZ)) rI0 (by decide) (by decide) sD1 sP1 1⟩)
  show Option.bind (f_submit ma tc (Z.set (1 : Int32).toInt.toNat 1) (Z.set (1 : Int32).toInt.toNat 100) ((Z.set (1 : Int32).toInt.toNat 0).set (1 : Int32).toInt.toNat x) (Z.set (1 : Int32).toInt.toNat 0) (Z.set (1 : Int32).toInt.toNat 1) ((W.set (1 : Int32).toInt.toNat 0).set (1 : Int32).toInt.toNat (0 + 1)) ((Z.set (1 : Int32).toInt.toNat 0).set (1 : Int32).toInt.toNat 1) (Y.set (0 : Int32).toInt.toNat 1) Y Y Y Y Y Y 1 (0 + 1) 1 0 0 1 100 y 0) _ = _
  rw [r2, Option.bind_some]
  -- the state the third finds
  have rI0' : gI ((Y.set (0 : Int32).toInt.toNat 1).set (1 : Int32).toInt.toNat 2) 0 = 1 := by rw [own_gn (l6 _ _ _ lY) (by decide) (by decide) (by decide) (by decide)]; exact rI0
  have rI1' : gI ((Y.set (0 : Int32).toInt.toNat 1).set (1 : Int32).toInt.toNat 2) 1 = 2 := own_gt (l6 _ _ _ lY) (by decide) (by decide)
  have sD2 : gI ((Z.set (1 : Int32).toInt.toNat 1).set (2 : Int32).toInt.toNat 1) 2 = 1 := own_gt (ls _ _ _ lZ) (by decide) (by decide)
  have sP2 : gI ((Z.set (1 : Int32).toInt.toNat 100).set (2 : Int32).toInt.toNat 100) 2 = 100 := own_gt (ls _ _ _ lZ) (by decide) (by decide)
  have mX : gI ((((Z.set (1 : Int32).toInt.toNat 0).set (1 : Int32).toInt.toNat x).set (2 : Int32).toInt.toNat 0).set (2 : Int32).toInt.toNat y) 1 = x := by
    rw [own_gn (ls _ _ _ (ls _ _ _ (ls _ _ _ lZ))) (by decide) (by decide) (by decide) (by decide), own_gn (ls _ _ _ (ls _ _ _ lZ)) (by decide) (by decide) (by decide) (by decide), own_gt (ls _ _ _ lZ) (by decide) (by decide)]
  have mY : gI ((((Z.set (1 : Int32).toInt.toNat 0).set (1 : Int32).toInt.toNat x).set (2 : Int32).toInt.toNat 0).set (2 : Int32).toInt.toNat y) 2 = y := own_gt (ls _ _ _ (ls _ _ _ (ls _ _ _ lZ))) (by decide) (by decide)
  have tP : gI ((((Z.set (1 : Int32).toInt.toNat 0).set (1 : Int32).toInt.toNat 1).set (2 : Int32).toInt.toNat 0).set (2 : Int32).toInt.toNat 0) 1 = 1 := by
    rw [own_gn (ls _ _ _ (ls _ _ _ (ls _ _ _ lZ))) (by decide) (by decide) (by decide) (by decide), own_gn (ls _ _ _ (ls _ _ _ lZ)) (by decide) (by decide) (by decide) (by decide), own_gt (ls _ _ _ lZ) (by decide) (by decide)]
  have fL1 : gI ((Z.set (1 : Int32).toInt.toNat 0).set (2 : Int32).toInt.toNat 0) 1 = 0 := by rw [own_gn (ls _ _ _ lZ) (by decide) (by decide) (by decide) (by decide), own_gt lZ (by decide) (by decide)]
  have fL2 : gI ((Z.set (1 : Int32).toInt.toNat 0).set (2 : Int32).toInt.toNat 0) 2 = 0 := own_gt (ls _ _ _ lZ) (by decide) (by decide)
  have lM4 := ls _ (2 : Int32).toInt.toNat y (ls _ (2 : Int32).toInt.toNat 0 (ls _ (1 : Int32).toInt.toNat x (ls _ (1 : Int32).toInt.toNat 0 lZ)))
  have lT4 := ls _ (2 : Int32).toInt.toNat 0 (ls _ (2 : Int32).toInt.toNat 0 (ls _ (1 : Int32).toInt.toNat 1 (ls _ (1 : Int32).toInt.toNat 0 lZ)))
  have lF2 := ls _ (2 : Int32).toInt.toNat 0 (ls _ (1 : Int32).toInt.toNat 0 lZ)
  have lS2 := ls _ (2 : Int32).toInt.toNat 1 (ls _ (1 : Int32).toInt.toNat 1 lZ)
  have lP2 := ls _ (2 : Int32).toInt.toNat 100 (ls _ (1 : Int32).toInt.toNat 100 lZ)
  have lI2 := l6 _ (1 : Int32).toInt.toNat 2 (l6 _ (0 : Int32).toInt.toNat 1 lY)
  have lW4 := lq _ (2 : Int32).toInt.toNat (0 + 1 + 1) (lq _ (2 : Int32).toInt.toNat 0 (lq _ (1 : Int32).toInt.toNat (0 + 1) (lq _ (1 : Int32).toInt.toNat 0 lW)))
  have wR : own_W ((Y.set (0 : Int32).toInt.toNat 1).set (1 : Int32).toInt.toNat 2) 2 2 := by
    have two : ∀ j : Int32, 0 ≤ j.toInt → j.toInt < (2 : Int32).toInt → j = 0 ∨ j = 1 := by
      intro j j0 j1
      have q2 : (2 : Int32).toInt = 2 := rfl
      rw [q2] at j1
      rw [ieq, ieq]
      have q0 : (0 : Int32).toInt = 0 := rfl
      have q1 : (1 : Int32).toInt = 1 := rfl
      omega
    refine ⟨lI2, by decide, by decide, own_Rs (own_Rs oY (by decide) (by decide)) (by decide) (by decide), fun j j0 j1 => ?_, fun i j i0 i1 j0 j1 h => ?_⟩
    · rcases two j j0 j1 with q | q
      · rw [q, rI0']; decide
      · rw [q, rI1']; decide
    · rcases two i i0 i1 with q | q <;> rcases two j j0 j1 with q' | q'
      · rw [q, q']
      · rw [q, q', rI0', rI1'] at h; exact absurd h (by decide)
      · rw [q, q', rI0', rI1'] at h; exact absurd h (by decide)
      · rw [q, q']
  have meR : ∀ v : Int32, own_mem ((Y.set (0 : Int32).toInt.toNat 1).set (1 : Int32).toInt.toNat 2) 2 v ↔ (v = 1 ∧ (0 : Int) < x.toInt) ∨ (v = 2 ∧ (0 : Int) < y.toInt) := by
    intro v
    constructor
    · rintro ⟨j, j0, j1, ej⟩
      have q2 : (2 : Int32).toInt = 2 := rfl
      have q0 : (0 : Int32).toInt = 0 := rfl
      have q1 : (1 : Int32).toInt = 1 := rfl
      rw [q2] at j1
      have : j = 0 ∨ j = 1 := by rw [ieq, ieq]; omega
      rcases this with q | q
      · rw [q, rI0'] at ej; exact Or.inl ⟨ej.symm, by omega⟩
      · rw [q, rI1'] at ej; exact Or.inr ⟨ej.symm, by omega⟩
    · rintro (⟨q, -⟩ | ⟨q, -⟩)
      · exact ⟨0, by decide, by decide, by rw [rI0', q]⟩
      · exact ⟨1, by decide, by decide, by rw [rI1', q]⟩
  have s1 : rdA (((((W.set (1 : Int32).toInt.toNat 0).set (1 : Int32).toInt.toNat (0 + 1)).set (2 : Int32).toInt.toNat 0).set (2 : Int32).toInt.toNat (0 + 1 + 1)).set (3 : Int32).toInt.toNat 0) 1 = some 1 := by
    have t1 : (1 : Int32).toInt.toNat = 1 := rfl
    have t2 : (2 : Int32).toInt.toNat = 2 := rfl
    have t3 : (3 : Int32).toInt.toNat = 3 := rfl
    have tc1 : (1 : Int32).toNatClampNeg = 1 := rfl
    have nl : ¬ (1 : Int32) < 0 := by decide
    rw [t1, t2, t3]
    simp [rdA, nl, tc1, List.getElem?_set, lW]
  have s2 : rdA (((((W.set (1 : Int32).toInt.toNat 0).set (1 : Int32).toInt.toNat (0 + 1)).set (2 : Int32).toInt.toNat 0).set (2 : Int32).toInt.toNat (0 + 1 + 1)).set (3 : Int32).toInt.toNat 0) 2 = some 2 := by
    have t1 : (1 : Int32).toInt.toNat = 1 := rfl
    have t2 : (2 : Int32).toInt.toNat = 2 := rfl
    have t3 : (3 : Int32).toInt.toNat = 3 := rfl
    have tc1 : (2 : Int32).toNatClampNeg = 2 := rfl
    have nl : ¬ (2 : Int32) < 0 := by decide
    have l2 : (1 : Int64) + 1 = 2 := rfl
    rw [t1, t2, t3]
    simp [rdA, nl, tc1, List.getElem?_set, lW, l2]
  have S0 : own_S5 (((((Z.set (1 : Int32).toInt.toNat 0).set (1 : Int32).toInt.toNat x).set (2 : Int32).toInt.toNat 0).set (2 : Int32).toInt.toNat y).set (3 : Int32).toInt.toNat 0) (((Z.set (1 : Int32).toInt.toNat 0).set (2 : Int32).toInt.toNat 0).set (3 : Int32).toInt.toNat 0) ((Z.set (1 : Int32).toInt.toNat 1).set (2 : Int32).toInt.toNat 1) (((((Z.set (1 : Int32).toInt.toNat 0).set (1 : Int32).toInt.toNat 1).set (2 : Int32).toInt.toNat 0).set (2 : Int32).toInt.toNat 0).set (3 : Int32).toInt.toNat 0) ((Y.set (0 : Int32).toInt.toNat 1).set (1 : Int32).toInt.toNat 2) Y Y Y 2 0 x.toInt y.toInt 0 0 := by
    refine ⟨ls _ _ _ lM4, ls _ _ _ lF2, lS2, ls _ _ _ lT4, lY, lY, lY, wR, meR, ?_, ?_, ?_, ?_, ?_, ?_, ?_, ?_, ?_, ?_, ?_⟩
    · rw [own_gn lM4 (by decide) (by decide) (by decide) (by decide), mX]; omega
    · rw [own_gn lM4 (by decide) (by decide) (by decide) (by decide), mY]; omega
    · rw [own_gn lF2 (by decide) (by decide) (by decide) (by decide), fL1]; rfl
    · rw [own_gn lF2 (by decide) (by decide) (by decide) (by decide), fL2]; rfl
    · exact own_gt lF2 (by decide) (by decide)
    · rw [sD1, if_neg (by omega)]
    · rw [sD2, if_neg (by omega)]
    · intro _
      rw [own_gn lT4 (by decide) (by decide) (by decide) (by decide), tP]
    · rw [if_neg (by omega)]; rfl
    · intro h; omega
    · intro h; omega
  have r3 := own_sub3 (ma := ma) (tc := tc) (FN := 0) (LN := 0) (stamp := 0 + 1 + 1) (z := z) (LI := Y) (LR := Y) (LA := Y) lS2 lP2 lM4 lF2 lW4 lT4 (by rw [own_gn lS2 (by decide) (by decide) (by decide) (by decide)]; exact sD1) (by rw [own_gn lS2 (by decide) (by decide) (by decide) (by decide)]; exact sD2) (by rw [own_gn lP2 (by decide) (by decide) (by decide) (by decide)]; exact sP1) (by rw [own_gn lP2 (by decide) (by decide) (by decide) (by decide)]; exact sP2) rI0' rI1' s1 s2 (by decide) lY lY lY S0 x0 x1 y0 y1 z0 z1 c0
  obtain ⟨⟨r, SD', PR', RM', FL', ST', SP', TP', RI', FI', FQ', FP', LI', LR', LA', acc', stamp', RN', FN', LN'⟩, es, er, ea, eD, eP, RMm, FLm, STm, TPm, RIm, RNm, e', he', Sm, hF, hc⟩ := r3
  have er' : r = 3 := er
  have ea' : acc' = 3 := ea
  have eD' : SD' = ((Z.set (1 : Int32).toInt.toNat 1).set (2 : Int32).toInt.toNat 1).set (3 : Int32).toInt.toNat 0 := eD
  have eP' : PR' = ((Z.set (1 : Int32).toInt.toNat 100).set (2 : Int32).toInt.toNat 100).set (3 : Int32).toInt.toNat 100 := eP
  have ee : e' = e := by rw [ieq, he', he]
  subst ee
  have Sm' : own_S5 RMm FLm STm TPm RIm FI' FQ' FP' RNm FN' x.toInt y.toInt a1.toInt a2.toInt := by rw [h1, h2]; exact Sm
  show Option.bind (f_submit ma tc ((Z.set (1 : Int32).toInt.toNat 1).set (2 : Int32).toInt.toNat 1) ((Z.set (1 : Int32).toInt.toNat 100).set (2 : Int32).toInt.toNat 100) ((((Z.set (1 : Int32).toInt.toNat 0).set (1 : Int32).toInt.toNat x).set (2 : Int32).toInt.toNat 0).set (2 : Int32).toInt.toNat y) ((Z.set (1 : Int32).toInt.toNat 0).set (2 : Int32).toInt.toNat 0) ((Z.set (1 : Int32).toInt.toNat 1).set (2 : Int32).toInt.toNat 1) ((((W.set (1 : Int32).toInt.toNat 0).set (1 : Int32).toInt.toNat (0 + 1)).set (2 : Int32).toInt.toNat 0).set (2 : Int32).toInt.toNat (0 + 1 + 1)) ((((Z.set (1 : Int32).toInt.toNat 0).set (1 : Int32).toInt.toNat 1).set (2 : Int32).toInt.toNat 0).set (2 : Int32).toInt.toNat 0) ((Y.set (0 : Int32).toInt.toNat 1).set (1 : Int32).toInt.toNat 2) Y Y Y Y Y Y 2 (0 + 1 + 1) 2 0 0 0 100 z 0) _ = _
  rw [es, Option.bind_some]
  show (if (1 : Int32) = 1 then (if (2 : Int32) = 2 then (if r = 3 then _ else _) else _) else _) = _
  rw [if_pos rfl, if_pos rfl, if_pos er']
  unfold f_fillCount
  rw [Option.bind_some, ea']
  refine own_438 (by rw [eD']; exact ls _ _ _ lS2) (by rw [eP']; exact ls _ _ _ lP2) (by rw [eD', own_gn lS2 (by decide) (by decide) (by decide) (by decide)]; exact sD1) (by rw [eD', own_gn lS2 (by decide) (by decide) (by decide) (by decide)]; exact sD2) (by rw [eD']; exact own_gt lS2 (by decide) (by decide)) (by rw [eP', own_gn lP2 (by decide) (by decide) (by decide) (by decide)]; exact sP1) (by rw [eP', own_gn lP2 (by decide) (by decide) (by decide) (by decide)]; exact sP2) (by rw [eP']; exact own_gt lP2 (by decide) (by decide)) x0 x1 y0 y1 z0 z1 he b1 b2 b3 b4 b5 Sm' hF hc _ _ _ _ _ rfl rfl rfl rfl rfl
theorem own_true (v0 v1 v2 v3 v4 : Int32) : f_L_law v0 v1 v2 v3 v4 = some 1 := by
  have q1 : (1 : Int32).toInt = 1 := rfl
  have rx := iand_rng v2 1023 (by decide)
  have ry := iand_rng v3 1023 (by decide)
  have rz := iand_rng v4 4095 (by decide)
  have e1 : (1023 : Int32).toInt = 1023 := rfl
  have e2 : (4095 : Int32).toInt = 4095 := rfl
  rw [e1] at rx ry
  rw [e2] at rz
  have sx : (1 + (v2 &&& 1023)).toInt = 1 + (v2 &&& 1023).toInt := by rw [iadd_i (by omega) (by omega), q1]
  have sy : (1 + (v3 &&& 1023)).toInt = 1 + (v3 &&& 1023).toInt := by rw [iadd_i (by omega) (by omega), q1]
  have sz : (1 + (v4 &&& 4095)).toInt = 1 + (v4 &&& 4095).toInt := by rw [iadd_i (by omega) (by omega), q1]
  unfold f_L_law f_L_law_49
  obtain ⟨ma, tc, hm, ht, c0, hi⟩ := own_ini v0 v1
  rw [hm, ht]
  obtain ⟨e, a1, a2, h, he, h1, h2⟩ := own_95 (v0 := v0) (v1 := v1) (x := 1 + (v2 &&& 1023)) (y := 1 + (v3 &&& 1023)) (z := 1 + (v4 &&& 4095)) (m := ma) (c := tc) (by omega) (by omega) (by omega) (by omega) (by omega) (by omega) c0
  rw [h]
  exact own_351 (by omega) (by omega) (by omega) (by omega) (by omega) (by omega) c0 hi he h1 h2
set_option maxRecDepth 65536 in
theorem comes_1 {Post : Tables → Env → Array Value → State → Outcome → State → Prop} (hpost : ∀ tb e args s v u, (limb_1_1.after args s (.returned v) u = true ∧ limb_1_2.after args s (.returned v) u = true ∧ True) → FrameEnd s (.returned v) u (Jvm.fieldLocs frame_1_writes args s ++ Jvm.arrayLocs frame_1_arrays args s ++ Jvm.staticLocs frame_1_statics s) 40 4608 → Post tb e args s (.returned v) u) :
    ArmFor flags0 classFile x code maxLocals ret World_1 tables_1 room_1 Calls_1 rest_1 Pre_1 Post := by
  intro l hfl _ _ p e ha hc hk s m args below hf hA hF happ hP
  obtain ⟨hcalls, hrest, hpre⟩ := hP
  obtain ⟨-, -, -, hnamed, -, -, -, hat⟩ := (Spec.applies_iff hf).mp happ
  obtain ⟨hg, hn⟩ := and_e (Cond.before_iff.mp (show (Jvm.Cond.and given_1 narrow_1).before args s = true from hpre))
  obtain ⟨h1, h2⟩ := and_e hg
  have hw := fun d (hd : d ∈ tables_1) => atoms_spec (ws := Jvm.Cond.code x code maxLocals ret :: tables_1) hat d (List.mem_cons_of_mem _ hd)
  obtain ⟨w0, w1, w2, w3, w4, rfl⟩ : ∃ w0 w1 w2 w3 w4 : Value, args = #[w0, w1, w2, w3, w4] := by
    have hs : args.size = 5 := by simpa [Cond.value, given_1] using h1
    obtain ⟨L⟩ := args
    match L, hs with
    | [w0, w1, w2, w3, w4], _ => exact ⟨w0, w1, w2, w3, w4, rfl⟩
  obtain ⟨g0, t0⟩ := and_e h2
  obtain ⟨i0, e0⟩ := is_v g0
  obtain rfl : w0 = (.int i0) := Option.some.inj e0
  obtain ⟨g1, t1⟩ := and_e t0
  obtain ⟨i1, e1⟩ := is_v g1
  obtain rfl : w1 = (.int i1) := Option.some.inj e1
  obtain ⟨g2, t2⟩ := and_e t1
  obtain ⟨i2, e2⟩ := is_v g2
  obtain rfl : w2 = (.int i2) := Option.some.inj e2
  obtain ⟨g3, t3⟩ := and_e t2
  obtain ⟨i3, e3⟩ := is_v g3
  obtain rfl : w3 = (.int i3) := Option.some.inj e3
  obtain ⟨i4, e4⟩ := is_v t3
  obtain rfl : w4 = (.int i4) := Option.some.inj e4
  have E : OEndsQ own_P 0 0 (entL [.int i0, .int i1, .int i2, .int i3, .int i4] d_0.maxL) [] [] (LawQ 1 15 2261) := ok_L_law (own_true i0 i1 i2 i3 i4)
  have hS : SR [] [.int i0, .int i1, .int i2, .int i3, .int i4] [.int i0, .int i1, .int i2, .int i3, .int i4] := ⟨_, _, rfl, rfl, ⟨_, _, rfl, rfl, ⟨_, _, rfl, rfl, ⟨_, _, rfl, rfl, ⟨_, _, rfl, rfl, rfl⟩⟩⟩⟩⟩
  have hH : HR own_P s s.heap.size s.heap [] [] := ⟨Nat.le_refl _, rfl, fun i j a h => by simp at h, fun k a h => by simp at h, fun k a c h => by simp at h⟩
  have M := law_met (l := l) own_chk (fun w hw' => hw w (own_in w hw')) hm_0 E hS (Nat.le_of_ble_eq_true rfl) hH tables_1 room_1 (Nat.le_of_ble_eq_true rfl) (Nat.le_of_ble_eq_true rfl) (Nat.le_of_ble_eq_true rfl) (Nat.le_of_ble_eq_true rfl)
  obtain ⟨n, o, h1, h2, h3, L, rfl, N, hq⟩ := M p e ha hc hk s m _ below hf ((Spec.applies_iff_loose hf).mp happ).1 ⟨rfl, State.Warmed39.refl s, rfl⟩ trivial
  refine ⟨n, _, h1, h2, h3, hpost _ _ _ _ _ _ ⟨Cond.after_iff.mpr rfl, Cond.after_iff.mpr (eq_i res_at (Term.int_eval (1)) rfl), trivial⟩ ⟨hq.1, hq.2.1, (hq.2.2.sift fun y hy => Or.inr (N y hy)).mono (by decide) (by decide)⟩⟩
theorem main_1_1 : Claimed_1_1 := comes_1 fun _ _ _ _ _ _ h hF => ⟨h.1, hF⟩
theorem main_1_2 : Claimed_1_2 := comes_1 fun _ _ _ _ _ _ h hF => ⟨h.2.1, hF⟩
end Jvm.Pilot.@@N@@
namespace Jvm.Pilot.@@N@@
open Jvm Jvm.ClassFile Sem Op Lib Jvm.Free Jvm.Stand Jvm.Pilot.@@N@@.Jvm.D
/-! MADE BY PROGRAM (witnessworld.py) out of the Statement's table words and the real class files: 13 classes; the members and pool entries that the words name. The judged class is class 1, her method 1. -/
namespace start1
open Jvm.ClassFile
def u (s : String) : CpInfo := .utf8 (stringToUtf16 s)
/-- a pool by its gaps: so many unusable entries, then the entry; so many at the end -/
def gap : Nat → List CpInfo → List CpInfo
  | 0, r => r
  | n + 1, r => .unusable :: gap n r
def poolList (es : List (Nat × CpInfo)) (last : Nat) : List CpInfo := es.foldr (fun e r => gap e.1 (e.2 :: r)) (gap last [])
def pool (es : List (Nat × CpInfo)) (last : Nat) : Array CpInfo := ⟨poolList es last⟩
def fileOf (pool : Array CpInfo) (this : Nat) (attrs : Array Attribute := #[]) (ms : Array MethodInfo := #[]) (fl : Nat := 33) (sup : Nat := 0) (ifs : Array Nat := #[]) (fds : Array FieldInfo := #[]) : ClassFile where
  minorVersion := 0
  majorVersion := 65
  constantPool := pool
  accessFlags := fl
  thisClass := this
  superClass := sup
  interfaces := ifs
  fields := fds
  methods := ms
  attributes := attrs
def plain (name : String) (sup : Option ClassId) : Class where
  name := name
  kind := .ordinary
  loader := none
  accessFlags := 33
  super := sup
  interfaces := #[]
  cf := none
  fields := #[]
  methods := #[]
  instanceTypes := #[]
  staticTypes := #[]
  resolved := #[]
  callSites := []
  init := .initialized
  statics := none
  mirror := none

def pool0 : Array CpInfo := pool [(5, u "<init>"), (0, u "()V"), (1, .class_ 10), (1, u "java/lang/Object")] 113

def k0c0 : Code := { maxStack := 0, maxLocals := 1, code := object_method_1_code, exceptionTable := #[], attributes := #[] }
def k0m0 : Method := { name := "<init>", desc := "()V", sig := { parameters := [], returnType := none }, accessFlags := 1, code := some k0c0 }
/-- java/lang/Object -/
def k0 : Class := { plain "java/lang/Object" none with
  accessFlags := 33
  interfaces := #[]
  cf := some (fileOf pool0 8 #[] #[{ accessFlags := 1, nameIndex := 5, descriptorIndex := 6, attributes := #[] }] 33 0 #[] #[])
  fields := #[]
  methods := #[k0m0]
  instanceTypes := #[]
  staticTypes := #[]
  resolved := Array.replicate 124 none
  statics := none }

def pool1 : Array CpInfo := pool [(2, .class_ 4), (1, u "java/lang/Object"), (0, u "<init>"), (0, u "()V"), (0, .class_ 8), (0, u "ProRataBook"), (0, .methodref 7 10), (0, .nameAndType 5 11), (0, u "(II)V"), (0, .methodref 7 13), (0, .nameAndType 14 15), (0, u "submit"), (0, u "(IIII)I"), (0, .methodref 7 17), (0, .nameAndType 18 19), (0, u "fillCount"), (0, u "()I"), (0, .methodref 7 21), (0, .nameAndType 22 23), (0, u "fillId"), (0, u "(I)I"), (0, .methodref 7 25), (0, .nameAndType 26 23), (0, u "fillQty"), (0, .methodref 7 28), (0, .nameAndType 29 23), (0, u "fillPrice"), (0, .methodref 7 31), (0, .nameAndType 32 23), (0, u "remaining"), (0, .methodref 7 34), (0, .nameAndType 35 23), (0, u "status"), (0, .methodref 7 37), (0, .nameAndType 38 39), (0, u "isTop"), (0, u "(I)Z"), (0, .methodref 7 41), (0, .nameAndType 42 23), (0, u "filled"), (0, .methodref 7 44), (0, .nameAndType 45 46), (0, u "depthAt"), (0, u "(II)I"), (0, .methodref 7 48), (0, .nameAndType 49 23), (0, u "bestPrice"), (0, .class_ 51), (0, u "ProRataBookL3"), (2, u "law"), (0, u "(IIIII)Z")] 3

def k1m0 : Method := { name := "<init>", desc := "()V", sig := { parameters := [], returnType := none }, accessFlags := 1, code := none }
def k1c1 : Code := { maxStack := 5, maxLocals := 23, code := code, exceptionTable := #[], attributes := #[] }
def k1m1 : Method := { name := "law", desc := "(IIIII)Z", sig := { parameters := [.int, .int, .int, .int, .int], returnType := some .boolean }, accessFlags := 9, code := some k1c1 }
/-- ProRataBookL3 -/
def k1 : Class := { plain "ProRataBookL3" (some 0) with
  accessFlags := 49
  interfaces := #[]
  cf := some (fileOf pool1 50 #[] #[{ accessFlags := 1, nameIndex := 5, descriptorIndex := 6, attributes := #[] }, { accessFlags := 9, nameIndex := 54, descriptorIndex := 55, attributes := #[] }] 49 2 #[] #[])
  fields := #[]
  methods := #[k1m0, k1m1]
  instanceTypes := #[]
  staticTypes := #[]
  resolved := Array.replicate 59 none
  statics := none }

def pool2 : Array CpInfo := pool [(1, .methodref 2 3), (0, .class_ 4), (0, .nameAndType 5 6), (0, u "java/lang/Object"), (0, u "<init>"), (0, u "()V"), (0, .fieldref 8 9), (0, .class_ 10), (0, .nameAndType 11 12), (0, u "ProRataBook"), (0, u "oSide"), (0, u "[I"), (0, .fieldref 8 14), (0, .nameAndType 15 12), (0, u "oPrice"), (0, .fieldref 8 17), (0, .nameAndType 18 12), (0, u "oRem"), (0, .fieldref 8 20), (0, .nameAndType 21 12), (0, u "oFilled"), (0, .fieldref 8 23), (0, .nameAndType 24 12), (0, u "oStatus"), (0, .fieldref 8 26), (0, .nameAndType 27 28), (0, u "oStamp"), (0, u "[J"), (0, .fieldref 8 30), (0, .nameAndType 31 32), (0, u "oTop"), (0, u "[Z"), (0, .fieldref 8 34), (0, .nameAndType 35 12), (0, u "restIds"), (0, .fieldref 8 37), (0, .nameAndType 38 12), (0, u "fIds"), (0, .fieldref 8 40), (0, .nameAndType 41 12), (0, u "fQty"), (0, .fieldref 8 43), (0, .nameAndType 44 12), (0, u "fPrice"), (0, .fieldref 8 46), (0, .nameAndType 47 12), (0, u "lvlIds"), (0, .fieldref 8 49), (0, .nameAndType 50 12), (0, u "lvlR"), (0, .fieldref 8 52), (0, .nameAndType 53 12), (0, u "lvlA"), (0, .fieldref 8 55), (0, .nameAndType 56 57), (0, u "minAlloc"), (0, u "I"), (0, .fieldref 8 59), (0, .nameAndType 60 57), (0, u "topCap"), (0, .fieldref 8 62), (0, .nameAndType 63 57), (0, u "accepted"), (0, .fieldref 8 65), (0, .nameAndType 66 67), (0, u "stampCounter"), (0, u "J"), (0, .fieldref 8 69), (0, .nameAndType 70 57), (0, u "restN"), (0, .fieldref 8 72), (0, .nameAndType 73 57), (0, u "fN"), (0, .fieldref 8 75), (0, .nameAndType 76 57), (0, u "lvlN"), (0, .methodref 8 78), (0, .nameAndType 79 80), (0, u "matchIncoming"), (0, u "(IIII)I"), (0, .methodref 8 82), (0, .nameAndType 83 84), (0, u "finishIncoming"), (0, u "(IIIII)V"), (0, .methodref 8 86), (0, .nameAndType 87 88), (0, u "bestOf"), (0, u "(I)I"), (0, .methodref 8 90), (0, .nameAndType 91 92), (0, u "crosses"), (0, u "(III)Z"), (0, .methodref 8 94), (0, .nameAndType 95 96), (0, u "matchLevel"), (0, u "(III)I"), (0, .methodref 8 98), (0, .nameAndType 99 92), (0, u "better"), (0, .methodref 8 101), (0, .nameAndType 102 103), (0, u "clearFlags"), (0, u "(I)V"), (0, .methodref 8 105), (0, .nameAndType 106 107), (0, u "gatherLevel"), (0, u "(II)V"), (0, .methodref 8 109), (0, .nameAndType 110 6), (0, u "sortLevel"), (0, .methodref 8 112), (0, .nameAndType 113 88), (0, u "allocate"), (0, .methodref 8 115), (0, .nameAndType 116 103), (0, u "applyLevel"), (0, .methodref 8 118), (0, .nameAndType 119 88), (0, u "topStep"), (0, .methodref 8 121), (0, .nameAndType 122 88), (0, u "proRataStep"), (0, .methodref 8 124), (0, .nameAndType 125 103), (0, u "timeStep"), (0, .methodref 8 127), (0, .nameAndType 128 103), (0, u "removeResting"), (0, .methodref 8 130), (0, .nameAndType 131 132), (0, u "isResting"), (0, u "(I)Z"), (0, u "BUY"), (2, u "SELL"), (1, u "LIMIT"), (0, u "IOC"), (0, u "OK"), (0, u "ERR_SIDE"), (1, u "ERR_PRICE"), (1, u "ERR_QTY"), (1, u "ERR_KIND"), (1, u "ERR_NO_IDS"), (1, u "ERR_UNKNOWN"), (1, u "STATUS_NONE"), (0, u "STATUS_RESTING"), (0, u "STATUS_FILLED"), (1, u "STATUS_CANCELLED"), (1, u "STATUS_DISCARDED"), (1, u "MAX_RESTING"), (1, u "MAX_IDS"), (4, u "submit"), (2, u "(II)I"), (0, u "status"), (0, u "remaining"), (0, u "filled"), (0, u "isTop"), (1, u "bestPrice"), (0, u "depthAt"), (2, u "()I"), (0, u "fillCount"), (0, u "fillId"), (0, u "fillQty"), (0, u "fillPrice")] 2

def k2c0 : Code := { maxStack := 3, maxLocals := 5, code := prog_1_method_1_code, exceptionTable := #[], attributes := #[] }
def k2m0 : Method := { name := "<init>", desc := "(II)V", sig := { parameters := [.int, .int], returnType := none }, accessFlags := 1, code := some k2c0 }
def k2c1 : Code := { maxStack := 6, maxLocals := 7, code := prog_1_method_2_code, exceptionTable := #[], attributes := #[] }
def k2m1 : Method := { name := "submit", desc := "(IIII)I", sig := { parameters := [.int, .int, .int, .int], returnType := some .int }, accessFlags := 1, code := some k2c1 }
def k2c2 : Code := { maxStack := 4, maxLocals := 10, code := prog_1_method_3_code, exceptionTable := #[], attributes := #[] }
def k2m2 : Method := { name := "matchIncoming", desc := "(IIII)I", sig := { parameters := [.int, .int, .int, .int], returnType := some .int }, accessFlags := 2, code := some k2c2 }
def k2c3 : Code := { maxStack := 5, maxLocals := 8, code := prog_1_method_4_code, exceptionTable := #[], attributes := #[] }
def k2m3 : Method := { name := "finishIncoming", desc := "(IIIII)V", sig := { parameters := [.int, .int, .int, .int, .int], returnType := none }, accessFlags := 2, code := some k2c3 }
def k2c4 : Code := { maxStack := 3, maxLocals := 4, code := prog_1_method_5_code, exceptionTable := #[], attributes := #[] }
def k2m4 : Method := { name := "clearFlags", desc := "(I)V", sig := { parameters := [.int], returnType := none }, accessFlags := 2, code := some k2c4 }
def k2c5 : Code := { maxStack := 2, maxLocals := 4, code := prog_1_method_6_code, exceptionTable := #[], attributes := #[] }
def k2m5 : Method := { name := "crosses", desc := "(III)Z", sig := { parameters := [.int, .int, .int], returnType := some .boolean }, accessFlags := 2, code := some k2c5 }
def k2c6 : Code := { maxStack := 2, maxLocals := 4, code := prog_1_method_7_code, exceptionTable := #[], attributes := #[] }
def k2m6 : Method := { name := "better", desc := "(III)Z", sig := { parameters := [.int, .int, .int], returnType := some .boolean }, accessFlags := 2, code := some k2c6 }
def k2c7 : Code := { maxStack := 4, maxLocals := 6, code := prog_1_method_8_code, exceptionTable := #[], attributes := #[] }
def k2m7 : Method := { name := "matchLevel", desc := "(III)I", sig := { parameters := [.int, .int, .int], returnType := some .int }, accessFlags := 2, code := some k2c7 }
def k2c8 : Code := { maxStack := 3, maxLocals := 5, code := prog_1_method_9_code, exceptionTable := #[], attributes := #[] }
def k2m8 : Method := { name := "gatherLevel", desc := "(II)V", sig := { parameters := [.int, .int], returnType := none }, accessFlags := 2, code := some k2c8 }
def k2c9 : Code := { maxStack := 5, maxLocals := 6, code := prog_1_method_10_code, exceptionTable := #[], attributes := #[] }
def k2m9 : Method := { name := "sortLevel", desc := "()V", sig := { parameters := [], returnType := none }, accessFlags := 2, code := some k2c9 }
def k2c10 : Code := { maxStack := 3, maxLocals := 7, code := prog_1_method_11_code, exceptionTable := #[], attributes := #[] }
def k2m10 : Method := { name := "allocate", desc := "(I)I", sig := { parameters := [.int], returnType := some .int }, accessFlags := 2, code := some k2c10 }
def k2c11 : Code := { maxStack := 4, maxLocals := 5, code := prog_1_method_12_code, exceptionTable := #[], attributes := #[] }
def k2m11 : Method := { name := "topStep", desc := "(I)I", sig := { parameters := [.int], returnType := some .int }, accessFlags := 2, code := some k2c11 }
def k2c12 : Code := { maxStack := 5, maxLocals := 9, code := prog_1_method_13_code, exceptionTable := #[], attributes := #[] }
def k2m12 : Method := { name := "proRataStep", desc := "(I)I", sig := { parameters := [.int], returnType := some .int }, accessFlags := 2, code := some k2c12 }
def k2c13 : Code := { maxStack := 4, maxLocals := 6, code := prog_1_method_14_code, exceptionTable := #[], attributes := #[] }
def k2m13 : Method := { name := "timeStep", desc := "(I)V", sig := { parameters := [.int], returnType := none }, accessFlags := 2, code := some k2c13 }
def k2c14 : Code := { maxStack := 4, maxLocals := 5, code := prog_1_method_15_code, exceptionTable := #[], attributes := #[] }
def k2m14 : Method := { name := "applyLevel", desc := "(I)V", sig := { parameters := [.int], returnType := none }, accessFlags := 2, code := some k2c14 }
def k2c15 : Code := { maxStack := 5, maxLocals := 3, code := prog_1_method_16_code, exceptionTable := #[], attributes := #[] }
def k2m15 : Method := { name := "removeResting", desc := "(I)V", sig := { parameters := [.int], returnType := none }, accessFlags := 2, code := some k2c15 }
def k2c16 : Code := { maxStack := 2, maxLocals := 2, code := prog_1_method_17_code, exceptionTable := #[], attributes := #[] }
def k2m16 : Method := { name := "isResting", desc := "(I)Z", sig := { parameters := [.int], returnType := some .boolean }, accessFlags := 2, code := some k2c16 }
def k2c17 : Code := { maxStack := 4, maxLocals := 6, code := prog_1_method_18_code, exceptionTable := #[], attributes := #[] }
def k2m17 : Method := { name := "bestOf", desc := "(I)I", sig := { parameters := [.int], returnType := some .int }, accessFlags := 2, code := some k2c17 }
def k2c18 : Code := { maxStack := 2, maxLocals := 2, code := prog_1_method_21_code, exceptionTable := #[], attributes := #[] }
def k2m18 : Method := { name := "status", desc := "(I)I", sig := { parameters := [.int], returnType := some .int }, accessFlags := 1, code := some k2c18 }
def k2c19 : Code := { maxStack := 2, maxLocals := 2, code := prog_1_method_22_code, exceptionTable := #[], attributes := #[] }
def k2m19 : Method := { name := "remaining", desc := "(I)I", sig := { parameters := [.int], returnType := some .int }, accessFlags := 1, code := some k2c19 }
def k2c20 : Code := { maxStack := 2, maxLocals := 2, code := prog_1_method_23_code, exceptionTable := #[], attributes := #[] }
def k2m20 : Method := { name := "filled", desc := "(I)I", sig := { parameters := [.int], returnType := some .int }, accessFlags := 1, code := some k2c20 }
def k2c21 : Code := { maxStack := 2, maxLocals := 2, code := prog_1_method_24_code, exceptionTable := #[], attributes := #[] }
def k2m21 : Method := { name := "isTop", desc := "(I)Z", sig := { parameters := [.int], returnType := some .boolean }, accessFlags := 1, code := some k2c21 }
def k2c22 : Code := { maxStack := 2, maxLocals := 2, code := prog_1_method_26_code, exceptionTable := #[], attributes := #[] }
def k2m22 : Method := { name := "bestPrice", desc := "(I)I", sig := { parameters := [.int], returnType := some .int }, accessFlags := 1, code := some k2c22 }
def k2c23 : Code := { maxStack := 3, maxLocals := 6, code := prog_1_method_27_code, exceptionTable := #[], attributes := #[] }
def k2m23 : Method := { name := "depthAt", desc := "(II)I", sig := { parameters := [.int, .int], returnType := some .int }, accessFlags := 1, code := some k2c23 }
def k2c24 : Code := { maxStack := 1, maxLocals := 1, code := prog_1_method_30_code, exceptionTable := #[], attributes := #[] }
def k2m24 : Method := { name := "fillCount", desc := "()I", sig := { parameters := [], returnType := some .int }, accessFlags := 1, code := some k2c24 }
def k2c25 : Code := { maxStack := 2, maxLocals := 2, code := prog_1_method_31_code, exceptionTable := #[], attributes := #[] }
def k2m25 : Method := { name := "fillId", desc := "(I)I", sig := { parameters := [.int], returnType := some .int }, accessFlags := 1, code := some k2c25 }
def k2c26 : Code := { maxStack := 2, maxLocals := 2, code := prog_1_method_32_code, exceptionTable := #[], attributes := #[] }
def k2m26 : Method := { name := "fillQty", desc := "(I)I", sig := { parameters := [.int], returnType := some .int }, accessFlags := 1, code := some k2c26 }
def k2c27 : Code := { maxStack := 2, maxLocals := 2, code := prog_1_method_33_code, exceptionTable := #[], attributes := #[] }
def k2m27 : Method := { name := "fillPrice", desc := "(I)I", sig := { parameters := [.int], returnType := some .int }, accessFlags := 1, code := some k2c27 }
/-- ProRataBook -/
def k2 : Class := { plain "ProRataBook" (some 0) with
  accessFlags := 49
  interfaces := #[]
  cf := some (fileOf pool2 8 #[] #[{ accessFlags := 1, nameIndex := 5, descriptorIndex := 107, attributes := #[] }, { accessFlags := 1, nameIndex := 168, descriptorIndex := 80, attributes := #[] }, { accessFlags := 2, nameIndex := 79, descriptorIndex := 80, attributes := #[] }, { accessFlags := 2, nameIndex := 83, descriptorIndex := 84, attributes := #[] }, { accessFlags := 2, nameIndex := 102, descriptorIndex := 103, attributes := #[] }, { accessFlags := 2, nameIndex := 91, descriptorIndex := 92, attributes := #[] }, { accessFlags := 2, nameIndex := 99, descriptorIndex := 92, attributes := #[] }, { accessFlags := 2, nameIndex := 95, descriptorIndex := 96, attributes := #[] }, { accessFlags := 2, nameIndex := 106, descriptorIndex := 107, attributes := #[] }, { accessFlags := 2, nameIndex := 110, descriptorIndex := 6, attributes := #[] }, { accessFlags := 2, nameIndex := 113, descriptorIndex := 88, attributes := #[] }, { accessFlags := 2, nameIndex := 119, descriptorIndex := 88, attributes := #[] }, { accessFlags := 2, nameIndex := 122, descriptorIndex := 88, attributes := #[] }, { accessFlags := 2, nameIndex := 125, descriptorIndex := 103, attributes := #[] }, { accessFlags := 2, nameIndex := 116, descriptorIndex := 103, attributes := #[] }, { accessFlags := 2, nameIndex := 128, descriptorIndex := 103, attributes := #[] }, { accessFlags := 2, nameIndex := 131, descriptorIndex := 132, attributes := #[] }, { accessFlags := 2, nameIndex := 87, descriptorIndex := 88, attributes := #[] }, { accessFlags := 1, nameIndex := 172, descriptorIndex := 88, attributes := #[] }, { accessFlags := 1, nameIndex := 173, descriptorIndex := 88, attributes := #[] }, { accessFlags := 1, nameIndex := 174, descriptorIndex := 88, attributes := #[] }, { accessFlags := 1, nameIndex := 175, descriptorIndex := 132, attributes := #[] }, { accessFlags := 1, nameIndex := 177, descriptorIndex := 88, attributes := #[] }, { accessFlags := 1, nameIndex := 178, descriptorIndex := 171, attributes := #[] }, { accessFlags := 1, nameIndex := 182, descriptorIndex := 181, attributes := #[] }, { accessFlags := 1, nameIndex := 183, descriptorIndex := 88, attributes := #[] }, { accessFlags := 1, nameIndex := 184, descriptorIndex := 88, attributes := #[] }, { accessFlags := 1, nameIndex := 185, descriptorIndex := 88, attributes := #[] }] 49 2 #[] #[{ accessFlags := 25, nameIndex := 133, descriptorIndex := 57, attributes := #[] }, { accessFlags := 25, nameIndex := 136, descriptorIndex := 57, attributes := #[] }, { accessFlags := 25, nameIndex := 138, descriptorIndex := 57, attributes := #[] }, { accessFlags := 25, nameIndex := 139, descriptorIndex := 57, attributes := #[] }, { accessFlags := 25, nameIndex := 140, descriptorIndex := 57, attributes := #[] }, { accessFlags := 25, nameIndex := 141, descriptorIndex := 57, attributes := #[] }, { accessFlags := 25, nameIndex := 143, descriptorIndex := 57, attributes := #[] }, { accessFlags := 25, nameIndex := 145, descriptorIndex := 57, attributes := #[] }, { accessFlags := 25, nameIndex := 147, descriptorIndex := 57, attributes := #[] }, { accessFlags := 25, nameIndex := 149, descriptorIndex := 57, attributes := #[] }, { accessFlags := 25, nameIndex := 151, descriptorIndex := 57, attributes := #[] }, { accessFlags := 25, nameIndex := 153, descriptorIndex := 57, attributes := #[] }, { accessFlags := 25, nameIndex := 154, descriptorIndex := 57, attributes := #[] }, { accessFlags := 25, nameIndex := 155, descriptorIndex := 57, attributes := #[] }, { accessFlags := 25, nameIndex := 157, descriptorIndex := 57, attributes := #[] }, { accessFlags := 25, nameIndex := 159, descriptorIndex := 57, attributes := #[] }, { accessFlags := 25, nameIndex := 161, descriptorIndex := 57, attributes := #[] }, { accessFlags := 25, nameIndex := 163, descriptorIndex := 57, attributes := #[] }, { accessFlags := 2, nameIndex := 56, descriptorIndex := 57, attributes := #[] }, { accessFlags := 2, nameIndex := 60, descriptorIndex := 57, attributes := #[] }, { accessFlags := 2, nameIndex := 63, descriptorIndex := 57, attributes := #[] }, { accessFlags := 2, nameIndex := 66, descriptorIndex := 67, attributes := #[] }, { accessFlags := 2, nameIndex := 11, descriptorIndex := 12, attributes := #[] }, { accessFlags := 2, nameIndex := 15, descriptorIndex := 12, attributes := #[] }, { accessFlags := 2, nameIndex := 18, descriptorIndex := 12, attributes := #[] }, { accessFlags := 2, nameIndex := 21, descriptorIndex := 12, attributes := #[] }, { accessFlags := 2, nameIndex := 24, descriptorIndex := 12, attributes := #[] }, { accessFlags := 2, nameIndex := 27, descriptorIndex := 28, attributes := #[] }, { accessFlags := 2, nameIndex := 31, descriptorIndex := 32, attributes := #[] }, { accessFlags := 2, nameIndex := 35, descriptorIndex := 12, attributes := #[] }, { accessFlags := 2, nameIndex := 70, descriptorIndex := 57, attributes := #[] }, { accessFlags := 2, nameIndex := 38, descriptorIndex := 12, attributes := #[] }, { accessFlags := 2, nameIndex := 41, descriptorIndex := 12, attributes := #[] }, { accessFlags := 2, nameIndex := 44, descriptorIndex := 12, attributes := #[] }, { accessFlags := 2, nameIndex := 73, descriptorIndex := 57, attributes := #[] }, { accessFlags := 2, nameIndex := 47, descriptorIndex := 12, attributes := #[] }, { accessFlags := 2, nameIndex := 50, descriptorIndex := 12, attributes := #[] }, { accessFlags := 2, nameIndex := 53, descriptorIndex := 12, attributes := #[] }, { accessFlags := 2, nameIndex := 76, descriptorIndex := 57, attributes := #[] }])
  fields := #[{ name := "BUY", type := .int, accessFlags := 25, slot := 0, constantValue := 0 }, { name := "SELL", type := .int, accessFlags := 25, slot := 1, constantValue := 0 }, { name := "LIMIT", type := .int, accessFlags := 25, slot := 2, constantValue := 0 }, { name := "IOC", type := .int, accessFlags := 25, slot := 3, constantValue := 0 }, { name := "OK", type := .int, accessFlags := 25, slot := 4, constantValue := 0 }, { name := "ERR_SIDE", type := .int, accessFlags := 25, slot := 5, constantValue := 0 }, { name := "ERR_PRICE", type := .int, accessFlags := 25, slot := 6, constantValue := 0 }, { name := "ERR_QTY", type := .int, accessFlags := 25, slot := 7, constantValue := 0 }, { name := "ERR_KIND", type := .int, accessFlags := 25, slot := 8, constantValue := 0 }, { name := "ERR_NO_IDS", type := .int, accessFlags := 25, slot := 9, constantValue := 0 }, { name := "ERR_UNKNOWN", type := .int, accessFlags := 25, slot := 10, constantValue := 0 }, { name := "STATUS_NONE", type := .int, accessFlags := 25, slot := 11, constantValue := 0 }, { name := "STATUS_RESTING", type := .int, accessFlags := 25, slot := 12, constantValue := 0 }, { name := "STATUS_FILLED", type := .int, accessFlags := 25, slot := 13, constantValue := 0 }, { name := "STATUS_CANCELLED", type := .int, accessFlags := 25, slot := 14, constantValue := 0 }, { name := "STATUS_DISCARDED", type := .int, accessFlags := 25, slot := 15, constantValue := 0 }, { name := "MAX_RESTING", type := .int, accessFlags := 25, slot := 16, constantValue := 0 }, { name := "MAX_IDS", type := .int, accessFlags := 25, slot := 17, constantValue := 0 }, { name := "minAlloc", type := .int, accessFlags := 2, slot := 0, constantValue := 0 }, { name := "topCap", type := .int, accessFlags := 2, slot := 1, constantValue := 0 }, { name := "accepted", type := .int, accessFlags := 2, slot := 2, constantValue := 0 }, { name := "stampCounter", type := .long, accessFlags := 2, slot := 3, constantValue := 0 }, { name := "oSide", type := (.array .int), accessFlags := 2, slot := 4, constantValue := 0 }, { name := "oPrice", type := (.array .int), accessFlags := 2, slot := 5, constantValue := 0 }, { name := "oRem", type := (.array .int), accessFlags := 2, slot := 6, constantValue := 0 }, { name := "oFilled", type := (.array .int), accessFlags := 2, slot := 7, constantValue := 0 }, { name := "oStatus", type := (.array .int), accessFlags := 2, slot := 8, constantValue := 0 }, { name := "oStamp", type := (.array .long), accessFlags := 2, slot := 9, constantValue := 0 }, { name := "oTop", type := (.array .boolean), accessFlags := 2, slot := 10, constantValue := 0 }, { name := "restIds", type := (.array .int), accessFlags := 2, slot := 11, constantValue := 0 }, { name := "restN", type := .int, accessFlags := 2, slot := 12, constantValue := 0 }, { name := "fIds", type := (.array .int), accessFlags := 2, slot := 13, constantValue := 0 }, { name := "fQty", type := (.array .int), accessFlags := 2, slot := 14, constantValue := 0 }, { name := "fPrice", type := (.array .int), accessFlags := 2, slot := 15, constantValue := 0 }, { name := "fN", type := .int, accessFlags := 2, slot := 16, constantValue := 0 }, { name := "lvlIds", type := (.array .int), accessFlags := 2, slot := 17, constantValue := 0 }, { name := "lvlR", type := (.array .int), accessFlags := 2, slot := 18, constantValue := 0 }, { name := "lvlA", type := (.array .int), accessFlags := 2, slot := 19, constantValue := 0 }, { name := "lvlN", type := .int, accessFlags := 2, slot := 20, constantValue := 0 }]
  methods := #[k2m0, k2m1, k2m2, k2m3, k2m4, k2m5, k2m6, k2m7, k2m8, k2m9, k2m10, k2m11, k2m12, k2m13, k2m14, k2m15, k2m16, k2m17, k2m18, k2m19, k2m20, k2m21, k2m22, k2m23, k2m24, k2m25, k2m26, k2m27]
  instanceTypes := #[.int, .int, .int, .long, (.array .int), (.array .int), (.array .int), (.array .int), (.array .int), (.array .long), (.array .boolean), (.array .int), .int, (.array .int), (.array .int), (.array .int), .int, (.array .int), (.array .int), (.array .int), .int]
  staticTypes := #[.int, .int, .int, .int, .int, .int, .int, .int, .int, .int, .int, .int, .int, .int, .int, .int, .int, .int]
  resolved := Array.replicate 188 none
  statics := none }

def pool3 : Array CpInfo := pool [(1, u "java/lang/Cloneable"), (0, .class_ 1), (0, u "java/lang/Object"), (0, .class_ 3)] 3

/-- java/lang/Cloneable -/
def k3 : Class := { plain "java/lang/Cloneable" (some 0) with
  accessFlags := 1537
  interfaces := #[]
  cf := some (fileOf pool3 2 #[] #[] 1537 4 #[] #[])
  fields := #[]
  methods := #[]
  instanceTypes := #[]
  staticTypes := #[]
  resolved := Array.replicate 8 none
  statics := none }

def pool4 : Array CpInfo := pool [(1, u "java/io/Serializable"), (0, .class_ 1), (0, u "java/lang/Object"), (0, .class_ 3)] 3

/-- java/io/Serializable -/
def k4 : Class := { plain "java/io/Serializable" (some 0) with
  accessFlags := 1537
  interfaces := #[]
  cf := some (fileOf pool4 2 #[] #[] 1537 4 #[] #[])
  fields := #[]
  methods := #[]
  instanceTypes := #[]
  staticTypes := #[]
  resolved := Array.replicate 8 none
  statics := none }

/-- the primitive boolean -/
def k5 : Class := { plain "boolean" none with kind := .primitive 'Z', accessFlags := 0x411 }
/-- [Z -/
def k6 : Class := { plain "[Z" (some 0) with kind := .array 5 .boolean, interfaces := #[3, 4], accessFlags := 1041 }

/-- the primitive byte -/
def k7 : Class := { plain "byte" none with kind := .primitive 'B', accessFlags := 0x411 }
/-- [B -/
def k8 : Class := { plain "[B" (some 0) with kind := .array 7 .byte, interfaces := #[3, 4], accessFlags := 1041 }

/-- the primitive int -/
def k9 : Class := { plain "int" none with kind := .primitive 'I', accessFlags := 0x411 }
/-- [I -/
def k10 : Class := { plain "[I" (some 0) with kind := .array 9 .int, interfaces := #[3, 4], accessFlags := 1041 }

/-- the primitive long -/
def k11 : Class := { plain "long" none with kind := .primitive 'J', accessFlags := 0x411 }
/-- [J -/
def k12 : Class := { plain "[J" (some 0) with kind := .array 11 .long, interfaces := #[3, 4], accessFlags := 1041 }

def heap : Heap := #[]
def classes : Array Class := #[k0, k1, k2, k3, k4, k5, k6, k7, k8, k9, k10, k11, k12]
def interned : List (Array UInt16 × Addr) := []
def slotsUsed : Nat := 0
def theMethod : MethodId := ⟨1, 1⟩
def args0 : Array Value := #[.int 1, .int 2, .int 3, .int 4, .int 5]
def aboutOver (below : List Frame) : State where
  vm := { classes := classes, interned := interned.toArray }
  heap := heap
  slotsUsed := slotsUsed
  threads := #[{ frames := .invoking theMethod args0 :: below }]
def below0 : List Frame := [.native { method := ⟨0, 0⟩, args := #[] }]
def about1 : State := aboutOver below0
def p0 : Program := .bare "" "" ""
def e0 : Env := launch0.env 0 0 0
theorem w_frames : about1.frames = Frame.invoking theMethod args0 :: below0 := rfl
set_option maxRecDepth 65536 in
theorem w_args : argsFit about1.vm theMethod args0 = true := by decide +kernel
set_option maxRecDepth 65536 in
theorem w_heap : heapFits about1 = true := by decide +kernel
set_option maxRecDepth 65536 in
theorem w_runnable : about1.curStatus? = some .runnable := by decide +kernel
set_option maxRecDepth 65536 in
theorem w_alone : about1.alone = true := by decide +kernel
set_option maxRecDepth 65536 in
theorem w_named : about1.methodNamed? x = some theMethod := by decide +kernel
set_option maxRecDepth 65536 in
theorem w_hears : about1.hears theMethod below0 = true := by decide +kernel
set_option maxRecDepth 65536 in
theorem w_ripe : about1.ripe theMethod args0 below0 = true := by decide +kernel
theorem w_running : about1.status = .running := rfl
set_option maxRecDepth 65536 in
theorem w_room : about1.hasRoom e0.platform room_1 = true :=
  launch0.hasRoom_least _ room_1 (by decide +kernel) (by decide +kernel) (by decide +kernel) (by decide +kernel) (by decide +kernel) (by decide +kernel)
theorem allAtoms_all (ts : List Jvm.Cond) (a : Array Jvm.Value) (st : Jvm.State) : (allAtoms ts).before a st = ts.all (fun c => c.before a st) := by
  induction ts with
  | nil => rfl
  | cons c t ih =>
    show (Jvm.Cond.and c (allAtoms t)).before a st = _
    rw [Jvm.Cond.before_and, ih, List.all_cons]
def words1 : List Jvm.Cond := Jvm.Cond.code x code maxLocals ret :: tables_1
/-- a 'code' word, met by the world's own term for the bytes: nothing is compared byte by byte -/
theorem code_word {y : MethodName} {bytes : ByteArray} {mx : Nat} {rt : Option FieldType} {a : Array Value} {s : State} {m : MethodId} {meth : Method} {c : Code} (h1 : s.methodNamed? y = some m) (h2 : s.vm.method? m = some meth) (h3 : meth.code = some c) (h4 : c.code = bytes)
    (h5 : (c.maxLocals == mx && c.exceptionTable.isEmpty && decide (c.maxStack ≤ mostOperands) && decide (meth.sig.returnType = rt) && !meth.locks && decide (parseMethodDescriptor y.desc = some meth.sig)) = true) : (Jvm.Cond.code y bytes mx rt).before a s = true := by
  simp only [Bool.and_eq_true, beq_iff_eq, Bool.not_eq_true', decide_eq_true_eq] at h5
  obtain ⟨⟨⟨⟨⟨g1, g2⟩, g3⟩, g4⟩, g5⟩, g6⟩ := h5
  simp [Cond.before, Cond.holds, Cond.value, h1, h2, h3, h4, g1, g2, g3, g4, g5, g6]
def isCode : Jvm.Cond → Bool
  | .code _ _ _ _ => true
  | _ => false
theorem all_split {L : List Jvm.Cond} {P : Jvm.Cond → Bool} (h1 : L.all (fun c => isCode c || P c) = true) (h2 : ∀ c ∈ L.filter isCode, P c = true) : L.all P = true := by
  refine List.all_eq_true.mpr fun c hc => ?_
  have h := List.all_eq_true.mp h1 c hc
  rcases Bool.eq_false_or_eq_true (isCode c) with hi | hi
  · exact h2 c (List.mem_filter.mpr ⟨hc, hi⟩)
  · simpa [hi] using h
set_option maxRecDepth 65536 in
theorem w_c0 : (Jvm.Cond.code x code maxLocals ret).before args0 about1 = true := code_word (m := ⟨1, 1⟩) (meth := k1m1) (c := k1c1) (by decide +kernel) rfl rfl rfl (by decide +kernel)
set_option maxRecDepth 65536 in
theorem w_c1 : (Jvm.Cond.code ({ cls := "ProRataBook", name := "<init>", desc := "(II)V" } : Jvm.MethodName) prog_1_method_1_code (5 : Nat) (Option.none : Option Jvm.ClassFile.FieldType)).before args0 about1 = true := code_word (m := ⟨2, 0⟩) (meth := k2m0) (c := k2c0) (by decide +kernel) rfl rfl rfl (by decide +kernel)
set_option maxRecDepth 65536 in
theorem w_c2 : (Jvm.Cond.code ({ cls := "java/lang/Object", name := "<init>", desc := "()V" } : Jvm.MethodName) object_method_1_code (1 : Nat) (Option.none : Option Jvm.ClassFile.FieldType)).before args0 about1 = true := code_word (m := ⟨0, 0⟩) (meth := k0m0) (c := k0c0) (by decide +kernel) rfl rfl rfl (by decide +kernel)
set_option maxRecDepth 65536 in
theorem w_c3 : (Jvm.Cond.code ({ cls := "ProRataBook", name := "submit", desc := "(IIII)I" } : Jvm.MethodName) prog_1_method_2_code (7 : Nat) (Option.some Jvm.ClassFile.FieldType.int)).before args0 about1 = true := code_word (m := ⟨2, 1⟩) (meth := k2m1) (c := k2c1) (by decide +kernel) rfl rfl rfl (by decide +kernel)
set_option maxRecDepth 65536 in
theorem w_c4 : (Jvm.Cond.code ({ cls := "ProRataBook", name := "matchIncoming", desc := "(IIII)I" } : Jvm.MethodName) prog_1_method_3_code (10 : Nat) (Option.some Jvm.ClassFile.FieldType.int)).before args0 about1 = true := code_word (m := ⟨2, 2⟩) (meth := k2m2) (c := k2c2) (by decide +kernel) rfl rfl rfl (by decide +kernel)
set_option maxRecDepth 65536 in
theorem w_c5 : (Jvm.Cond.code ({ cls := "ProRataBook", name := "bestOf", desc := "(I)I" } : Jvm.MethodName) prog_1_method_18_code (6 : Nat) (Option.some Jvm.ClassFile.FieldType.int)).before args0 about1 = true := code_word (m := ⟨2, 17⟩) (meth := k2m17) (c := k2c17) (by decide +kernel) rfl rfl rfl (by decide +kernel)
set_option maxRecDepth 65536 in
theorem w_c6 : (Jvm.Cond.code ({ cls := "ProRataBook", name := "finishIncoming", desc := "(IIIII)V" } : Jvm.MethodName) prog_1_method_4_code (8 : Nat) (Option.none : Option Jvm.ClassFile.FieldType)).before args0 about1 = true := code_word (m := ⟨2, 3⟩) (meth := k2m3) (c := k2c3) (by decide +kernel) rfl rfl rfl (by decide +kernel)
set_option maxRecDepth 65536 in
theorem w_c7 : (Jvm.Cond.code ({ cls := "ProRataBook", name := "clearFlags", desc := "(I)V" } : Jvm.MethodName) prog_1_method_5_code (4 : Nat) (Option.none : Option Jvm.ClassFile.FieldType)).before args0 about1 = true := code_word (m := ⟨2, 4⟩) (meth := k2m4) (c := k2c4) (by decide +kernel) rfl rfl rfl (by decide +kernel)
set_option maxRecDepth 65536 in
theorem w_c8 : (Jvm.Cond.code ({ cls := "ProRataBook", name := "better", desc := "(III)Z" } : Jvm.MethodName) prog_1_method_7_code (4 : Nat) (Option.some Jvm.ClassFile.FieldType.boolean)).before args0 about1 = true := code_word (m := ⟨2, 6⟩) (meth := k2m6) (c := k2c6) (by decide +kernel) rfl rfl rfl (by decide +kernel)
set_option maxRecDepth 65536 in
theorem w_c9 : (Jvm.Cond.code ({ cls := "ProRataBook", name := "crosses", desc := "(III)Z" } : Jvm.MethodName) prog_1_method_6_code (4 : Nat) (Option.some Jvm.ClassFile.FieldType.boolean)).before args0 about1 = true := code_word (m := ⟨2, 5⟩) (meth := k2m5) (c := k2c5) (by decide +kernel) rfl rfl rfl (by decide +kernel)
set_option maxRecDepth 65536 in
theorem w_c10 : (Jvm.Cond.code ({ cls := "ProRataBook", name := "matchLevel", desc := "(III)I" } : Jvm.MethodName) prog_1_method_8_code (6 : Nat) (Option.some Jvm.ClassFile.FieldType.int)).before args0 about1 = true := code_word (m := ⟨2, 7⟩) (meth := k2m7) (c := k2c7) (by decide +kernel) rfl rfl rfl (by decide +kernel)
set_option maxRecDepth 65536 in
theorem w_c11 : (Jvm.Cond.code ({ cls := "ProRataBook", name := "gatherLevel", desc := "(II)V" } : Jvm.MethodName) prog_1_method_9_code (5 : Nat) (Option.none : Option Jvm.ClassFile.FieldType)).before args0 about1 = true := code_word (m := ⟨2, 8⟩) (meth := k2m8) (c := k2c8) (by decide +kernel) rfl rfl rfl (by decide +kernel)
set_option maxRecDepth 65536 in
theorem w_c12 : (Jvm.Cond.code ({ cls := "ProRataBook", name := "sortLevel", desc := "()V" } : Jvm.MethodName) prog_1_method_10_code (6 : Nat) (Option.none : Option Jvm.ClassFile.FieldType)).before args0 about1 = true := code_word (m := ⟨2, 9⟩) (meth := k2m9) (c := k2c9) (by decide +kernel) rfl rfl rfl (by decide +kernel)
set_option maxRecDepth 65536 in
theorem w_c13 : (Jvm.Cond.code ({ cls := "ProRataBook", name := "allocate", desc := "(I)I" } : Jvm.MethodName) prog_1_method_11_code (7 : Nat) (Option.some Jvm.ClassFile.FieldType.int)).before args0 about1 = true := code_word (m := ⟨2, 10⟩) (meth := k2m10) (c := k2c10) (by decide +kernel) rfl rfl rfl (by decide +kernel)
set_option maxRecDepth 65536 in
theorem w_c14 : (Jvm.Cond.code ({ cls := "ProRataBook", name := "topStep", desc := "(I)I" } : Jvm.MethodName) prog_1_method_12_code (5 : Nat) (Option.some Jvm.ClassFile.FieldType.int)).before args0 about1 = true := code_word (m := ⟨2, 11⟩) (meth := k2m11) (c := k2c11) (by decide +kernel) rfl rfl rfl (by decide +kernel)
set_option maxRecDepth 65536 in
theorem w_c15 : (Jvm.Cond.code ({ cls := "ProRataBook", name := "timeStep", desc := "(I)V" } : Jvm.MethodName) prog_1_method_14_code (6 : Nat) (Option.none : Option Jvm.ClassFile.FieldType)).before args0 about1 = true := code_word (m := ⟨2, 13⟩) (meth := k2m13) (c := k2c13) (by decide +kernel) rfl rfl rfl (by decide +kernel)
set_option maxRecDepth 65536 in
theorem w_c16 : (Jvm.Cond.code ({ cls := "ProRataBook", name := "applyLevel", desc := "(I)V" } : Jvm.MethodName) prog_1_method_15_code (5 : Nat) (Option.none : Option Jvm.ClassFile.FieldType)).before args0 about1 = true := code_word (m := ⟨2, 14⟩) (meth := k2m14) (c := k2c14) (by decide +kernel) rfl rfl rfl (by decide +kernel)
set_option maxRecDepth 65536 in
theorem w_c17 : (Jvm.Cond.code ({ cls := "ProRataBook", name := "fillCount", desc := "()I" } : Jvm.MethodName) prog_1_method_30_code (1 : Nat) (Option.some Jvm.ClassFile.FieldType.int)).before args0 about1 = true := code_word (m := ⟨2, 24⟩) (meth := k2m24) (c := k2c24) (by decide +kernel) rfl rfl rfl (by decide +kernel)
set_option maxRecDepth 65536 in
theorem w_c18 : (Jvm.Cond.code ({ cls := "ProRataBook", name := "fillId", desc := "(I)I" } : Jvm.MethodName) prog_1_method_31_code (2 : Nat) (Option.some Jvm.ClassFile.FieldType.int)).before args0 about1 = true := code_word (m := ⟨2, 25⟩) (meth := k2m25) (c := k2c25) (by decide +kernel) rfl rfl rfl (by decide +kernel)
set_option maxRecDepth 65536 in
theorem w_c19 : (Jvm.Cond.code ({ cls := "ProRataBook", name := "fillQty", desc := "(I)I" } : Jvm.MethodName) prog_1_method_32_code (2 : Nat) (Option.some Jvm.ClassFile.FieldType.int)).before args0 about1 = true := code_word (m := ⟨2, 26⟩) (meth := k2m26) (c := k2c26) (by decide +kernel) rfl rfl rfl (by decide +kernel)
set_option maxRecDepth 65536 in
theorem w_c20 : (Jvm.Cond.code ({ cls := "ProRataBook", name := "fillPrice", desc := "(I)I" } : Jvm.MethodName) prog_1_method_33_code (2 : Nat) (Option.some Jvm.ClassFile.FieldType.int)).before args0 about1 = true := code_word (m := ⟨2, 27⟩) (meth := k2m27) (c := k2c27) (by decide +kernel) rfl rfl rfl (by decide +kernel)
set_option maxRecDepth 65536 in
theorem w_c21 : (Jvm.Cond.code ({ cls := "ProRataBook", name := "remaining", desc := "(I)I" } : Jvm.MethodName) prog_1_method_22_code (2 : Nat) (Option.some Jvm.ClassFile.FieldType.int)).before args0 about1 = true := code_word (m := ⟨2, 19⟩) (meth := k2m19) (c := k2c19) (by decide +kernel) rfl rfl rfl (by decide +kernel)
set_option maxRecDepth 65536 in
theorem w_c22 : (Jvm.Cond.code ({ cls := "ProRataBook", name := "isResting", desc := "(I)Z" } : Jvm.MethodName) prog_1_method_17_code (2 : Nat) (Option.some Jvm.ClassFile.FieldType.boolean)).before args0 about1 = true := code_word (m := ⟨2, 16⟩) (meth := k2m16) (c := k2c16) (by decide +kernel) rfl rfl rfl (by decide +kernel)
set_option maxRecDepth 65536 in
theorem w_c23 : (Jvm.Cond.code ({ cls := "ProRataBook", name := "status", desc := "(I)I" } : Jvm.MethodName) prog_1_method_21_code (2 : Nat) (Option.some Jvm.ClassFile.FieldType.int)).before args0 about1 = true := code_word (m := ⟨2, 18⟩) (meth := k2m18) (c := k2c18) (by decide +kernel) rfl rfl rfl (by decide +kernel)
set_option maxRecDepth 65536 in
theorem w_c24 : (Jvm.Cond.code ({ cls := "ProRataBook", name := "isTop", desc := "(I)Z" } : Jvm.MethodName) prog_1_method_24_code (2 : Nat) (Option.some Jvm.ClassFile.FieldType.boolean)).before args0 about1 = true := code_word (m := ⟨2, 21⟩) (meth := k2m21) (c := k2c21) (by decide +kernel) rfl rfl rfl (by decide +kernel)
set_option maxRecDepth 65536 in
theorem w_c25 : (Jvm.Cond.code ({ cls := "ProRataBook", name := "filled", desc := "(I)I" } : Jvm.MethodName) prog_1_method_23_code (2 : Nat) (Option.some Jvm.ClassFile.FieldType.int)).before args0 about1 = true := code_word (m := ⟨2, 20⟩) (meth := k2m20) (c := k2c20) (by decide +kernel) rfl rfl rfl (by decide +kernel)
set_option maxRecDepth 65536 in
theorem w_c26 : (Jvm.Cond.code ({ cls := "ProRataBook", name := "depthAt", desc := "(II)I" } : Jvm.MethodName) prog_1_method_27_code (6 : Nat) (Option.some Jvm.ClassFile.FieldType.int)).before args0 about1 = true := code_word (m := ⟨2, 23⟩) (meth := k2m23) (c := k2c23) (by decide +kernel) rfl rfl rfl (by decide +kernel)
set_option maxRecDepth 65536 in
theorem w_c27 : (Jvm.Cond.code ({ cls := "ProRataBook", name := "bestPrice", desc := "(I)I" } : Jvm.MethodName) prog_1_method_26_code (2 : Nat) (Option.some Jvm.ClassFile.FieldType.int)).before args0 about1 = true := code_word (m := ⟨2, 22⟩) (meth := k2m22) (c := k2c22) (by decide +kernel) rfl rfl rfl (by decide +kernel)
set_option maxRecDepth 65536 in
theorem w_c28 : (Jvm.Cond.code ({ cls := "ProRataBook", name := "proRataStep", desc := "(I)I" } : Jvm.MethodName) prog_1_method_13_code (9 : Nat) (Option.some Jvm.ClassFile.FieldType.int)).before args0 about1 = true := code_word (m := ⟨2, 12⟩) (meth := k2m12) (c := k2c12) (by decide +kernel) rfl rfl rfl (by decide +kernel)
set_option maxRecDepth 65536 in
theorem w_c29 : (Jvm.Cond.code ({ cls := "ProRataBook", name := "removeResting", desc := "(I)V" } : Jvm.MethodName) prog_1_method_16_code (3 : Nat) (Option.none : Option Jvm.ClassFile.FieldType)).before args0 about1 = true := code_word (m := ⟨2, 15⟩) (meth := k2m15) (c := k2c15) (by decide +kernel) rfl rfl rfl (by decide +kernel)
def codes1 : List Jvm.Cond := [Jvm.Cond.code x code maxLocals ret, Jvm.Cond.code ({ cls := "ProRataBook", name := "<init>", desc := "(II)V" } : Jvm.MethodName) prog_1_method_1_code (5 : Nat) (Option.none : Option Jvm.ClassFile.FieldType), Jvm.Cond.code ({ cls := "java/lang/Object", name := "<init>", desc := "()V" } : Jvm.MethodName) object_method_1_code (1 : Nat) (Option.none : Option Jvm.ClassFile.FieldType), Jvm.Cond.code ({ cls := "ProRataBook", name := "submit", desc := "(IIII)I" } : Jvm.MethodName) prog_1_method_2_code (7 : Nat) (Option.some Jvm.ClassFile.FieldType.int), Jvm.Cond.code ({ cls := "ProRataBook", name := "matchIncoming", desc := "(IIII)I" } : Jvm.MethodName) prog_1_method_3_code (10 : Nat) (Option.some Jvm.ClassFile.FieldType.int), Jvm.Cond.code ({ cls := "ProRataBook", name := "bestOf", desc := "(I)I" } : Jvm.MethodName) prog_1_method_18_code (6 : Nat) (Option.some Jvm.ClassFile.FieldType.int), Jvm.Cond.code ({ cls := "ProRataBook", name := "finishIncoming", desc := "(IIIII)V" } : Jvm.MethodName) prog_1_method_4_code (8 : Nat) (Option.none : Option Jvm.ClassFile.FieldType), Jvm.Cond.code ({ cls := "ProRataBook", name := "clearFlags", desc := "(I)V" } : Jvm.MethodName) prog_1_method_5_code (4 : Nat) (Option.none : Option Jvm.ClassFile.FieldType), Jvm.Cond.code ({ cls := "ProRataBook", name := "better", desc := "(III)Z" } : Jvm.MethodName) prog_1_method_7_code (4 : Nat) (Option.some Jvm.ClassFile.FieldType.boolean), Jvm.Cond.code ({ cls := "ProRataBook", name := "crosses", desc := "(III)Z" } : Jvm.MethodName) prog_1_method_6_code (4 : Nat) (Option.some Jvm.ClassFile.FieldType.boolean), Jvm.Cond.code ({ cls := "ProRataBook", name := "matchLevel", desc := "(III)I" } : Jvm.MethodName) prog_1_method_8_code (6 : Nat) (Option.some Jvm.ClassFile.FieldType.int), Jvm.Cond.code ({ cls := "ProRataBook", name := "gatherLevel", desc := "(II)V" } : Jvm.MethodName) prog_1_method_9_code (5 : Nat) (Option.none : Option Jvm.ClassFile.FieldType), Jvm.Cond.code ({ cls := "ProRataBook", name := "sortLevel", desc := "()V" } : Jvm.MethodName) prog_1_method_10_code (6 : Nat) (Option.none : Option Jvm.ClassFile.FieldType), Jvm.Cond.code ({ cls := "ProRataBook", name := "allocate", desc := "(I)I" } : Jvm.MethodName) prog_1_method_11_code (7 : Nat) (Option.some Jvm.ClassFile.FieldType.int), Jvm.Cond.code ({ cls := "ProRataBook", name := "topStep", desc := "(I)I" } : Jvm.MethodName) prog_1_method_12_code (5 : Nat) (Option.some Jvm.ClassFile.FieldType.int), Jvm.Cond.code ({ cls := "ProRataBook", name := "timeStep", desc := "(I)V" } : Jvm.MethodName) prog_1_method_14_code (6 : Nat) (Option.none : Option Jvm.ClassFile.FieldType), Jvm.Cond.code ({ cls := "ProRataBook", name := "applyLevel", desc := "(I)V" } : Jvm.MethodName) prog_1_method_15_code (5 : Nat) (Option.none : Option Jvm.ClassFile.FieldType), Jvm.Cond.code ({ cls := "ProRataBook", name := "fillCount", desc := "()I" } : Jvm.MethodName) prog_1_method_30_code (1 : Nat) (Option.some Jvm.ClassFile.FieldType.int), Jvm.Cond.code ({ cls := "ProRataBook", name := "fillId", desc := "(I)I" } : Jvm.MethodName) prog_1_method_31_code (2 : Nat) (Option.some Jvm.ClassFile.FieldType.int), Jvm.Cond.code ({ cls := "ProRataBook", name := "fillQty", desc := "(I)I" } : Jvm.MethodName) prog_1_method_32_code (2 : Nat) (Option.some Jvm.ClassFile.FieldType.int), Jvm.Cond.code ({ cls := "ProRataBook", name := "fillPrice", desc := "(I)I" } : Jvm.MethodName) prog_1_method_33_code (2 : Nat) (Option.some Jvm.ClassFile.FieldType.int), Jvm.Cond.code ({ cls := "ProRataBook", name := "remaining", desc := "(I)I" } : Jvm.MethodName) prog_1_method_22_code (2 : Nat) (Option.some Jvm.ClassFile.FieldType.int), Jvm.Cond.code ({ cls := "ProRataBook", name := "isResting", desc := "(I)Z" } : Jvm.MethodName) prog_1_method_17_code (2 : Nat) (Option.some Jvm.ClassFile.FieldType.boolean), Jvm.Cond.code ({ cls := "ProRataBook", name := "status", desc := "(I)I" } : Jvm.MethodName) prog_1_method_21_code (2 : Nat) (Option.some Jvm.ClassFile.FieldType.int), Jvm.Cond.code ({ cls := "ProRataBook", name := "isTop", desc := "(I)Z" } : Jvm.MethodName) prog_1_method_24_code (2 : Nat) (Option.some Jvm.ClassFile.FieldType.boolean), Jvm.Cond.code ({ cls := "ProRataBook", name := "filled", desc := "(I)I" } : Jvm.MethodName) prog_1_method_23_code (2 : Nat) (Option.some Jvm.ClassFile.FieldType.int), Jvm.Cond.code ({ cls := "ProRataBook", name := "depthAt", desc := "(II)I" } : Jvm.MethodName) prog_1_method_27_code (6 : Nat) (Option.some Jvm.ClassFile.FieldType.int), Jvm.Cond.code ({ cls := "ProRataBook", name := "bestPrice", desc := "(I)I" } : Jvm.MethodName) prog_1_method_26_code (2 : Nat) (Option.some Jvm.ClassFile.FieldType.int), Jvm.Cond.code ({ cls := "ProRataBook", name := "proRataStep", desc := "(I)I" } : Jvm.MethodName) prog_1_method_13_code (9 : Nat) (Option.some Jvm.ClassFile.FieldType.int), Jvm.Cond.code ({ cls := "ProRataBook", name := "removeResting", desc := "(I)V" } : Jvm.MethodName) prog_1_method_16_code (3 : Nat) (Option.none : Option Jvm.ClassFile.FieldType)]
set_option maxRecDepth 65536 in
theorem codes_eq : words1.filter isCode = codes1 := rfl
theorem w_codes : ∀ c ∈ words1.filter isCode, c.before args0 about1 = true := by
  rw [codes_eq]
  intro c hc
  simp only [codes1, List.mem_cons, List.not_mem_nil, or_false] at hc
  rcases hc with rfl | rfl | rfl | rfl | rfl | rfl | rfl | rfl | rfl | rfl | rfl | rfl | rfl | rfl | rfl | rfl | rfl | rfl | rfl | rfl | rfl | rfl | rfl | rfl | rfl | rfl | rfl | rfl | rfl | rfl
  · exact w_c0
  · exact w_c1
  · exact w_c2
  · exact w_c3
  · exact w_c4
  · exact w_c5
  · exact w_c6
  · exact w_c7
  · exact w_c8
  · exact w_c9
  · exact w_c10
  · exact w_c11
  · exact w_c12
  · exact w_c13
  · exact w_c14
  · exact w_c15
  · exact w_c16
  · exact w_c17
  · exact w_c18
  · exact w_c19
  · exact w_c20
  · exact w_c21
  · exact w_c22
  · exact w_c23
  · exact w_c24
  · exact w_c25
  · exact w_c26
  · exact w_c27
  · exact w_c28
  · exact w_c29
set_option maxRecDepth 65536 in
theorem w_t1 : (words1.take 24).all (fun c => isCode c || c.before args0 about1) = true := by decide +kernel
set_option maxRecDepth 65536 in
theorem w_t2 : ((words1.drop 24).take 24).all (fun c => isCode c || c.before args0 about1) = true := by decide +kernel
set_option maxRecDepth 65536 in
theorem w_t3 : (((words1.drop 24).drop 24).take 24).all (fun c => isCode c || c.before args0 about1) = true := by decide +kernel
set_option maxRecDepth 65536 in
theorem w_t4 : ((((words1.drop 24).drop 24).drop 24).take 24).all (fun c => isCode c || c.before args0 about1) = true := by decide +kernel
set_option maxRecDepth 65536 in
theorem w_t5 : (((((words1.drop 24).drop 24).drop 24).drop 24).take 24).all (fun c => isCode c || c.before args0 about1) = true := by decide +kernel
set_option maxRecDepth 65536 in
theorem w_t6 : ((((((words1.drop 24).drop 24).drop 24).drop 24).drop 24).take 24).all (fun c => isCode c || c.before args0 about1) = true := by decide +kernel
set_option maxRecDepth 65536 in
theorem w_t7 : (((((((words1.drop 24).drop 24).drop 24).drop 24).drop 24).drop 24).take 24).all (fun c => isCode c || c.before args0 about1) = true := by decide +kernel
set_option maxRecDepth 65536 in
theorem w_t8 : (((((((words1.drop 24).drop 24).drop 24).drop 24).drop 24).drop 24).drop 24).all (fun c => isCode c || c.before args0 about1) = true := by decide +kernel
theorem w_tables : (allAtoms (Jvm.Cond.code x code maxLocals ret :: tables_1)).before args0 about1 = true := by
  rw [allAtoms_all]
  show words1.all (fun c => c.before args0 about1) = true
  refine all_split ?_ w_codes
  rw [← List.take_append_drop 24 words1, List.all_append, w_t1, ← List.take_append_drop 24 (words1.drop 24), List.all_append, w_t2, ← List.take_append_drop 24 ((words1.drop 24).drop 24), List.all_append, w_t3, ← List.take_append_drop 24 (((words1.drop 24).drop 24).drop 24), List.all_append, w_t4, ← List.take_append_drop 24 ((((words1.drop 24).drop 24).drop 24).drop 24), List.all_append, w_t5, ← List.take_append_drop 24 (((((words1.drop 24).drop 24).drop 24).drop 24).drop 24), List.all_append, w_t6, ← List.take_append_drop 24 ((((((words1.drop 24).drop 24).drop 24).drop 24).drop 24).drop 24), List.all_append, w_t7, w_t8]
  rfl
set_option maxRecDepth 65536 in
theorem w_case : (Jvm.Cond.and given_1 narrow_1).before args0 about1 = true := by decide +kernel
theorem w_applies : (headSpec (Jvm.Cond.code x code maxLocals ret :: tables_1) room_1).applies x e0.platform about1 = true :=
  (Spec.applies_iff w_frames).mpr ⟨w_running, w_runnable, w_alone, w_named, w_hears, w_ripe, w_room, w_tables⟩
theorem atStart : AtStart classFile x code maxLocals ret World_1 tables_1 room_1 Calls_1 rest_1 Pre_1 launch0 p0 e0 about1 theMethod args0 below0 :=
  ⟨lists_1, trivial, launch0.admits_env _ _ _, launch0.least_env, fairChoices_fair.cas, fairChoices_fair.clock, w_frames, w_args, w_heap, w_applies, trivial, trivial, w_case⟩
end start1
theorem witness_1 : WitnessClaimed_1 := ⟨start1.p0, start1.e0, start1.about1, start1.theMethod, start1.args0, start1.below0, start1.atStart⟩
end Jvm.Pilot.@@N@@
