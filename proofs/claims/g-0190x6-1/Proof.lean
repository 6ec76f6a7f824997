import JvmDerived
import JvmDerived.Pilot.@@N@@Statement
import JvmDerived.Pilot.@@N@@Code
set_option linter.unusedVariables false
set_option linter.unusedSimpArgs false
namespace Jvm.Own
open Jvm Jvm.ClassFile Sem Op Lib Jvm.Free Jvm.Stand Jvm.LawKit Jvm.RoadKit Bundle

/-! A plain machine: the few instructions that these classes use, over a heap of plain lists. -/
/-- an object (class number, fields in order) | an int array (false) or boolean array (true) | a long array -/
abbrev ACell := (Nat × List Value) ⊕ ((Bool × List Int32) ⊕ List Int64)
abbrev AHeap := List ACell
/-- instruction, length, variables forgotten ahead of it, link number, constant -/
abbrev It := Instr × Nat × List Bool × Nat × Int
/-- a field: name, descriptor, type, final -/
abbrev FD := String × String × FieldType × Bool
/-- a class: name, number of its slots, its fields -/
abbrev CD := String × Nat × List FD
/-- a method: name, bytes, variables, return type; kind (0 static, 1 constructor, 2 private, 3 virtual), parameters, class number, frames, words; code -/
abbrev MD := MethodName × ByteArray × Nat × Option FieldType × Nat × Nat × Nat × Nat × Nat × List (Nat × It)
/-- classes, methods, number of cells that are only read -/
abbrev PD := List CD × List MD × Nat
abbrev PD.cls (P : PD) : List CD := P.1
abbrev PD.mth (P : PD) : List MD := P.2.1
abbrev PD.nr (P : PD) : Nat := P.2.2
abbrev MD.name (d : MD) : MethodName := d.1
abbrev MD.bytes (d : MD) : ByteArray := d.2.1
abbrev MD.maxL (d : MD) : Nat := d.2.2.1
abbrev MD.ret (d : MD) : Option FieldType := d.2.2.2.1
abbrev MD.kind (d : MD) : Nat := d.2.2.2.2.1
abbrev MD.npar (d : MD) : Nat := d.2.2.2.2.2.1
abbrev MD.cid (d : MD) : Nat := d.2.2.2.2.2.2.1
abbrev MD.rf (d : MD) : Nat := d.2.2.2.2.2.2.2.1
abbrev MD.rw (d : MD) : Nat := d.2.2.2.2.2.2.2.2.1
abbrev MD.code (d : MD) : List (Nat × It) := d.2.2.2.2.2.2.2.2.2

def rdA {α : Type} (L : List α) (j : Int32) : Option α := if j < 0 then none else L[j.toNatClampNeg]?
def wrA {α : Type} (L : List α) (j : Int32) (x : α) : Option (List α) := if j < 0 then none else if j.toNatClampNeg < L.length then some (L.set j.toNatClampNeg x) else none
def getL (L : List Slot) (k : Nat) : Option Value := match L[k]? with | some (.val v) => some v | _ => none
def isC2 : Option Slot → Bool | some (.val v) => v.category == 2 | _ => false
def isSec : Option Slot → Bool | some .second => true | _ => false
def free1 : Option Slot → Bool | some .unset => true | some (.val v) => v.category == 1 | _ => false
def st1 (L : List Slot) (k : Nat) (v : Value) : Option (List Slot) :=
  if free1 L[k]? && (k == 0 || !isC2 L[k - 1]?) && !isSec L[k + 1]? then some (L.set k (.val v)) else none
def free2 : Option Slot → Option Slot → Bool | some .unset, some .unset => true | some (.val v), some .second => v.category == 2 | _, _ => false
def st2 (L : List Slot) (k : Nat) (v : Value) : Option (List Slot) :=
  if free2 L[k]? L[k + 1]? && (k == 0 || !isC2 L[k - 1]?) && !isSec L[k + 2]? then some ((L.set k (.val v)).set (k + 1) .second) else none
def forget : List Bool → List Slot → List Slot
  | [], L => L
  | _ :: _, [] => []
  | true :: r, _ :: L => .unset :: forget r L
  | false :: r, s :: L => s :: forget r L
def catSum : List Value → Nat
  | [] => 0
  | v :: r => v.category + catSum r
def entA : List Value → List Slot
  | [] => []
  | v :: r => if v.category = 2 then .val v :: .second :: entA r else .val v :: entA r
def entL (as : List Value) (n : Nat) : List Slot := entA as ++ List.replicate (n - (entA as).length) .unset
def putOk : FieldType → Value → Bool
  | .int, .int _ => true
  | .long, .long _ => true
  | .boolean, .int x => (x == 0) || (x == 1)
  | .array _, .ref _ => true
  | _, _ => false
def dflt : FieldType → Value
  | .long => .long 0
  | .array _ => .null
  | _ => .int 0
def dfOk : FieldType → Bool
  | .int => true
  | .boolean => true
  | .long => true
  | .array _ => true
  | _ => false
def tgt (pc : Nat) (o : Int) : Option Nat := if 0 ≤ (pc : Int) + o then some ((pc : Int) + o).toNat else none
def fetch : List (Nat × It) → Nat → Option It
  | [], _ => none
  | (q, i) :: r, pc => if q = pc then some i else fetch r pc
/-- one instruction that neither branches nor calls nor returns -/
def xI (P : PD) (ini : Bool) (cid : Nat) (i : Instr) (a : Nat) (b : Int) (L : List Slot) (S : List Value) (H : AHeap) : Option (List Slot × List Value × AHeap) :=
  match i with
  | .aload_n k => match getL L k.val with | some (.ref x) => some (L, .ref x :: S, H) | _ => none
  | .aload k => match getL L k with | some (.ref x) => some (L, .ref x :: S, H) | _ => none
  | .iload_n k => match getL L k.val with | some (.int x) => some (L, .int x :: S, H) | _ => none
  | .iload k => match getL L k with | some (.int x) => some (L, .int x :: S, H) | _ => none
  | .lload_n k => match getL L k.val with | some (.long x) => some (L, .long x :: S, H) | _ => none
  | .lload k => match getL L k with | some (.long x) => some (L, .long x :: S, H) | _ => none
  | .istore_n k => match S with | .int x :: S' => (st1 L k.val (.int x)).map fun L' => (L', S', H) | _ => none
  | .istore k => match S with | .int x :: S' => (st1 L k (.int x)).map fun L' => (L', S', H) | _ => none
  | .astore_n k => match S with | .ref x :: S' => (st1 L k.val (.ref x)).map fun L' => (L', S', H) | _ => none
  | .astore k => match S with | .ref x :: S' => (st1 L k (.ref x)).map fun L' => (L', S', H) | _ => none
  | .lstore_n k => match S with | .long x :: S' => (st2 L k.val (.long x)).map fun L' => (L', S', H) | _ => none
  | .lstore k => match S with | .long x :: S' => (st2 L k (.long x)).map fun L' => (L', S', H) | _ => none
  | .iinc k d => match getL L k with | some (.int x) => (st1 L k (.int (x + Int32.ofInt d))).map fun L' => (L', S, H) | _ => none
  | .iconst d => some (L, .int (Int32.ofInt d) :: S, H)
  | .bipush d => some (L, .int (Int8.ofInt d).toInt32 :: S, H)
  | .sipush d => some (L, .int (Int16.ofInt d).toInt32 :: S, H)
  | .lconst k => some (L, .long (Int64.ofNat k) :: S, H)
  | .ldc _ => some (L, .int (Int32.ofInt b) :: S, H)
  | .ldc2_w _ => some (L, .long (Int64.ofInt b) :: S, H)
  | .iadd => match S with | .int y :: .int x :: S' => some (L, .int (x + y) :: S', H) | _ => none
  | .isub => match S with | .int y :: .int x :: S' => some (L, .int (x - y) :: S', H) | _ => none
  | .imul => match S with | .int y :: .int x :: S' => some (L, .int (x * y) :: S', H) | _ => none
  | .iand => match S with | .int y :: .int x :: S' => some (L, .int (x &&& y) :: S', H) | _ => none
  | .ior => match S with | .int y :: .int x :: S' => some (L, .int (x ||| y) :: S', H) | _ => none
  | .ixor => match S with | .int y :: .int x :: S' => some (L, .int (x ^^^ y) :: S', H) | _ => none
  | .ishl => match S with | .int y :: .int x :: S' => some (L, .int (x <<< (y &&& 31)) :: S', H) | _ => none
  | .ishr => match S with | .int y :: .int x :: S' => some (L, .int (x >>> (y &&& 31)) :: S', H) | _ => none
  | .iushr => match S with | .int y :: .int x :: S' => some (L, .int (XT.ushr x y) :: S', H) | _ => none
  | .idiv => match S with | .int y :: .int x :: S' => if y = 0 then none else some (L, .int (x / y) :: S', H) | _ => none
  | .irem => match S with | .int y :: .int x :: S' => if y = 0 then none else some (L, .int (x % y) :: S', H) | _ => none
  | .ladd => match S with | .long y :: .long x :: S' => some (L, .long (x + y) :: S', H) | _ => none
  | .lsub => match S with | .long y :: .long x :: S' => some (L, .long (x - y) :: S', H) | _ => none
  | .lmul => match S with | .long y :: .long x :: S' => some (L, .long (x * y) :: S', H) | _ => none
  | .land => match S with | .long y :: .long x :: S' => some (L, .long (x &&& y) :: S', H) | _ => none
  | .lor => match S with | .long y :: .long x :: S' => some (L, .long (x ||| y) :: S', H) | _ => none
  | .lxor => match S with | .long y :: .long x :: S' => some (L, .long (x ^^^ y) :: S', H) | _ => none
  | .lshl => match S with | .int y :: .long x :: S' => some (L, .long (x <<< (y.toInt64 &&& 63)) :: S', H) | _ => none
  | .lshr => match S with | .int y :: .long x :: S' => some (L, .long (x >>> (y.toInt64 &&& 63)) :: S', H) | _ => none
  | .lushr => match S with | .int y :: .long x :: S' => some (L, .long (XT.ushrL x y) :: S', H) | _ => none
  | .ldiv => match S with | .long y :: .long x :: S' => if y = 0 then none else some (L, .long (x / y) :: S', H) | _ => none
  | .lrem => match S with | .long y :: .long x :: S' => if y = 0 then none else some (L, .long (x % y) :: S', H) | _ => none
  | .lcmp => match S with | .long y :: .long x :: S' => some (L, .int (XT.cmpL x y) :: S', H) | _ => none
  | .i2l => match S with | .int x :: S' => some (L, .long x.toInt64 :: S', H) | _ => none
  | .l2i => match S with | .long x :: S' => some (L, .int x.toInt32 :: S', H) | _ => none
  | .dup => match S with
    | .int x :: S' => some (L, .int x :: .int x :: S', H)
    | .ref x :: S' => some (L, .ref x :: .ref x :: S', H)
    | _ => none
  | .dup2 => match S with
    | .int x :: .ref y :: S' => some (L, .int x :: .ref y :: .int x :: .ref y :: S', H)
    | .long x :: S' => some (L, .long x :: .long x :: S', H)
    | _ => none
  | .pop => match S with | .int _ :: S' => some (L, S', H) | _ => none
  | .getfield _ => match S with
    | .ref o :: S' => match H[o]? with
      | some (.inl (c, fs)) => if c = cid then match fs[a]? with
        | some (.int x) => some (L, .int x :: S', H)
        | some (.long x) => some (L, .long x :: S', H)
        | some (.ref x) => some (L, .ref x :: S', H)
        | _ => none
        else none
      | _ => none
    | _ => none
  | .putfield _ => match S with
    | v :: .ref o :: S' => match H[o]? with
      | some (.inl (c, fs)) => if c = cid ∧ P.nr ≤ o then match (P.cls[c]?).bind fun cd => cd.2.2[a]? with
        | some (_, _, ty, fin) => if putOk ty v && (!fin || ini) then some (L, S', H.set o (.inl (c, fs.set a v))) else none
        | none => none
        else none
      | _ => none
    | _ => none
  | .iaload => match S with
    | .int j :: .ref o :: S' => match H[o]? with
      | some (.inr (.inl (false, A))) => (rdA A j).map fun x => (L, .int x :: S', H)
      | _ => none
    | _ => none
  | .baload => match S with
    | .int j :: .ref o :: S' => match H[o]? with
      | some (.inr (.inl (true, A))) => (rdA A j).map fun x => (L, .int x :: S', H)
      | _ => none
    | _ => none
  | .laload => match S with
    | .int j :: .ref o :: S' => match H[o]? with
      | some (.inr (.inr A)) => (rdA A j).map fun x => (L, .long x :: S', H)
      | _ => none
    | _ => none
  | .iastore => match S with
    | .int x :: .int j :: .ref o :: S' => match H[o]? with
      | some (.inr (.inl (false, A))) => if P.nr ≤ o then (wrA A j x).map fun A' => (L, S', H.set o (.inr (.inl (false, A')))) else none
      | _ => none
    | _ => none
  | .bastore => match S with
    | .int x :: .int j :: .ref o :: S' => match H[o]? with
      | some (.inr (.inl (true, A))) => if P.nr ≤ o then (wrA A j (x &&& 1)).map fun A' => (L, S', H.set o (.inr (.inl (true, A')))) else none
      | _ => none
    | _ => none
  | .lastore => match S with
    | .long x :: .int j :: .ref o :: S' => match H[o]? with
      | some (.inr (.inr A)) => if P.nr ≤ o then (wrA A j x).map fun A' => (L, S', H.set o (.inr (.inr A'))) else none
      | _ => none
    | _ => none
  | .arraylength => match S with
    | .ref o :: S' => match H[o]? with
      | some (.inr (.inl (_, A))) => some (L, .int A.length.toInt32 :: S', H)
      | _ => none
    | _ => none
  | _ => none
/-- one instruction that makes a cell: how many slots it takes stands last -/
def xN (P : PD) (i : Instr) (a : Nat) (S : List Value) (H : AHeap) : Option (List Value × AHeap × Nat) :=
  match i with
  | .new _ => match P.cls[a]? with
    | some cd => some (.ref H.length :: S, H ++ [.inl (a, cd.2.2.map fun f => dflt f.2.2.1)], cd.2.1)
    | none => none
  | .newarray t => match S with
    | .int n :: S' => if n < 0 ∨ 100000 < n.toNatClampNeg then none else match t with
      | .int => some (.ref H.length :: S', H ++ [.inr (.inl (false, List.replicate n.toNatClampNeg 0))], n.toNatClampNeg)
      | .boolean => some (.ref H.length :: S', H ++ [.inr (.inl (true, List.replicate n.toNatClampNeg 0))], n.toNatClampNeg)
      | .long => some (.ref H.length :: S', H ++ [.inr (.inr (List.replicate n.toNatClampNeg 0))], n.toNatClampNeg)
      | _ => none
    | _ => none
  | _ => none
/-- the words that a call from d to y asks -/
def fitsRoom (d y : MD) (rest : List Value) : Bool := decide (y.rf + 1 ≤ d.rf) && decide (catSum rest + (y.maxL + 11) + y.rw ≤ d.rw)
/-- the arguments of a call, first to last, and what lies under them -/
def argsOf (n : Nat) (S : List Value) : Option (List Value × List Value) := if n ≤ S.length then some ((S.take n).reverse, S.drop n) else none
def recvOk (P : PD) (H : AHeap) (y : MD) (as : List Value) : Bool :=
  if y.kind = 0 then true else match as with
    | .ref o :: _ => match H[o]? with
      | some (.inl (c, _)) => decide (c = y.cid)
      | _ => false
    | _ => false
def nargs (y : MD) : Nat := if y.kind = 0 then y.npar else y.npar + 1
def invKind (i : Instr) (k : Nat) : Bool := match i with
  | .invokestatic _ => k == 0
  | .invokespecial _ => k == 1
  | .invokevirtual _ => k == 2 || k == 3
  | _ => false
/-- what a method returns of an int on its stack -/
def retV (r : Option FieldType) (x : Int32) : Option Value := match r with
  | some .int => some (.int x)
  | some .boolean => some (.int (x &&& 1))
  | _ => none
def isInv : Instr → Bool
  | .invokestatic _ => true
  | .invokespecial _ => true
  | .invokevirtual _ => true
  | _ => false
def isNew : Instr → Bool
  | .new _ => true
  | .newarray _ => true
  | _ => false
/-- what a run answers: what it returns, the heap, how many cells and slots it has made -/
abbrev Res := Option Value × AHeap × Nat × Nat
def addR (r : Res) (kc ks : Nat) : Res := (r.1, r.2.1, r.2.2.1 + kc, r.2.2.2 + ks)
/-- n instructions at the most, from pc of method mi to its return -/
def exe (P : PD) : Nat → Nat → Nat → List Slot → List Value → AHeap → Option Res
  | 0, _, _, _, _, _ => none
  | n + 1, mi, pc, L0, S, H => match P.mth[mi]? with
    | none => none
    | some d => match fetch d.code pc with
      | none => none
      | some (i, len, er, a, b) =>
        let L := forget er L0
        match i with
        | .goto o => match tgt pc o with
          | some q => exe P n mi q L S H
          | none => none
        | .if_icmp cd o => match S with
          | .int y :: .int x :: S' => if if_icmp.holds cd x y = true then match tgt pc o with
              | some q => exe P n mi q L S' H
              | none => none
            else exe P n mi (pc + 3) L S' H
          | _ => none
        | .ifCond cd o => match S with
          | .int x :: S' => if ifCond.holds cd x = true then match tgt pc o with
              | some q => exe P n mi q L S' H
              | none => none
            else exe P n mi (pc + 3) L S' H
          | _ => none
        | .ifnonnull o => match S with
          | .ref _ :: S' => match tgt pc o with
            | some q => exe P n mi q L S' H
            | none => none
          | _ => none
        | .ireturn => match S with
          | [.int x] => match retV d.ret x with
            | some v => some (some v, H, 0, 0)
            | none => none
          | _ => none
        | .lreturn => match S with
          | [.long x] => if d.ret = some .long then some (some (.long x), H, 0, 0) else none
          | _ => none
        | .return_ => match S with
          | [] => if d.ret = none then some (none, H, 0, 0) else none
          | _ => none
        | i => if isInv i = true then
            if b = -1 then match i, S with
              | .invokespecial _, .ref _ :: S' => if 1 ≤ d.rf ∧ catSum S' + 12 ≤ d.rw then exe P n mi (pc + 3) L S' H else none
              | _, _ => none
            else match P.mth[a]? with
              | none => none
              | some y => match argsOf (nargs y) S with
                | none => none
                | some (as, rest) =>
                  if decide (0 < a) && invKind i y.kind && recvOk P H y as && fitsRoom d y rest && decide ((entA as).length ≤ y.maxL) then
                    match exe P n a 0 (entL as y.maxL) [] H with
                    | some (v, H1, kc, ks) => (exe P n mi (pc + 3) L (v.toList ++ rest) H1).map fun r => addR r kc ks
                    | none => none
                  else none
          else if isNew i = true then match xN P i a S H with
            | some (S', H', ks) => (exe P n mi (pc + len) L S' H').map fun r => addR r 1 ks
            | none => none
          else match xI P (d.name.name == "<init>") d.cid i a b L S H with
            | some (L', S', H') => exe P n mi (pc + len) L' S' H'
            | none => none
end Jvm.Own
namespace Jvm.Own
open Jvm Jvm.ClassFile Sem Op Lib Jvm.Free Jvm.Stand Jvm.LawKit Jvm.RoadKit Bundle

/-! The words that the machine's program rests on -/
def fWord (C : String) (f : FD) : Jvm.Cond := if f.2.2.2 then .laysFinal C C f.1 f.2.1 else .lays C C f.1 f.2.1
def cWords (cd : CD) : List Jvm.Cond := .instantiable cd.1 cd.2.1 :: .initialized cd.1 :: cd.2.2.map (fWord cd.1)
def mWords (y : MD) : List Jvm.Cond := .code y.name y.bytes y.maxL y.ret :: .initialized y.name.cls ::
  (if y.kind = 0 then [.static y.name] else if y.kind = 1 then [.instanceMethod y.name] else if y.kind = 2 then [.instanceMethod y.name, .privateMethod y.name]
   else [.declares y.name, .selects y.name.cls y.name y.name, .instanceMethod y.name])
def fieldOf (P : PD) (c a : Nat) : Option FD := (P.cls[c]?).bind fun cd => cd.2.2[a]?
def fLink (P : PD) (d : MD) (k a : Nat) : List Jvm.Cond := match fieldOf P d.cid a with | some f => [.fieldLink d.name.cls k d.name.cls f.1 f.2.1] | none => []
def mLink (P : PD) (d : MD) (k a : Nat) (b : Int) : List Jvm.Cond :=
  if b = -1 then [.methodLink d.name.cls k Lib.objectInit, .instanceMethod Lib.objectInit, .code Lib.objectInit ⟨#[0xb1]⟩ 1 none]
  else match P.mth[a]? with | some y => [.methodLink d.name.cls k y.name] | none => []
def iWords (P : PD) (d : MD) (x : Nat × It) : List Jvm.Cond := match x with
  | (_, .getfield k, _, _, a, _) => fLink P d k a
  | (_, .putfield k, _, _, a, _) => fLink P d k a
  | (_, .ldc k, _, _, _, b) => [.constant d.name.cls k (Int32.ofInt b)]
  | (_, .ldc2_w k, _, _, _, b) => [.constantLong d.name.cls k (Int64.ofInt b)]
  | (_, .new k, _, _, a, _) => match P.cls[a]? with | some cd => [.classLink d.name.cls k cd.1] | none => []
  | (_, .newarray t, _, _, _, _) => [.arrayClass (newarray.typeOf t)]
  | (_, .invokestatic k, _, _, a, b) => mLink P d k a b
  | (_, .invokespecial k, _, _, a, b) => mLink P d k a b
  | (_, .invokevirtual k, _, _, a, b) => mLink P d k a b
  | _ => []
def wordsOf (P : PD) : List Jvm.Cond := P.cls.flatMap cWords ++ (P.mth.drop 1).flatMap mWords ++ P.mth.flatMap fun d => d.code.flatMap (iWords P d)
/-! What can be looked up in the program itself -/
def nodup : List String → Bool
  | [] => true
  | x :: r => !r.contains x && nodup r
def fChk (f : FD) : Bool := decide (parseFieldDescriptor f.2.1 = some f.2.2.1) && dfOk f.2.2.1
def cChk (cd : CD) : Bool := nodup (cd.2.2.map fun f => f.1) && cd.2.2.all fChk
def sigChk (y : MD) : Bool := match parseMethodDescriptor y.name.desc with
  | some g => decide (g.parameters.length = y.npar)
  | none => false
def lenOk (i : Instr) (n : Nat) : Bool := match i with
  | .aload _ | .iload _ | .lload _ | .istore _ | .astore _ | .lstore _ | .bipush _ | .ldc _ | .newarray _ => n == 2
  | .iinc _ _ | .sipush _ | .ldc2_w _ | .getfield _ | .putfield _ | .new _ | .goto _ | .if_icmp _ _ | .ifCond _ _ | .ifnonnull _ | .invokestatic _ | .invokespecial _ | .invokevirtual _ => n == 3
  | _ => n == 1
def codeChk (y : MD) : Bool := y.code.all fun x => decide (decode y.bytes x.1 = .ok (x.2.1, x.2.2.1)) && lenOk x.2.1 x.2.2.1
def clsChk (P : PD) (y : MD) : Bool := match P.cls[y.cid]? with | some cd => cd.1 == y.name.cls | none => y.kind == 0
def mChk (P : PD) (y : MD) : Bool := plainName y.name.cls && sigChk y && codeChk y && clsChk P y && decide (y.name.cls ≠ "java/lang/invoke/MethodHandle") && decide (y.name.cls ≠ "java/lang/invoke/VarHandle") && (y.kind != 1 || (y.name.name == "<init>" && decide (y.ret = none)))
def chk (P : PD) : Bool := P.cls.all cChk && P.mth.all (mChk P)

/-! Plain and real values -/
def VR (ρ : List Addr) : Value → Value → Prop
  | .ref k, w => ∃ a, ρ[k]? = some a ∧ w = .ref a
  | v, w => w = v
def SR (ρ : List Addr) : List Value → List Value → Prop
  | [], ws => ws = []
  | v :: vs, ws => ∃ w ws', ws = w :: ws' ∧ VR ρ v w ∧ SR ρ vs ws'
def OV (ρ : List Addr) : Option Value → Option Value → Prop
  | none, w => w = none
  | some v, w => ∃ u, w = some u ∧ VR ρ v u
def WFc (A : Array Slot) : Prop := (∀ (i : Nat) w, A[i]? = some (.val w) → w.category = 2 → A[i + 1]? = some .second) ∧ ∀ (i : Nat), A[i]? = some .second → ∃ j w, i = j + 1 ∧ A[j]? = some (.val w) ∧ w.category = 2
def SlR (ρ : List Addr) : Slot → Option Slot → Prop
  | .unset, _ => True
  | .second, o => o = some .second
  | .val v, o => ∃ w, VR ρ v w ∧ o = some (.val w)
def LR (ρ : List Addr) (L : List Slot) (A : Array Slot) : Prop := A.size = L.length ∧ WFc A ∧ ∀ (i : Nat) s, L[i]? = some s → SlR ρ s A[i]?
theorem VR.mono {ρ t : List Addr} {v w : Value} (h : VR ρ v w) : VR (ρ ++ t) v w := by
  cases v <;> first | exact h | skip
  obtain ⟨a, h1, h2⟩ := h
  exact ⟨a, by rw [List.getElem?_append_left (List.getElem?_eq_some_iff.mp h1).1]; exact h1, h2⟩
theorem SR.mono {ρ t : List Addr} : ∀ {v w : List Value}, SR ρ v w → SR (ρ ++ t) v w
  | [], _, h => h
  | _ :: _, _, ⟨w, ws, h1, h2, h3⟩ => ⟨w, ws, h1, h2.mono, SR.mono h3⟩
theorem SlR.mono {ρ t : List Addr} {s : Slot} {o : Option Slot} (h : SlR ρ s o) : SlR (ρ ++ t) s o := by
  cases s with
  | unset => trivial
  | second => exact h
  | val v => obtain ⟨w, h1, h2⟩ := h; exact ⟨w, h1.mono, h2⟩
theorem LR.mono {ρ t : List Addr} {L : List Slot} {A : Array Slot} (h : LR ρ L A) : LR (ρ ++ t) L A := ⟨h.1, h.2.1, fun i s q => (h.2.2 i s q).mono⟩
theorem VR.cat {ρ : List Addr} {v w : Value} (h : VR ρ v w) : w.category = v.category := by
  cases v <;> first | (obtain ⟨a, -, rfl⟩ := h; rfl) | (cases h; rfl)
theorem SR.cat {ρ : List Addr} : ∀ {v w : List Value}, SR ρ v w → (w.map fun v => v.category).sum = catSum v
  | [], _, h => by cases h; rfl
  | _ :: _, _, ⟨w, ws, h1, h2, h3⟩ => by subst h1; simp [catSum, h2.cat, SR.cat h3]
theorem SR.len {ρ : List Addr} : ∀ {v w : List Value}, SR ρ v w → w.length = v.length
  | [], _, h => by cases h; rfl
  | _ :: _, _, ⟨w, ws, h1, h2, h3⟩ => by subst h1; simp [SR.len h3]
theorem SR.app {ρ : List Addr} : ∀ {v w v' w' : List Value}, SR ρ v w → SR ρ v' w' → SR ρ (v ++ v') (w ++ w')
  | [], _, _, _, h, h' => by cases h; exact h'
  | _ :: _, _, _, _, ⟨w, ws, h1, h2, h3⟩, h' => by subst h1; exact ⟨w, ws ++ _, rfl, h2, SR.app h3 h'⟩
theorem SR.rev {ρ : List Addr} : ∀ {v w : List Value}, SR ρ v w → SR ρ v.reverse w.reverse
  | [], _, h => by cases h; exact rfl
  | _ :: _, _, ⟨w, ws, h1, h2, h3⟩ => by subst h1; simp only [List.reverse_cons]; exact (SR.rev h3).app ⟨w, [], rfl, h2, rfl⟩
theorem SR.take {ρ : List Addr} : ∀ (n : Nat) {v w : List Value}, SR ρ v w → SR ρ (v.take n) (w.take n)
  | 0, _, _, _ => rfl
  | n + 1, [], _, h => by cases h; exact rfl
  | n + 1, _ :: _, _, ⟨w, ws, h1, h2, h3⟩ => by subst h1; exact ⟨w, _, rfl, h2, SR.take n h3⟩
theorem SR.drop {ρ : List Addr} : ∀ (n : Nat) {v w : List Value}, SR ρ v w → SR ρ (v.drop n) (w.drop n)
  | 0, _, _, h => h
  | n + 1, [], _, h => by cases h; exact rfl
  | n + 1, _ :: _, _, ⟨w, ws, h1, h2, h3⟩ => by subst h1; exact SR.drop n h3
theorem OV.list {ρ : List Addr} {v w : Option Value} (h : OV ρ v w) : SR ρ v.toList w.toList := by
  cases v with
  | none => cases h; exact rfl
  | some v => obtain ⟨u, rfl, h⟩ := h; exact ⟨u, [], rfl, h, rfl⟩
theorem LR.get {ρ : List Addr} {L : List Slot} {A : Array Slot} (h : LR ρ L A) {k : Nat} {v : Value} (g : getL L k = some v) : ∃ w, VR ρ v w ∧ A[k]? = some (.val w) := by
  unfold getL at g
  split at g
  · rename_i u q
    cases g
    exact h.2.2 k _ q
  · cases g
theorem forget_get : ∀ (er : List Bool) (L : List Slot) (i : Nat) (s : Slot), (forget er L)[i]? = some s → s = .unset ∨ L[i]? = some s
  | [], L, i, s, h => Or.inr h
  | _ :: _, [], i, s, h => by simp [forget] at h
  | true :: r, t :: L, 0, s, h => by simp [forget] at h; exact Or.inl h.symm
  | false :: r, t :: L, 0, s, h => by simp [forget] at h; exact Or.inr (by simp [h])
  | true :: r, t :: L, i + 1, s, h => by simp [forget] at h; simpa using forget_get r L i s h
  | false :: r, t :: L, i + 1, s, h => by simp [forget] at h; simpa using forget_get r L i s h
theorem forget_len : ∀ (er : List Bool) (L : List Slot), (forget er L).length = L.length
  | [], _ => rfl
  | _ :: _, [] => rfl
  | true :: r, _ :: L => by simp [forget, forget_len r L]
  | false :: r, _ :: L => by simp [forget, forget_len r L]
theorem LR.forget {ρ : List Addr} {A : Array Slot} (er : List Bool) {L : List Slot} (h : LR ρ L A) : LR ρ (forget er L) A :=
  ⟨by rw [forget_len]; exact h.1, h.2.1, fun i s q => by
    rcases forget_get er L i s q with rfl | z
    · trivial
    · exact h.2.2 i s z⟩
/-! Stores -/
theorem setAt_ok {A : Array Slot} {i : Nat} (h : i < A.size) (x : Slot) : setAt A i x = some (A.setIfInBounds i x) := by simp [setAt, h]
theorem get_set (A : Array Slot) (i j : Nat) (x : Slot) : (A.setIfInBounds i x)[j]? = if i = j then (if i < A.size then some x else none) else A[j]? := by
  rw [Array.getElem?_setIfInBounds]
theorem sl_unset {A : Array Slot} {k : Nat} {w : Value} (h : A[k]? = some .unset) : storeLocals A k w = storeSelf A k w := by
  unfold storeLocals; rw [h]; rfl
theorem sl_second {A : Array Slot} {k : Nat} {w : Value} (h : A[k]? = some .second) (hk : k - 1 < A.size) : storeLocals A k w = storeSelf (A.setIfInBounds (k - 1) .unset) k w := by
  unfold storeLocals; rw [h]
  show (setAt A (k - 1) .unset).bind _ = _
  rw [setAt_ok hk]; rfl
theorem sl_val2 {A : Array Slot} {k : Nat} {w u : Value} (h : A[k]? = some (.val u)) (hu : u.category = 2) (hk : k + 1 < A.size) : storeLocals A k w = storeSelf (A.setIfInBounds (k + 1) .unset) k w := by
  unfold storeLocals; rw [h]
  show (if u.category = 2 then (setAt A (k + 1) .unset).bind _ else _) = _
  rw [if_pos hu, setAt_ok hk]; rfl
theorem sl_val1 {A : Array Slot} {k : Nat} {w u : Value} (h : A[k]? = some (.val u)) (hu : ¬ u.category = 2) : storeLocals A k w = storeSelf A k w := by
  unfold storeLocals; rw [h]
  show (if u.category = 2 then (setAt A (k + 1) .unset).bind _ else _) = _
  rw [if_neg hu]
theorem ss_1 {A : Array Slot} {k : Nat} {w : Value} (hk : k < A.size) (hw : ¬ w.category = 2) : storeSelf A k w = some (A.setIfInBounds k (.val w)) := by
  unfold storeSelf; rw [setAt_ok hk]
  show (if w.category = 2 then _ else _) = _
  rw [if_neg hw]
theorem ss_2c {A : Array Slot} {k : Nat} {w u : Value} (hk : k < A.size) (hk1 : k + 1 < A.size) (hk2 : k + 2 < A.size) (hw : w.category = 2) (h : (A.setIfInBounds k (.val w))[k + 1]? = some (.val u)) (hu : u.category = 2) : storeSelf A k w = some (((A.setIfInBounds k (.val w)).setIfInBounds (k + 2) .unset).setIfInBounds (k + 1) .second) := by
  unfold storeSelf; rw [setAt_ok hk]
  show (if w.category = 2 then _ else _) = _
  rw [if_pos hw, h]
  show (if u.category = 2 then (setAt _ (k + 2) .unset).bind _ else _) = _
  rw [if_pos hu, setAt_ok (by simpa using hk2)]
  exact setAt_ok (by simpa using hk1) _
theorem ss_2 {A : Array Slot} {k : Nat} {w : Value} {o : Slot} (hk : k < A.size) (hk1 : k + 1 < A.size) (hw : w.category = 2) (h : (A.setIfInBounds k (.val w))[k + 1]? = some o) (ho : ¬ ∃ u, o = .val u ∧ u.category = 2) : storeSelf A k w = some ((A.setIfInBounds k (.val w)).setIfInBounds (k + 1) .second) := by
  unfold storeSelf; rw [setAt_ok hk]
  show (if w.category = 2 then _ else _) = _
  rw [if_pos hw, h]
  cases o with
  | unset => exact setAt_ok (by simpa using hk1) _
  | second => exact setAt_ok (by simpa using hk1) _
  | val u =>
    show (if u.category = 2 then _ else _) = _
    rw [if_neg fun z => ho ⟨u, rfl, z⟩]
    exact setAt_ok (by simpa using hk1) _
theorem store1_sim {ρ : List Addr} {L : List Slot} {A : Array Slot} (h : LR ρ L A) {k : Nat} {v w : Value} {L' : List Slot} (hs : st1 L k v = some L') (hv : VR ρ v w) (hc : w.category = 1) : ∃ A', storeLocals A k w = some A' ∧ LR ρ L' A' := by
  unfold st1 at hs
  split at hs
  · rename_i q
    cases hs
    simp only [Bool.and_eq_true] at q
    obtain ⟨⟨q1, q2⟩, q3⟩ := q
    obtain ⟨hA, ⟨w1, w2⟩, hl⟩ := h
    have hk : k < L.length := by
      rcases Nat.lt_or_ge k L.length with z | z
      · exact z
      · rw [List.getElem?_eq_none z] at q1; cases q1
    have hkA : k < A.size := hA ▸ hk
    obtain ⟨sl, hsl⟩ : ∃ sl, A[k]? = some sl := ⟨A[k], Array.getElem?_eq_getElem hkA⟩
    have hc2 : ¬ w.category = 2 := by rw [hc]; decide
    classical
    have key : ∃ A', storeLocals A k w = some A' ∧ A'.size = A.size ∧ (∀ j, A'[j]? = if j = k then some (.val w) else if (sl = .second ∧ j + 1 = k) ∨ ((∃ u, sl = .val u ∧ u.category = 2) ∧ j = k + 1) then some .unset else A[j]?) := by
      cases sl with
      | unset =>
        refine ⟨A.setIfInBounds k (.val w), by rw [sl_unset hsl]; exact ss_1 hkA hc2, by simp, fun j => ?_⟩
        rw [get_set]
        by_cases e : k = j
        · subst e; simp [hkA]
        · have e' : ¬ j = k := fun z => e z.symm
          simp [e, e']
      | second =>
        obtain ⟨j0, u, rfl, g1, g2⟩ := w2 k hsl
        refine ⟨(A.setIfInBounds j0 .unset).setIfInBounds (j0 + 1) (.val w), by rw [sl_second hsl (show j0 + 1 - 1 < A.size by omega)]; exact ss_1 (by simpa using hkA) hc2, by simp, fun j => ?_⟩
        rw [get_set, get_set]
        by_cases e : j0 + 1 = j
        · subst e; simp [hkA]
        · by_cases e2 : j0 = j
          · subst e2; simp; omega
          · have e' : ¬ j = j0 + 1 := fun z => e z.symm
            have e2' : ¬ j = j0 := fun z => e2 z.symm
            simp [e, e', e2, e2']
      | val u =>
        by_cases hu : u.category = 2
        · have g := w1 k u hsl hu
          have hk1 : k + 1 < A.size := (Array.getElem?_eq_some_iff.mp g).1
          refine ⟨(A.setIfInBounds (k + 1) .unset).setIfInBounds k (.val w), by rw [sl_val2 hsl hu hk1]; exact ss_1 (by simpa using hkA) hc2, by simp, fun j => ?_⟩
          rw [get_set, get_set]
          by_cases e : k = j
          · subst e; simp [hkA]
          · have e' : ¬ j = k := fun z => e z.symm
            by_cases e2 : k + 1 = j
            · subst e2; simp [hk1, hu]
            · have e2' : ¬ j = k + 1 := fun z => e2 z.symm
              simp [e, e', e2, e2']
        · refine ⟨A.setIfInBounds k (.val w), by rw [sl_val1 hsl hu]; exact ss_1 hkA hc2, by simp, fun j => ?_⟩
          rw [get_set]
          by_cases e : k = j
          · subst e; simp [hkA]
          · have e' : ¬ j = k := fun z => e z.symm
            simp [e, e', hu]
    obtain ⟨A', k1, k2, k3⟩ := key
    refine ⟨A', k1, by rw [k2, hA]; simp, ⟨fun i u g1 g2 => ?_, fun i g1 => ?_⟩, fun i s g => ?_⟩
    · rw [k3] at g1
      split at g1
      · cases g1; exact absurd g2 hc2
      · rename_i e1
        split at g1
        · cases g1
        · rename_i e2
          have g3 := w1 i u g1 g2
          rw [k3]
          split
          · rename_i e3
            have : sl = .second := by rw [← e3] at hsl; exact Option.some.inj (hsl.symm.trans g3)
            exact absurd (Or.inl ⟨this, e3⟩) e2
          · rename_i e3
            split
            · rename_i e4
              rcases e4 with ⟨z1, z2⟩ | ⟨⟨u', z1, z2⟩, z3⟩
              · exfalso
                have : k = i + 1 + 1 := z2.symm
                subst this
                rw [z1] at hsl
                obtain ⟨j0, u0, y1, y2, y3⟩ := w2 _ hsl
                have : j0 = i + 1 := by omega
                subst this
                rw [g3] at y2; cases y2
              · exact absurd (by omega) e1
            · exact g3
    · rw [k3] at g1
      split at g1
      · cases g1
      · rename_i e1
        split at g1
        · cases g1
        · rename_i e2
          obtain ⟨j, u, z1, z2, z3⟩ := w2 i g1
          refine ⟨j, u, z1, ?_, z3⟩
          rw [k3]
          split
          · rename_i e3
            subst e3
            have : sl = .val u := Option.some.inj (hsl.symm.trans z2)
            exact absurd (Or.inr ⟨⟨u, this, z3⟩, z1⟩) e2
          · split
            · rename_i e3 e4
              rcases e4 with ⟨y1, y2⟩ | ⟨⟨u', y1, y2⟩, y3⟩
              · exact absurd (z1.trans y2) e1
              · subst y3
                have g5 := w1 k u' (y1 ▸ hsl) y2
                rw [z2] at g5; cases g5
            · exact z2
    · rw [List.getElem?_set] at g
      split at g
      · rename_i e
        subst e
        cases g
        exact ⟨w, hv, by rw [k3]; simp⟩
      · rename_i e
        have e' : ¬ i = k := fun z => e z.symm
        have g2 := hl i s g
        rw [k3, if_neg e']
        split
        · rename_i e4
          cases s with
          | unset => trivial
          | second =>
            exfalso
            have g2' : A[i]? = some .second := g2
            rcases e4 with ⟨y1, y2⟩ | ⟨⟨u', y1, y2⟩, y3⟩
            · obtain ⟨j0, u0, x1, x2, x3⟩ := w2 k (y1 ▸ hsl)
              have : i = j0 := by omega
              subst this
              rw [x2] at g2'; cases g2'
            · subst y3
              rw [g] at q3
              simp [isSec] at q3
          | val v0 =>
            exfalso
            obtain ⟨w0, x1, x2⟩ := g2
            rcases e4 with ⟨y1, y2⟩ | ⟨⟨u', y1, y2⟩, y3⟩
            · obtain ⟨j0, u0, z1, z2, z3⟩ := w2 k (y1 ▸ hsl)
              have : i = j0 := by omega
              subst this
              have hw0 : w0 = u0 := by rw [x2] at z2; cases z2; rfl
              have hcat : v0.category = 2 := by rw [← x1.cat, hw0]; exact z3
              subst y2
              have : L[i + 1 - 1]? = some (.val v0) := g
              rw [this] at q2
              simp [isC2, hcat] at q2
            · subst y3
              have g5 := w1 k u' (y1 ▸ hsl) y2
              rw [x2] at g5; cases g5
        · exact g2
  · cases hs
end Jvm.Own
namespace Jvm.Own
open Jvm Jvm.ClassFile Sem Op Lib Jvm.Free Jvm.Stand Jvm.LawKit Jvm.RoadKit Bundle
theorem store2_sim {ρ : List Addr} {L : List Slot} {A : Array Slot} (h : LR ρ L A) {k : Nat} {v w : Value} {L' : List Slot} (hs : st2 L k v = some L') (hv : VR ρ v w) (hc : w.category = 2) : ∃ A', storeLocals A k w = some A' ∧ LR ρ L' A' := by
  unfold st2 at hs
  split at hs
  · rename_i q
    cases hs
    simp only [Bool.and_eq_true] at q
    obtain ⟨⟨q1, q2⟩, q3⟩ := q
    obtain ⟨hA, ⟨w1, w2⟩, hl⟩ := h
    have hk1 : k + 1 < L.length := by
      rcases Nat.lt_or_ge (k + 1) L.length with z | z
      · exact z
      · rw [List.getElem?_eq_none z] at q1
        cases h0 : L[k]? with
        | none => rw [h0] at q1; cases q1
        | some s0 => rw [h0] at q1; cases s0 <;> cases q1
    have hk : k < L.length := by omega
    have hkA : k < A.size := hA ▸ hk
    have hkA1 : k + 1 < A.size := hA ▸ hk1
    obtain ⟨sl, hsl⟩ : ∃ sl, A[k]? = some sl := ⟨A[k], Array.getElem?_eq_getElem hkA⟩
    obtain ⟨sm, hsm⟩ : ∃ sm, A[k + 1]? = some sm := ⟨A[k + 1], Array.getElem?_eq_getElem hkA1⟩
    have n1 : ¬ k = k + 1 := by omega
    have n2 : ¬ k + 2 = k + 1 := by omega
    have n3 : ¬ k + 2 = k := by omega
    classical
    have key : ∃ A', storeLocals A k w = some A' ∧ A'.size = A.size ∧ (∀ j, A'[j]? = if j = k then some (.val w) else if j = k + 1 then some .second else if (sl = .second ∧ j + 1 = k) ∨ ((∃ u, sm = .val u ∧ u.category = 2) ∧ j = k + 2) then some .unset else A[j]?) := by
      by_cases hm : ∃ u, sm = .val u ∧ u.category = 2
      · obtain ⟨u, rfl, hu⟩ := hm
        have g := w1 (k + 1) u hsm hu
        have hk2 : k + 2 < A.size := (Array.getElem?_eq_some_iff.mp g).1
        cases sl with
        | unset =>
          refine ⟨((A.setIfInBounds k (.val w)).setIfInBounds (k + 2) .unset).setIfInBounds (k + 1) .second, ?_, by simp, fun j => ?_⟩
          · rw [sl_unset hsl]; exact ss_2c hkA hkA1 hk2 hc (by rw [get_set, if_neg n1]; exact hsm) hu
          · rw [get_set, get_set, get_set]
            by_cases e0 : j = k
            · subst e0; simp [hkA]
            · by_cases e1 : j = k + 1
              · subst e1; simp [hkA1]
              · by_cases e2 : j = k + 2
                · subst e2; simp [hk2, hu]
                · have e0' : ¬ k = j := fun z => e0 z.symm
                  have e1' : ¬ k + 1 = j := fun z => e1 z.symm
                  have e2' : ¬ k + 2 = j := fun z => e2 z.symm
                  simp [e0, e1, e2, e0', e1', e2']
        | second =>
          obtain ⟨j0, u0, rfl, g1, g2⟩ := w2 k hsl
          have hj0 : j0 < A.size := by omega
          refine ⟨(((A.setIfInBounds j0 .unset).setIfInBounds (j0 + 1) (.val w)).setIfInBounds (j0 + 1 + 2) .unset).setIfInBounds (j0 + 1 + 1) .second, ?_, by simp, fun j => ?_⟩
          · have m1 : ¬ j0 + 1 = j0 + 1 + 1 := by omega
            have m2 : ¬ j0 = j0 + 1 + 1 := by omega
            rw [sl_second hsl (show j0 + 1 - 1 < A.size by omega)]
            exact ss_2c (by simpa using hkA) (by simpa using hkA1) (by simpa using hk2) hc (by rw [get_set, if_neg m1, get_set, if_neg (by omega)]; exact hsm) hu
          · rw [get_set, get_set, get_set, get_set]
            by_cases e0 : j = j0 + 1
            · subst e0; simp [hkA]
            · by_cases e1 : j = j0 + 1 + 1
              · subst e1; simp [hkA1]
              · by_cases e2 : j = j0 + 1 + 2
                · subst e2; simp [hk2, hu]
                · by_cases e3 : j = j0
                  · subst e3
                    rw [if_neg (by omega), if_neg (by omega), if_neg (by omega), if_pos rfl, if_pos hj0, if_neg (by omega), if_neg (by omega), if_pos (Or.inl ⟨rfl, rfl⟩)]
                  · have e0' : ¬ j0 + 1 = j := fun z => e0 z.symm
                    have e1' : ¬ j0 + 1 + 1 = j := fun z => e1 z.symm
                    have e2' : ¬ j0 + 1 + 2 = j := fun z => e2 z.symm
                    have e3' : ¬ j0 = j := fun z => e3 z.symm
                    simp [e0, e1, e2, e3, e0', e1', e2', e3']
        | val u1 =>
          have hu1 : ¬ u1.category = 2 := fun z => by have := w1 k u1 hsl z; rw [hsm] at this; cases this
          refine ⟨((A.setIfInBounds k (.val w)).setIfInBounds (k + 2) .unset).setIfInBounds (k + 1) .second, ?_, by simp, fun j => ?_⟩
          · rw [sl_val1 hsl hu1]; exact ss_2c hkA hkA1 hk2 hc (by rw [get_set, if_neg n1]; exact hsm) hu
          · rw [get_set, get_set, get_set]
            by_cases e0 : j = k
            · subst e0; simp [hkA]
            · by_cases e1 : j = k + 1
              · subst e1; simp [hkA1]
              · by_cases e2 : j = k + 2
                · subst e2; simp [hk2, hu]
                · have e0' : ¬ k = j := fun z => e0 z.symm
                  have e1' : ¬ k + 1 = j := fun z => e1 z.symm
                  have e2' : ¬ k + 2 = j := fun z => e2 z.symm
                  simp [e0, e1, e2, e0', e1', e2']
      · cases sl with
        | unset =>
          refine ⟨(A.setIfInBounds k (.val w)).setIfInBounds (k + 1) .second, ?_, by simp, fun j => ?_⟩
          · rw [sl_unset hsl]; exact ss_2 hkA hkA1 hc (by rw [get_set, if_neg n1]; exact hsm) hm
          · rw [get_set, get_set]
            by_cases e0 : j = k
            · subst e0; simp [hkA]
            · by_cases e1 : j = k + 1
              · subst e1; simp [hkA1]
              · have e0' : ¬ k = j := fun z => e0 z.symm
                have e1' : ¬ k + 1 = j := fun z => e1 z.symm
                simp [e0, e1, e0', e1', hm]
        | second =>
          obtain ⟨j0, u0, rfl, g1, g2⟩ := w2 k hsl
          have hj0 : j0 < A.size := by omega
          have m1 : ¬ j0 + 1 = j0 + 1 + 1 := by omega
          have m2 : ¬ j0 = j0 + 1 + 1 := by omega
          refine ⟨((A.setIfInBounds j0 .unset).setIfInBounds (j0 + 1) (.val w)).setIfInBounds (j0 + 1 + 1) .second, ?_, by simp, fun j => ?_⟩
          · rw [sl_second hsl (show j0 + 1 - 1 < A.size by omega)]
            exact ss_2 (by simpa using hkA) (by simpa using hkA1) hc (by rw [get_set, if_neg m1, get_set, if_neg (by omega)]; exact hsm) hm
          · rw [get_set, get_set, get_set]
            by_cases e0 : j = j0 + 1
            · subst e0; simp [hkA]
            · by_cases e1 : j = j0 + 1 + 1
              · subst e1; simp [hkA1]
              · by_cases e3 : j = j0
                · subst e3
                  rw [if_neg (by omega), if_neg (by omega), if_pos rfl, if_pos hj0, if_neg (by omega), if_neg (by omega), if_pos (Or.inl ⟨rfl, rfl⟩)]
                · have e0' : ¬ j0 + 1 = j := fun z => e0 z.symm
                  have e1' : ¬ j0 + 1 + 1 = j := fun z => e1 z.symm
                  have e3' : ¬ j0 = j := fun z => e3 z.symm
                  simp [e0, e1, e3, e0', e1', e3', hm]
        | val u1 =>
          by_cases hu1 : u1.category = 2
          · refine ⟨((A.setIfInBounds (k + 1) .unset).setIfInBounds k (.val w)).setIfInBounds (k + 1) .second, ?_, by simp, fun j => ?_⟩
            · rw [sl_val2 hsl hu1 hkA1]
              exact ss_2 (o := .unset) (by simpa using hkA) (by simpa using hkA1) hc (by rw [get_set, if_neg n1, get_set, if_pos rfl, if_pos hkA1]) (by rintro ⟨u, z, -⟩; cases z)
            · rw [get_set, get_set, get_set]
              by_cases e0 : j = k
              · subst e0; simp [hkA]
              · by_cases e1 : j = k + 1
                · subst e1; simp [hkA1]
                · have e0' : ¬ k = j := fun z => e0 z.symm
                  have e1' : ¬ k + 1 = j := fun z => e1 z.symm
                  simp [e0, e1, e0', e1', hm]
          · refine ⟨(A.setIfInBounds k (.val w)).setIfInBounds (k + 1) .second, ?_, by simp, fun j => ?_⟩
            · rw [sl_val1 hsl hu1]; exact ss_2 hkA hkA1 hc (by rw [get_set, if_neg n1]; exact hsm) hm
            · rw [get_set, get_set]
              by_cases e0 : j = k
              · subst e0; simp [hkA]
              · by_cases e1 : j = k + 1
                · subst e1; simp [hkA1]
                · have e0' : ¬ k = j := fun z => e0 z.symm
                  have e1' : ¬ k + 1 = j := fun z => e1 z.symm
                  simp [e0, e1, e0', e1', hm]
    obtain ⟨A', k1, k2, k3⟩ := key
    refine ⟨A', k1, by rw [k2, hA]; simp, ⟨fun i u g1 g2 => ?_, fun i g1 => ?_⟩, fun i s g => ?_⟩
    · by_cases e1 : i = k
      · subst e1; rw [k3]; simp
      · have g1' := g1
        rw [k3, if_neg e1] at g1'
        split at g1'
        · cases g1'
        · rename_i e2
          split at g1'
          · cases g1'
          · rename_i e4
            have g3 := w1 i u g1' g2
            rw [k3]
            have c1 : ¬ i + 1 = k := fun e3 => by
              have : sl = .second := by rw [← e3] at hsl; exact Option.some.inj (hsl.symm.trans g3)
              exact e4 (Or.inl ⟨this, e3⟩)
            have c2 : ¬ i + 1 = k + 1 := by omega
            have c3 : ¬ ((sl = .second ∧ i + 1 + 1 = k) ∨ ((∃ u, sm = .val u ∧ u.category = 2) ∧ i + 1 = k + 2)) := fun z => by
              rcases z with ⟨z1, z2⟩ | ⟨z1, z2⟩
              · subst z2
                rw [z1] at hsl
                obtain ⟨j0, u0, y1, y2, y3⟩ := w2 _ hsl
                have : j0 = i + 1 := by omega
                subst this
                rw [g3] at y2; cases y2
              · omega
            rw [if_neg c1, if_neg c2, if_neg c3]
            exact g3
    · rw [k3] at g1
      split at g1
      · cases g1
      · rename_i e1
        split at g1
        · rename_i e2
          exact ⟨k, w, e2, by rw [k3]; simp, hc⟩
        · rename_i e2
          split at g1
          · cases g1
          · rename_i e4
            obtain ⟨j, u, z1, z2, z3⟩ := w2 i g1
            refine ⟨j, u, z1, ?_, z3⟩
            rw [k3]
            have c1 : ¬ j = k := by omega
            have c2 : ¬ j = k + 1 := fun e => by
              subst e
              exact e4 (Or.inr ⟨⟨u, Option.some.inj (hsm.symm.trans z2), z3⟩, by omega⟩)
            have c3 : ¬ ((sl = .second ∧ j + 1 = k) ∨ ((∃ u, sm = .val u ∧ u.category = 2) ∧ j = k + 2)) := fun z => by
              rcases z with ⟨y1, y2⟩ | ⟨⟨u', y1, y2⟩, y3⟩
              · exact e1 (z1.trans y2)
              · subst y3
                have g5 := w1 (k + 1) u' (y1 ▸ hsm) y2
                rw [z2] at g5; cases g5
            rw [if_neg c1, if_neg c2, if_neg c3]
            exact z2
    · rw [List.getElem?_set] at g
      split at g
      · rename_i e
        subst e
        have : k + 1 < (L.set k (.val v)).length := by simp [hk1]
        rw [if_pos this] at g
        cases g
        show A'[k + 1]? = some .second
        rw [k3]; simp
      · rename_i e
        have e' : ¬ i = k + 1 := fun z => e z.symm
        rw [List.getElem?_set] at g
        split at g
        · rename_i e0
          subst e0
          cases g
          exact ⟨w, hv, by rw [k3]; simp⟩
        · rename_i e0
          have e0' : ¬ i = k := fun z => e0 z.symm
          have g2 := hl i s g
          rw [k3, if_neg e0', if_neg e']
          split
          · rename_i e4
            cases s with
            | unset => trivial
            | second =>
              exfalso
              have g2' : A[i]? = some .second := g2
              rcases e4 with ⟨y1, y2⟩ | ⟨⟨u', y1, y2⟩, y3⟩
              · obtain ⟨j0, u0, x1, x2, x3⟩ := w2 k (y1 ▸ hsl)
                have : i = j0 := by omega
                subst this
                rw [x2] at g2'; cases g2'
              · subst y3
                rw [g] at q3
                simp [isSec] at q3
            | val v0 =>
              exfalso
              obtain ⟨w0, x1, x2⟩ := g2
              rcases e4 with ⟨y1, y2⟩ | ⟨⟨u', y1, y2⟩, y3⟩
              · obtain ⟨j0, u0, z1, z2, z3⟩ := w2 k (y1 ▸ hsl)
                have : i = j0 := by omega
                subst this
                have hw0 : w0 = u0 := by rw [x2] at z2; cases z2; rfl
                have hcat : v0.category = 2 := by rw [← x1.cat, hw0]; exact z3
                subst y2
                have : L[i + 1 - 1]? = some (.val v0) := g
                rw [this] at q2
                simp [isC2, hcat] at q2
              · subst y3
                have g5 := w1 (k + 1) u' (y1 ▸ hsm) y2
                rw [x2] at g5; cases g5
          · exact g2
  · cases hs
/-! The frame with which a method is entered -/
theorem entA_app (ws : List Value) : ∀ acc : Array Slot, ws.foldl (fun acc v => if v.category = 2 then (acc.push (.val v)).push .second else acc.push (.val v)) acc = acc ++ (entA ws).toArray := by
  induction ws with
  | nil => intro acc; simp [entA]
  | cons v r ih =>
    intro acc
    rw [List.foldl_cons, ih]
    show _ = acc ++ (if v.category = 2 then .val v :: .second :: entA r else .val v :: entA r).toArray
    by_cases h : v.category = 2
    · rw [if_pos h, if_pos h]; simp
    · rw [if_neg h, if_neg h]; simp
theorem argsToLocals_eq (ws : List Value) (n : Nat) : argsToLocals ws.toArray n = (entL ws n).toArray := by
  unfold argsToLocals entL
  have h := entA_app ws #[]
  simp only [List.foldl_toArray', List.size_toArray] at *
  simp [h]
theorem entA_len {ρ : List Addr} : ∀ {v w : List Value}, SR ρ v w → (entA w).length = (entA v).length
  | [], _, h => by cases h; rfl
  | _ :: _, _, ⟨w, ws, h1, h2, h3⟩ => by
    subst h1
    unfold entA
    rw [h2.cat]
    split <;> simp [entA_len h3]
theorem entA_rel {ρ : List Addr} : ∀ {v w : List Value}, SR ρ v w → ∀ (m i : Nat) (s : Slot), (entA v ++ List.replicate m .unset)[i]? = some s → SlR ρ s (entA w ++ List.replicate m .unset)[i]?
  | [], _, h, m, i, s, q => by
    cases h
    simp only [entA, List.nil_append] at q ⊢
    rw [List.getElem?_replicate] at q
    split at q
    · cases q; trivial
    · cases q
  | v :: vs, _, ⟨w, ws, h1, h2, h3⟩, m, i, s, q => by
    subst h1
    unfold entA at q ⊢
    rw [h2.cat]
    split
    · rename_i c
      rw [if_pos c] at q
      match i, q with
      | 0, q => simp at q; subst q; exact ⟨w, h2, by simp⟩
      | 1, q => simp at q; subst q; simp [SlR]
      | i + 2, q => simp at q ⊢; exact entA_rel h3 m i s q
    · rename_i c
      rw [if_neg c] at q
      match i, q with
      | 0, q => simp at q; subst q; exact ⟨w, h2, by simp⟩
      | i + 1, q => simp at q ⊢; exact entA_rel h3 m i s q
theorem entA_wf : ∀ (ws : List Value) (m : Nat), (∀ (i : Nat) w, (entA ws ++ List.replicate m .unset)[i]? = some (.val w) → w.category = 2 → (entA ws ++ List.replicate m .unset)[i + 1]? = some .second) ∧
    ∀ (i : Nat), (entA ws ++ List.replicate m .unset)[i]? = some .second → ∃ j w, i = j + 1 ∧ (entA ws ++ List.replicate m .unset)[j]? = some (.val w) ∧ w.category = 2
  | [], m => by
    constructor
    · intro i w q
      simp only [entA, List.nil_append, List.getElem?_replicate] at q
      split at q <;> cases q
    · intro i q
      simp only [entA, List.nil_append, List.getElem?_replicate] at q
      split at q <;> cases q
  | v :: vs, m => by
    obtain ⟨h1, h2⟩ := entA_wf vs m
    unfold entA
    split
    · rename_i c
      constructor
      · intro i w q
        match i, q with
        | 0, q => intro _; simp
        | 1, q => simp at q
        | i + 2, q => simp at q ⊢; exact h1 i w q
      · intro i q
        match i, q with
        | 0, q => simp at q
        | 1, q => exact ⟨0, v, rfl, by simp, c⟩
        | i + 2, q =>
          simp at q
          obtain ⟨j, w, e, g1, g2⟩ := h2 i q
          exact ⟨j + 2, w, by omega, by simpa using g1, g2⟩
    · rename_i c
      constructor
      · intro i w q
        match i, q with
        | 0, q => intro z; simp at q; subst q; exact absurd z c
        | i + 1, q => simp at q ⊢; exact h1 i w q
      · intro i q
        match i, q with
        | 0, q => simp at q
        | i + 1, q =>
          simp at q
          obtain ⟨j, w, e, g1, g2⟩ := h2 i q
          exact ⟨j + 1, w, by omega, by simpa using g1, g2⟩
theorem LR.enter {ρ : List Addr} {v w : List Value} (h : SR ρ v w) {n : Nat} (hn : (entA v).length ≤ n) : LR ρ (entL v n) (argsToLocals w.toArray n) ∧ (argsToLocals w.toArray n).size = n := by
  rw [argsToLocals_eq]
  have hl := entA_len h
  refine ⟨⟨by simp [entL, hl], ?_, fun i s q => ?_⟩, by simp [entL, hl]; omega⟩
  · obtain ⟨h1, h2⟩ := entA_wf w (n - (entA w).length)
    exact ⟨fun i u q c => by simpa [entL] using h1 i u (by simpa [entL] using q) c, fun i q => by
      obtain ⟨j, u, e, g1, g2⟩ := h2 i (by simpa [entL] using q)
      exact ⟨j, u, e, by simpa [entL] using g1, g2⟩⟩
  · unfold entL at q ⊢
    rw [hl]
    simpa using entA_rel h _ i s q
end Jvm.Own
namespace Jvm.RoadKit
open Sem ClassFile Op Lib Jvm.Stand Jvm.Free Jvm.LawKit
section New
variable {p : Program} {l : Launch} {e : Env} {R : Room} {s : State} {m : MethodId} {args : Array Value} {below : List Frame} {meth : Method} {c : Code} {T : State} {locs : List Loc} {cells slots : Nat}
theorem retI (X : Stand p l e R s m args below meth c T locs cells slots) (hx : p.tables.exec = Jvm.exec) {pc : Nat} {Ls : Array Slot} {z : Int32} {rest : List Value} (hret : meth.sig.returnType = some .int) (hd : decode c.code pc = .ok (.ireturn, 1)) {fs : List Frame}
    (hl : ∀ (f : JFrame) (acts : List Action), f.method = m → f.locked = none → f.entered = [] → (doReturn e (T.setTop f) acts (some (.int z))).1 = T.setFrames fs) : Steps p.tables e below (T.setTop (mkF m pc Ls (.int z :: rest))) (T.setFrames fs) := by
  have hm' : T.vm.method? m = some meth := X.method'
  have hn : narrow .int (.int z) = .int z := rfl
  show Steps p.tables e below (T.setTop { method := m, pc := pc, locals := Ls, stack := _ :: rest, locked := none }) _
  jvm_step X.here [X.here.top, hx, hd, hm', hret, hn]
  first | (intro acts; rw [hl _ acts rfl rfl rfl]) | rw [hl _ _ rfl rfl rfl]
  exact Steps.refl _
end New
end Jvm.RoadKit
namespace Jvm.Own
open Jvm Jvm.ClassFile Sem Op Lib Jvm.Free Jvm.Stand Jvm.LawKit Jvm.RoadKit Bundle
/-! The plain heap and the real one -/
def tyA (b : Bool) : FieldType := if b then .boolean else .int
def CR (P : PD) (Z : State) (h : Heap) (ρ : List Addr) (a : Addr) : ACell → Prop
  | .inl (c, fs) => ∃ cd, P.cls[c]? = some cd ∧ Exa Z h a cd.1 ∧ fs.length = cd.2.2.length ∧ ∀ (i : Nat) v fd, fs[i]? = some v → cd.2.2[i]? = some fd → ∃ w, VR ρ v w ∧ Fld Z h a cd.1 fd.1 fd.2.1 w
  | .inr (.inl (b, L)) => ∃ cl, Arr Z h a cl (tyA b) ∧ cl.slots.size = L.length ∧ L.length < 2 ^ 31 ∧ ∀ (i : Nat) x, L[i]? = some x → cl.slots[i]? = some (.int x)
  | .inr (.inr L) => ∃ cl, Arr Z h a cl .long ∧ cl.slots.size = L.length ∧ L.length < 2 ^ 31 ∧ ∀ (i : Nat) x, L[i]? = some x → cl.slots[i]? = some (.long x)
def HR (P : PD) (Z : State) (n0 : Nat) (h : Heap) (ρ : List Addr) (H : AHeap) : Prop :=
  n0 ≤ h.size ∧ ρ.length = H.length ∧ (∀ (i j : Nat) a, ρ[i]? = some a → ρ[j]? = some a → i = j) ∧ (∀ (k : Nat) a, ρ[k]? = some a → P.nr ≤ k → n0 ≤ a) ∧ ∀ (k : Nat) a c, ρ[k]? = some a → H[k]? = some c → CR P Z h ρ a c
section Heaps
variable {P : PD} {Z : State} {n0 : Nat} {h h' : Heap} {ρ : List Addr} {H : AHeap} {a : Addr} {k : Nat} {a0 : Array Value}
theorem CR.lt {c : ACell} (q : CR P Z h ρ a c) : a < h.size := by
  match c, q with
  | .inl (_, _), q => obtain ⟨cd, -, E, -⟩ := q; exact E.lt
  | .inr (.inl (_, _)), q => obtain ⟨cl, A, -⟩ := q; exact A.lt
  | .inr (.inr _), q => obtain ⟨cl, A, -⟩ := q; exact A.lt
theorem HR.at (q : HR P Z n0 h ρ H) {c : ACell} (hc : H[k]? = some c) : ∃ a, ρ[k]? = some a ∧ CR P Z h ρ a c := by
  obtain ⟨-, q1, -, -, q4⟩ := q
  have hk : k < ρ.length := by rw [q1]; exact (List.getElem?_eq_some_iff.mp hc).1
  exact ⟨ρ[k], List.getElem?_eq_getElem hk, q4 k _ c (List.getElem?_eq_getElem hk) hc⟩
theorem HR.lt (q : HR P Z n0 h ρ H) (hk : ρ[k]? = some a) : a < h.size := by
  obtain ⟨-, q1, -, -, q4⟩ := q
  have hk' : k < H.length := by rw [← q1]; exact (List.getElem?_eq_some_iff.mp hk).1
  exact (q4 k a _ hk (List.getElem?_eq_getElem hk')).lt
theorem CR.grow {t : List Addr} {c : ACell} (E : Ext h h') (q : CR P Z h ρ a c) : CR P Z h' (ρ ++ t) a c := by
  match c, q with
  | .inl (_, _), ⟨cd, q1, q2, q3, q4⟩ => exact ⟨cd, q1, q2.ext E, q3, fun i v fd g1 g2 => by obtain ⟨w, z1, z2⟩ := q4 i v fd g1 g2; exact ⟨w, z1.mono, z2.ext E⟩⟩
  | .inr (.inl (_, _)), ⟨cl, q1, q2⟩ => exact ⟨cl, q1.ext E, q2⟩
  | .inr (.inr _), ⟨cl, q1, q2⟩ => exact ⟨cl, q1.ext E, q2⟩
theorem HR.push {c : ACell} (q : HR P Z n0 h ρ H) (E : Ext h h') (hc : CR P Z h' (ρ ++ [h.size]) h.size c) : HR P Z n0 h' (ρ ++ [h.size]) (H ++ [c]) := by
  have q0 := q
  obtain ⟨q1, q2, q3, q4, q5⟩ := q
  have old : ∀ (i : Nat) b, (ρ ++ [h.size])[i]? = some b → (ρ[i]? = some b ∧ b < h.size) ∨ (i = ρ.length ∧ b = h.size) := fun i b g => by
    rw [List.getElem?_append] at g
    split at g
    · exact Or.inl ⟨g, q0.lt g⟩
    · rename_i z
      right
      have : i - ρ.length = 0 := by
        rcases Nat.eq_zero_or_pos (i - ρ.length) with y | y
        · exact y
        · rw [List.getElem?_eq_none (by simp; omega)] at g; cases g
      rw [this] at g
      simp at g
      exact ⟨by omega, g.symm⟩
  refine ⟨Nat.le_trans q1 E.1, by simp [q2], fun i j b g1 g2 => ?_, fun i b g1 g2 => ?_, fun i b c' g1 g2 => ?_⟩
  · rcases old i b g1 with ⟨y1, y2⟩ | ⟨y1, y2⟩ <;> rcases old j b g2 with ⟨z1, z2⟩ | ⟨z1, z2⟩
    · exact q3 i j b y1 z1
    · exact absurd (z2 ▸ y2) (Nat.lt_irrefl _)
    · exact absurd (y2 ▸ z2) (Nat.lt_irrefl _)
    · rw [y1, z1]
  · rcases old i b g1 with ⟨y1, y2⟩ | ⟨y1, y2⟩
    · exact q4 i b y1 g2
    · rw [y2]; exact q1
  · rcases old i b g1 with ⟨y1, y2⟩ | ⟨y1, y2⟩
    · have hi : i < H.length := by rw [← q2]; exact (List.getElem?_eq_some_iff.mp y1).1
      rw [List.getElem?_append_left hi] at g2
      exact (q5 i b c' y1 g2).grow E
    · subst y1 y2
      rw [q2] at g2
      simp at g2
      subst g2
      exact hc
theorem CR.other {v : Value} {sl : Nat} {b : Addr} {c : ACell} (W : Wr h h' a sl v) (ne : b ≠ a) (q : CR P Z h ρ b c) : CR P Z h' ρ b c := by
  match c, q with
  | .inl (_, _), ⟨cd, q1, q2, q3, q4⟩ => exact ⟨cd, q1, q2.wr W, q3, fun i v fd g1 g2 => by obtain ⟨w, z1, z2⟩ := q4 i v fd g1 g2; exact ⟨w, z1, z2.other W (Or.inl ne)⟩⟩
  | .inr (.inl (_, _)), ⟨cl, q1, q2⟩ => exact ⟨cl, q1.other W ne, q2⟩
  | .inr (.inr _), ⟨cl, q1, q2⟩ => exact ⟨cl, q1.other W ne, q2⟩
theorem HR.set {v : Value} {sl : Nat} {c : ACell} (q : HR P Z n0 h ρ H) (hk : ρ[k]? = some a) (W : Wr h h' a sl v) (hc : CR P Z h' ρ a c) : HR P Z n0 h' ρ (H.set k c) := by
  obtain ⟨q1, q2, q3, q4, q5⟩ := q
  refine ⟨by rw [W.size]; exact q1, by simp [q2], q3, q4, fun i b c' g1 g2 => ?_⟩
  rw [List.getElem?_set] at g2
  split at g2
  · rename_i e
    subst e
    split at g2
    · cases g2
      rw [hk] at g1; cases g1
      exact hc
    · cases g2
  · rename_i e
    exact (q5 i b c' g1 g2).other W fun z => e (q3 k i a hk (z ▸ g1))
theorem nodup_ne : ∀ {l : List String}, nodup l = true → ∀ {i j : Nat} {x y : String}, l[i]? = some x → l[j]? = some y → i ≠ j → x ≠ y
  | [], _, i, j, x, y, h1, _, _ => by simp at h1
  | z :: r, hn, i, j, x, y, h1, h2, ne => by
    simp only [nodup, Bool.and_eq_true, Bool.not_eq_true', List.contains_eq_mem, decide_eq_false_iff_not] at hn
    match i, j, h1, h2, ne with
    | 0, 0, _, _, ne => exact absurd rfl ne
    | 0, j + 1, h1, h2, _ => simp at h1 h2; subst h1; exact fun e => hn.1 (e ▸ List.mem_of_getElem? h2)
    | i + 1, 0, h1, h2, _ => simp at h1 h2; subst h2; exact fun e => hn.1 (e ▸ List.mem_of_getElem? h1)
    | i + 1, j + 1, h1, h2, ne => simp at h1 h2; exact nodup_ne hn.2 h1 h2 (fun e => ne (by rw [e]))
theorem laid_of {C : String} {f : FD} (w : (fWord C f).before a0 Z = true) : Laid Z a0 C C f.1 f.2.1 := by
  unfold fWord at w
  split at w
  · exact Or.inr w
  · exact Or.inl w
theorem HR.putF {c j : Nat} {fs : List Value} {cd : CD} {fd : FD} {v w : Value} (q : HR P Z n0 h ρ H) (hk : ρ[k]? = some a) (hc : H[k]? = some (.inl (c, fs))) (hcd : P.cls[c]? = some cd) (hfd : cd.2.2[j]? = some fd)
    (hck : cChk cd = true) (hl : ∀ f ∈ cd.2.2, (fWord cd.1 f).before a0 Z = true) (W : Wr h h' a (RoadKit.slotOf Z cd.1 fd.1 fd.2.1) w) (hv : VR ρ v w) : HR P Z n0 h' ρ (H.set k (.inl (c, fs.set j v))) := by
  obtain ⟨a', ha, cr⟩ := q.at hc
  rw [hk] at ha; cases ha
  obtain ⟨cd', q1, q2, q3, q4⟩ := cr
  rw [hcd] at q1; cases q1
  refine q.set hk W ⟨cd, hcd, q2.wr W, by simp [q3], fun i v0 fd' g1 g2 => ?_⟩
  simp only [cChk, Bool.and_eq_true, List.all_eq_true] at hck
  obtain ⟨n1, n2⟩ := hck
  by_cases e : j = i
  · subst e
    rw [hfd] at g2; cases g2
    rw [List.getElem?_set] at g1
    split at g1
    · split at g1
      · cases g1
        rename_i z
        obtain ⟨w0, -, F⟩ := q4 j _ fd (List.getElem?_eq_getElem z) hfd
        exact ⟨w, hv, F.same W⟩
      · cases g1
    · rename_i z; exact absurd rfl z
  · rw [List.getElem?_set_ne e] at g1
    obtain ⟨w0, z1, F⟩ := q4 i v0 fd' g1 g2
    refine ⟨w0, z1, F.other W (Or.inr ?_)⟩
    have m1 := List.mem_of_getElem? hfd
    have m2 := List.mem_of_getElem? g2
    have f1 := n2 fd m1
    have f2 := n2 fd' m2
    simp only [fChk, Bool.and_eq_true, decide_eq_true_eq] at f1 f2
    refine slot_ne (laid_of (hl fd' m2)) (laid_of (hl fd m1)) ?_ f2.1 f1.1
    exact nodup_ne n1 (i := i) (j := j) (by simp [g2]) (by simp [hfd]) (fun z => e z.symm)
theorem HR.wrI {b : Bool} {L : List Int32} {i : Nat} {x : Int32} (q : HR P Z n0 h ρ H) (hk : ρ[k]? = some a) (hc : H[k]? = some (.inr (.inl (b, L)))) (W : Wr h h' a i (.int x)) : HR P Z n0 h' ρ (H.set k (.inr (.inl (b, L.set i x)))) := by
  obtain ⟨a', ha, cr⟩ := q.at hc
  rw [hk] at ha; cases ha
  obtain ⟨cl, A, q2, q3, q4⟩ := cr
  have lt : i < cl.slots.size := by
    obtain ⟨cl', z1, -, z3, -⟩ := W
    rw [A.1] at z1; cases z1
    exact z3
  refine q.set hk W ⟨_, A.same W, by simp [sz_set, q2], by simpa using q3, fun j y g => ?_⟩
  rw [List.getElem?_set] at g
  split at g
  · rename_i e
    subst e
    split at g
    · cases g; simp [Cell.setSlot, lt]
    · cases g
  · rename_i e
    have := q4 j y g
    simp [Cell.setSlot, Array.getElem?_setIfInBounds, e, this]
theorem HR.wrJ {L : List Int64} {i : Nat} {x : Int64} (q : HR P Z n0 h ρ H) (hk : ρ[k]? = some a) (hc : H[k]? = some (.inr (.inr L))) (W : Wr h h' a i (.long x)) : HR P Z n0 h' ρ (H.set k (.inr (.inr (L.set i x)))) := by
  obtain ⟨a', ha, cr⟩ := q.at hc
  rw [hk] at ha; cases ha
  obtain ⟨cl, A, q2, q3, q4⟩ := cr
  have lt : i < cl.slots.size := by
    obtain ⟨cl', z1, -, z3, -⟩ := W
    rw [A.1] at z1; cases z1
    exact z3
  refine q.set hk W ⟨_, A.same W, by simp [sz_set, q2], by simpa using q3, fun j y g => ?_⟩
  rw [List.getElem?_set] at g
  split at g
  · rename_i e
    subst e
    split at g
    · cases g; simp [Cell.setSlot, lt]
    · cases g
  · rename_i e
    have := q4 j y g
    simp [Cell.setSlot, Array.getElem?_setIfInBounds, e, this]
end Heaps
theorem SR.int {ρ : List Addr} {x : Int32} {S Sc : List Value} (h : SR ρ (.int x :: S) Sc) : ∃ Sc', Sc = .int x :: Sc' ∧ SR ρ S Sc' := by
  obtain ⟨w, ws, h1, h2, h3⟩ := h
  exact ⟨ws, by rw [h1, show w = .int x from h2], h3⟩
theorem SR.long {ρ : List Addr} {x : Int64} {S Sc : List Value} (h : SR ρ (.long x :: S) Sc) : ∃ Sc', Sc = .long x :: Sc' ∧ SR ρ S Sc' := by
  obtain ⟨w, ws, h1, h2, h3⟩ := h
  exact ⟨ws, by rw [h1, show w = .long x from h2], h3⟩
theorem SR.ref {ρ : List Addr} {x : Nat} {S Sc : List Value} (h : SR ρ (.ref x :: S) Sc) : ∃ a Sc', ρ[x]? = some a ∧ Sc = .ref a :: Sc' ∧ SR ρ S Sc' := by
  obtain ⟨w, ws, h1, ⟨a, h2, h4⟩, h3⟩ := h
  exact ⟨a, ws, h2, by rw [h1, h4], h3⟩
theorem rdA_spec {α : Type} {L : List α} {j : Int32} {x : α} (h : rdA L j = some x) : ¬ j < 0 ∧ L[j.toNatClampNeg]? = some x := by
  unfold rdA at h
  split at h
  · cases h
  · rename_i q; exact ⟨q, h⟩
theorem wrA_spec {α : Type} {L L' : List α} {j : Int32} {x : α} (h : wrA L j x = some L') : ¬ j < 0 ∧ j.toNatClampNeg < L.length ∧ L' = L.set j.toNatClampNeg x := by
  unfold wrA at h
  split at h
  · cases h
  · rename_i q
    split at h
    · rename_i z; cases h; exact ⟨q, z, rfl⟩
    · cases h
end Jvm.Own
namespace Jvm.Own
open Jvm Jvm.ClassFile Sem Op Lib Jvm.Free Jvm.Stand Jvm.LawKit Jvm.RoadKit Bundle
theorem st1_len {L L' : List Slot} {k : Nat} {v : Value} (h : st1 L k v = some L') : L'.length = L.length := by
  unfold st1 at h
  split at h
  · cases h; simp
  · cases h
theorem st2_len {L L' : List Slot} {k : Nat} {v : Value} (h : st2 L k v = some L') : L'.length = L.length := by
  unfold st2 at h
  split at h
  · cases h; simp
  · cases h
theorem lrem_mod (x y : Int64) : x - (x / y) * y = x % y := by
  apply Int64.toInt_inj.mp
  have h1 := Int64.le_toInt (x % y)
  have h2 := Int64.toInt_lt (x % y)
  rw [Int64.toInt_sub, Int64.toInt_mul, Int64.toInt_div, Int.bmod_mul_bmod, Int.sub_bmod_bmod, Int.mul_comm (x.toInt.tdiv y.toInt), ← Int.tmod_def, ← Int64.toInt_mod]
  exact Int.bmod_eq_of_le_mul_two (by omega) (by omega)
theorem putOk_sim {ρ : List Addr} {ty : FieldType} {v w : Value} (h : putOk ty v = true) (hv : VR ρ v w) : narrow ty w = w ∧ fits ty w = true := by
  cases ty <;> cases v <;> first | (simp [putOk] at h; done) | skip
  · cases hv; exact ⟨rfl, rfl⟩
  · cases hv; exact ⟨rfl, rfl⟩
  · rename_i x
    cases hv
    simp only [putOk, Bool.or_eq_true, beq_iff_eq] at h
    rcases h with rfl | rfl
    · exact ⟨rfl, rfl⟩
    · exact ⟨rfl, rfl⟩
  · obtain ⟨a, -, rfl⟩ := hv; exact ⟨rfl, rfl⟩
theorem dflt_sim {ρ : List Addr} {ty : FieldType} (h : dfOk ty = true) : VR ρ (dflt ty) (defaultValue ty) := by
  cases ty <;> first | (simp [dfOk] at h; done) | exact rfl
theorem fieldOf_spec {P : PD} {c a : Nat} {cd : CD} {f : FD} (h1 : P.cls[c]? = some cd) (h2 : cd.2.2[a]? = some f) : fieldOf P c a = some f := by simp [fieldOf, h1, h2]
theorem in_wordsOf {P : PD} {d : MD} {x : Nat × It} {w : Jvm.Cond} (hd : d ∈ P.mth) (hx : x ∈ d.code) (hw : w ∈ iWords P d x) : w ∈ wordsOf P :=
  List.mem_append_right _ (List.mem_flatMap.mpr ⟨d, hd, List.mem_flatMap.mpr ⟨x, hx, hw⟩⟩)
theorem in_wordsC {P : PD} {cd : CD} {w : Jvm.Cond} (hd : cd ∈ P.cls) (hw : w ∈ cWords cd) : w ∈ wordsOf P :=
  List.mem_append_left _ (List.mem_append_left _ (List.mem_flatMap.mpr ⟨cd, hd, hw⟩))
theorem in_wordsM {P : PD} {y : MD} {j : Nat} {w : Jvm.Cond} (hd : P.mth[j]? = some y) (hj : 0 < j) (hw : w ∈ mWords y) : w ∈ wordsOf P := by
  refine List.mem_append_left _ (List.mem_append_right _ (List.mem_flatMap.mpr ⟨y, ?_, hw⟩))
  have : (P.mth.drop 1)[j - 1]? = some y := by rw [List.getElem?_drop]; rw [show 1 + (j - 1) = j by omega]; exact hd
  exact List.mem_of_getElem? this
theorem fWord_in {cd : CD} {f : FD} (h : f ∈ cd.2.2) : fWord cd.1 f ∈ cWords cd := List.mem_cons_of_mem _ (List.mem_cons_of_mem _ (List.mem_map.mpr ⟨f, h, rfl⟩))
theorem cChk_of {P : PD} (hP : chk P = true) {cd : CD} (h : cd ∈ P.cls) : cChk cd = true := by
  simp only [chk, Bool.and_eq_true, List.all_eq_true] at hP
  exact hP.1 cd h
theorem mChk_of {P : PD} (hP : chk P = true) {d : MD} (h : d ∈ P.mth) : mChk P d = true := by
  simp only [chk, Bool.and_eq_true, List.all_eq_true] at hP
  exact hP.2 d h
theorem cid_of {P : PD} (hP : chk P = true) {d : MD} (h : d ∈ P.mth) {cd : CD} (hc : P.cls[d.cid]? = some cd) : cd.1 = d.name.cls := by
  have := mChk_of hP h
  simp only [mChk, Bool.and_eq_true] at this
  have h4 := this.1.1.1.2
  unfold clsChk at h4
  rw [hc] at h4
  simpa using h4
section Step
variable {P : PD} {Z : State} {n0 : Nat} {a0 : Array Value} {l : Launch} {p : Program} {e : Env} {R : Room} {s : State} {m : MethodId} {args : Array Value} {below : List Frame} {meth : Method} {c : Code} {T : State} {locs : List Loc} {cells slots : Nat} {d : MD}
def Nxt (P : PD) (Z : State) (n0 : Nat) (l : Launch) (p : Program) (e : Env) (R : Room) (s : State) (m : MethodId) (args : Array Value) (below : List Frame) (meth : Method) (c : Code) (T : State) (cells slots : Nat) (ρ : List Addr) (g : JFrame) (pc' : Nat) (L L' : List Slot) (S' : List Value) (H1 : AHeap) : Prop :=
  ∃ T' locs' A' Sc', Stand p l e R s m args below meth c T' locs' cells slots ∧ L'.length = L.length ∧ LR ρ L' A' ∧ SR ρ S' Sc' ∧ HR P Z n0 T'.heap ρ H1 ∧ Fr n0 locs' ∧
    ∀ target, Steps p.tables e below (T'.setTop (mkF m pc' A' Sc')) target → Steps p.tables e below (T.setTop g) target
theorem Nxt.pure {ρ : List Addr} {H : AHeap} {g : JFrame} {pc' : Nat} {L L' : List Slot} {S' Sc' : List Value} {A' : Array Slot} (X : Stand p l e R s m args below meth c T locs cells slots) (hl : L'.length = L.length) (hL : LR ρ L' A') (hS : SR ρ S' Sc') (hH : HR P Z n0 T.heap ρ H) (hF : Fr n0 locs)
    (k : ∀ target, Steps p.tables e below (T.setTop (mkF m pc' A' Sc')) target → Steps p.tables e below (T.setTop g) target) : Nxt P Z n0 l p e R s m args below meth c T cells slots ρ g pc' L L' S' H :=
  ⟨T, locs, A', Sc', X, hl, hL, hS, hH, hF, k⟩
theorem Nxt.mem {ρ : List Addr} {H1 : AHeap} {g : JFrame} {pc' : Nat} {L L' : List Slot} {S' Sc' : List Value} {A' : Array Slot} {T' : State} {locs' : List Loc} (X : Stand p l e R s m args below meth c T' locs' cells slots) (hl : L'.length = L.length) (hL : LR ρ L' A') (hS : SR ρ S' Sc') (hH : HR P Z n0 T'.heap ρ H1) (hF : Fr n0 locs')
    (k : ∀ target, Steps p.tables e below (T'.setTop (mkF m pc' A' Sc')) target → Steps p.tables e below (T.setTop g) target) : Nxt P Z n0 l p e R s m args below meth c T cells slots ρ g pc' L L' S' H1 :=
  ⟨T', locs', A', Sc', X, hl, hL, hS, hH, hF, k⟩
set_option maxHeartbeats 4000000 in
theorem stepX (X : Stand p l e R s m args below meth c T locs cells slots) (hx : p.tables.exec = Jvm.exec) (hZ : Z.Warmed39 s.vm) (hown : s.vm.findClass d.name.cls = some m.cls) (hnm : meth.name = d.name.name) (hP : chk P = true) (hW : ∀ w ∈ wordsOf P, w.before a0 Z = true) (hdm : d ∈ P.mth)
    {pc len a : Nat} {er : List Bool} {b : Int} {i : Instr} (hit : (pc, i, len, er, a, b) ∈ d.code) (hd : decode c.code pc = .ok (i, len)) (hlen : lenOk i len = true) {ρ : List Addr} {L L' : List Slot} {S S' Sc : List Value} {H H1 : AHeap} {A : Array Slot}
    (hL : LR ρ L A) (hS : SR ρ S Sc) (hH : HR P Z n0 T.heap ρ H) (hF : Fr n0 locs) (h : xI P (d.name.name == "<init>") d.cid i a b L S H = some (L', S', H1)) :
    Nxt P Z n0 l p e R s m args below meth c T cells slots ρ (mkF m pc A Sc) (pc + len) L L' S' H1 := by
  have hWi : ∀ w ∈ iWords P d (pc, i, len, er, a, b), w.before a0 Z = true := fun w q => hW w (in_wordsOf hdm hit q)
  cases i with
  | aload_n k =>
    obtain rfl : len = 1 := by simpa [lenOk] using hlen
    simp only [xI] at h
    split at h
    · rename_i x q
      cases h
      obtain ⟨w, hv, hg⟩ := hL.get q
      obtain ⟨ad, h1, rfl⟩ := hv
      exact Nxt.pure X rfl hL ⟨_, _, rfl, ⟨ad, h1, rfl⟩, hS⟩ hH hF (fun t z => XS.aloadN (g := mkF m pc A Sc) X.here hx rfl hd hg rfl z)
    · cases h
  | aload k =>
    obtain rfl : len = 2 := by simpa [lenOk] using hlen
    simp only [xI] at h
    split at h
    · rename_i x q
      cases h
      obtain ⟨w, hv, hg⟩ := hL.get q
      obtain ⟨ad, h1, rfl⟩ := hv
      exact Nxt.pure X rfl hL ⟨_, _, rfl, ⟨ad, h1, rfl⟩, hS⟩ hH hF (fun t z => XS.aload (g := mkF m pc A Sc) X.here hx rfl hd hg rfl z)
    · cases h
  | iload_n k =>
    obtain rfl : len = 1 := by simpa [lenOk] using hlen
    simp only [xI] at h
    split at h
    · rename_i x q
      cases h
      obtain ⟨w, hv, hg⟩ := hL.get q
      obtain rfl : w = .int _ := hv
      exact Nxt.pure X rfl hL ⟨_, _, rfl, rfl, hS⟩ hH hF (fun t z => XS.iloadN (g := mkF m pc A Sc) X.here hx rfl hd hg z)
    · cases h
  | iload k =>
    obtain rfl : len = 2 := by simpa [lenOk] using hlen
    simp only [xI] at h
    split at h
    · rename_i x q
      cases h
      obtain ⟨w, hv, hg⟩ := hL.get q
      obtain rfl : w = .int _ := hv
      exact Nxt.pure X rfl hL ⟨_, _, rfl, rfl, hS⟩ hH hF (fun t z => XS.iload (g := mkF m pc A Sc) X.here hx rfl hd hg z)
    · cases h
  | lload_n k =>
    obtain rfl : len = 1 := by simpa [lenOk] using hlen
    simp only [xI] at h
    split at h
    · rename_i x q
      cases h
      obtain ⟨w, hv, hg⟩ := hL.get q
      obtain rfl : w = .long _ := hv
      exact Nxt.pure X rfl hL ⟨_, _, rfl, rfl, hS⟩ hH hF (fun t z => XT.lloadN (g := mkF m pc A Sc) X.here hx rfl hd hg z)
    · cases h
  | lload k =>
    obtain rfl : len = 2 := by simpa [lenOk] using hlen
    simp only [xI] at h
    split at h
    · rename_i x q
      cases h
      obtain ⟨w, hv, hg⟩ := hL.get q
      obtain rfl : w = .long _ := hv
      exact Nxt.pure X rfl hL ⟨_, _, rfl, rfl, hS⟩ hH hF (fun t z => XT.lload (g := mkF m pc A Sc) X.here hx rfl hd hg z)
    · cases h
  | istore_n k =>
    obtain rfl : len = 1 := by simpa [lenOk] using hlen
    simp only [xI] at h
    split at h
    · rename_i x S0
      obtain ⟨L1, q, e1⟩ := Option.map_eq_some_iff.mp h
      cases e1
      obtain ⟨S2, rfl, h2⟩ := hS.int
      obtain ⟨A', z1, z2⟩ := store1_sim hL q (show VR ρ (.int x) (.int x) from rfl) rfl
      exact Nxt.pure X (st1_len q) z2 h2 hH hF (fun t z => XS.istoreN (g := mkF m pc A _) X.here hx rfl hd rfl z1 z)
    · cases h
  | istore k =>
    obtain rfl : len = 2 := by simpa [lenOk] using hlen
    simp only [xI] at h
    split at h
    · rename_i x S0
      obtain ⟨L1, q, e1⟩ := Option.map_eq_some_iff.mp h
      cases e1
      obtain ⟨S2, rfl, h2⟩ := hS.int
      obtain ⟨A', z1, z2⟩ := store1_sim hL q (show VR ρ (.int x) (.int x) from rfl) rfl
      exact Nxt.pure X (st1_len q) z2 h2 hH hF (fun t z => XS.istore (g := mkF m pc A _) X.here hx rfl hd rfl z1 z)
    · cases h
  | astore_n k =>
    obtain rfl : len = 1 := by simpa [lenOk] using hlen
    simp only [xI] at h
    split at h
    · rename_i x S0
      obtain ⟨L1, q, e1⟩ := Option.map_eq_some_iff.mp h
      cases e1
      obtain ⟨ad, S2, h1, rfl, h2⟩ := hS.ref
      obtain ⟨A', z1, z2⟩ := store1_sim hL q (show VR ρ (.ref x) (.ref ad) from ⟨ad, h1, rfl⟩) rfl
      exact Nxt.pure X (st1_len q) z2 h2 hH hF (fun t z => XS.astoreN (g := mkF m pc A _) X.here hx rfl hd rfl rfl z1 z)
    · cases h
  | astore k =>
    obtain rfl : len = 2 := by simpa [lenOk] using hlen
    simp only [xI] at h
    split at h
    · rename_i x S0
      obtain ⟨L1, q, e1⟩ := Option.map_eq_some_iff.mp h
      cases e1
      obtain ⟨ad, S2, h1, rfl, h2⟩ := hS.ref
      obtain ⟨A', z1, z2⟩ := store1_sim hL q (show VR ρ (.ref x) (.ref ad) from ⟨ad, h1, rfl⟩) rfl
      exact Nxt.pure X (st1_len q) z2 h2 hH hF (fun t z => XS.astore (g := mkF m pc A _) X.here hx rfl hd rfl rfl z1 z)
    · cases h
  | lstore_n k =>
    obtain rfl : len = 1 := by simpa [lenOk] using hlen
    simp only [xI] at h
    split at h
    · rename_i x S0
      obtain ⟨L1, q, e1⟩ := Option.map_eq_some_iff.mp h
      cases e1
      obtain ⟨S2, rfl, h2⟩ := hS.long
      obtain ⟨A', z1, z2⟩ := store2_sim hL q (show VR ρ (.long x) (.long x) from rfl) rfl
      exact Nxt.pure X (st2_len q) z2 h2 hH hF (fun t z => XT.lstoreN (g := mkF m pc A _) X.here hx rfl hd rfl z1 z)
    · cases h
  | lstore k =>
    obtain rfl : len = 2 := by simpa [lenOk] using hlen
    simp only [xI] at h
    split at h
    · rename_i x S0
      obtain ⟨L1, q, e1⟩ := Option.map_eq_some_iff.mp h
      cases e1
      obtain ⟨S2, rfl, h2⟩ := hS.long
      obtain ⟨A', z1, z2⟩ := store2_sim hL q (show VR ρ (.long x) (.long x) from rfl) rfl
      exact Nxt.pure X (st2_len q) z2 h2 hH hF (fun t z => XT.lstore (g := mkF m pc A _) X.here hx rfl hd rfl z1 z)
    · cases h
  | iinc k dd =>
    obtain rfl : len = 3 := by simpa [lenOk] using hlen
    simp only [xI] at h
    split at h
    · rename_i x q0
      obtain ⟨L1, q, e1⟩ := Option.map_eq_some_iff.mp h
      cases e1
      obtain ⟨w, hv, hg⟩ := hL.get q0
      obtain rfl : w = .int _ := hv
      obtain ⟨A', z1, z2⟩ := store1_sim hL q (show VR ρ (.int (x + Int32.ofInt dd)) (.int (x + Int32.ofInt dd)) from rfl) rfl
      exact Nxt.pure X (st1_len q) z2 hS hH hF (fun t z => XS.iinc (g := mkF m pc A Sc) X.here hx rfl hd hg z1 z)
    · cases h
  | iconst v =>
    obtain rfl : len = 1 := by simpa [lenOk] using hlen
    simp only [xI] at h
    cases h
    exact Nxt.pure X rfl hL ⟨_, _, rfl, rfl, hS⟩ hH hF (fun t z => XS.iconst (g := mkF m pc A Sc) X.here hx rfl hd z)
  | bipush v =>
    obtain rfl : len = 2 := by simpa [lenOk] using hlen
    simp only [xI] at h
    cases h
    exact Nxt.pure X rfl hL ⟨_, _, rfl, rfl, hS⟩ hH hF (fun t z => XS.bipush (g := mkF m pc A Sc) X.here hx rfl hd z)
  | sipush v =>
    obtain rfl : len = 3 := by simpa [lenOk] using hlen
    simp only [xI] at h
    cases h
    exact Nxt.pure X rfl hL ⟨_, _, rfl, rfl, hS⟩ hH hF (fun t z => XS.sipush (g := mkF m pc A Sc) X.here hx rfl hd z)
  | lconst v =>
    obtain rfl : len = 1 := by simpa [lenOk] using hlen
    simp only [xI] at h
    cases h
    exact Nxt.pure X rfl hL ⟨_, _, rfl, rfl, hS⟩ hH hF (fun t z => XT.lconst (g := mkF m pc A Sc) X.here hx rfl hd z)
  | ldc k =>
    obtain rfl : len = 2 := by simpa [lenOk] using hlen
    simp only [xI] at h
    cases h
    have w1 := hWi (.constant d.name.cls k (Int32.ofInt b)) (List.mem_singleton.mpr rfl)
    exact Nxt.pure X rfl hL ⟨_, _, rfl, rfl, hS⟩ hH hF (fun t z => X.ldcInt hx hown (mvT hZ w1) (g := mkF m pc A Sc) rfl hd t z)
  | ldc2_w k =>
    obtain rfl : len = 3 := by simpa [lenOk] using hlen
    simp only [xI] at h
    cases h
    have w1 := hWi (.constantLong d.name.cls k (Int64.ofInt b)) (List.mem_singleton.mpr rfl)
    exact Nxt.pure X rfl hL ⟨_, _, rfl, rfl, hS⟩ hH hF (fun t z => X.ldc2Long hx hown (mvT hZ w1) (g := mkF m pc A Sc) rfl hd t z)
  | iadd =>
    obtain rfl : len = 1 := by simpa [lenOk] using hlen
    simp only [xI] at h
    split at h
    · rename_i y x S0
      cases h
      obtain ⟨S1, rfl, h1⟩ := hS.int
      obtain ⟨S2, rfl, h2⟩ := h1.int
      exact Nxt.pure X rfl hL ⟨_, _, rfl, rfl, h2⟩ hH hF (fun t z => XS.iadd (g := mkF m pc A _) X.here hx rfl hd rfl z)
    · cases h
  | isub =>
    obtain rfl : len = 1 := by simpa [lenOk] using hlen
    simp only [xI] at h
    split at h
    · rename_i y x S0
      cases h
      obtain ⟨S1, rfl, h1⟩ := hS.int
      obtain ⟨S2, rfl, h2⟩ := h1.int
      exact Nxt.pure X rfl hL ⟨_, _, rfl, rfl, h2⟩ hH hF (fun t z => XS.isub (g := mkF m pc A _) X.here hx rfl hd rfl z)
    · cases h
  | imul =>
    obtain rfl : len = 1 := by simpa [lenOk] using hlen
    simp only [xI] at h
    split at h
    · rename_i y x S0
      cases h
      obtain ⟨S1, rfl, h1⟩ := hS.int
      obtain ⟨S2, rfl, h2⟩ := h1.int
      exact Nxt.pure X rfl hL ⟨_, _, rfl, rfl, h2⟩ hH hF (fun t z => XS.imul (g := mkF m pc A _) X.here hx rfl hd rfl z)
    · cases h
  | iand =>
    obtain rfl : len = 1 := by simpa [lenOk] using hlen
    simp only [xI] at h
    split at h
    · rename_i y x S0
      cases h
      obtain ⟨S1, rfl, h1⟩ := hS.int
      obtain ⟨S2, rfl, h2⟩ := h1.int
      exact Nxt.pure X rfl hL ⟨_, _, rfl, rfl, h2⟩ hH hF (fun t z => XS.iand (g := mkF m pc A _) X.here hx rfl hd rfl z)
    · cases h
  | ior =>
    obtain rfl : len = 1 := by simpa [lenOk] using hlen
    simp only [xI] at h
    split at h
    · rename_i y x S0
      cases h
      obtain ⟨S1, rfl, h1⟩ := hS.int
      obtain ⟨S2, rfl, h2⟩ := h1.int
      exact Nxt.pure X rfl hL ⟨_, _, rfl, rfl, h2⟩ hH hF (fun t z => XT.ior (g := mkF m pc A _) X.here hx rfl hd rfl z)
    · cases h
  | ixor =>
    obtain rfl : len = 1 := by simpa [lenOk] using hlen
    simp only [xI] at h
    split at h
    · rename_i y x S0
      cases h
      obtain ⟨S1, rfl, h1⟩ := hS.int
      obtain ⟨S2, rfl, h2⟩ := h1.int
      exact Nxt.pure X rfl hL ⟨_, _, rfl, rfl, h2⟩ hH hF (fun t z => XT.ixor (g := mkF m pc A _) X.here hx rfl hd rfl z)
    · cases h
  | ishl =>
    obtain rfl : len = 1 := by simpa [lenOk] using hlen
    simp only [xI] at h
    split at h
    · rename_i y x S0
      cases h
      obtain ⟨S1, rfl, h1⟩ := hS.int
      obtain ⟨S2, rfl, h2⟩ := h1.int
      exact Nxt.pure X rfl hL ⟨_, _, rfl, rfl, h2⟩ hH hF (fun t z => XT.ishl (g := mkF m pc A _) X.here hx rfl hd rfl z)
    · cases h
  | ishr =>
    obtain rfl : len = 1 := by simpa [lenOk] using hlen
    simp only [xI] at h
    split at h
    · rename_i y x S0
      cases h
      obtain ⟨S1, rfl, h1⟩ := hS.int
      obtain ⟨S2, rfl, h2⟩ := h1.int
      exact Nxt.pure X rfl hL ⟨_, _, rfl, rfl, h2⟩ hH hF (fun t z => XT.ishr (g := mkF m pc A _) X.here hx rfl hd rfl z)
    · cases h
  | iushr =>
    obtain rfl : len = 1 := by simpa [lenOk] using hlen
    simp only [xI] at h
    split at h
    · rename_i y x S0
      cases h
      obtain ⟨S1, rfl, h1⟩ := hS.int
      obtain ⟨S2, rfl, h2⟩ := h1.int
      exact Nxt.pure X rfl hL ⟨_, _, rfl, rfl, h2⟩ hH hF (fun t z => XT.iushr (g := mkF m pc A _) X.here hx rfl hd rfl z)
    · cases h
  | ladd =>
    obtain rfl : len = 1 := by simpa [lenOk] using hlen
    simp only [xI] at h
    split at h
    · rename_i y x S0
      cases h
      obtain ⟨S1, rfl, h1⟩ := hS.long
      obtain ⟨S2, rfl, h2⟩ := h1.long
      exact Nxt.pure X rfl hL ⟨_, _, rfl, rfl, h2⟩ hH hF (fun t z => XT.ladd (g := mkF m pc A _) X.here hx rfl hd rfl z)
    · cases h
  | lsub =>
    obtain rfl : len = 1 := by simpa [lenOk] using hlen
    simp only [xI] at h
    split at h
    · rename_i y x S0
      cases h
      obtain ⟨S1, rfl, h1⟩ := hS.long
      obtain ⟨S2, rfl, h2⟩ := h1.long
      exact Nxt.pure X rfl hL ⟨_, _, rfl, rfl, h2⟩ hH hF (fun t z => XT.lsub (g := mkF m pc A _) X.here hx rfl hd rfl z)
    · cases h
  | lmul =>
    obtain rfl : len = 1 := by simpa [lenOk] using hlen
    simp only [xI] at h
    split at h
    · rename_i y x S0
      cases h
      obtain ⟨S1, rfl, h1⟩ := hS.long
      obtain ⟨S2, rfl, h2⟩ := h1.long
      exact Nxt.pure X rfl hL ⟨_, _, rfl, rfl, h2⟩ hH hF (fun t z => XT.lmul (g := mkF m pc A _) X.here hx rfl hd rfl z)
    · cases h
  | land =>
    obtain rfl : len = 1 := by simpa [lenOk] using hlen
    simp only [xI] at h
    split at h
    · rename_i y x S0
      cases h
      obtain ⟨S1, rfl, h1⟩ := hS.long
      obtain ⟨S2, rfl, h2⟩ := h1.long
      exact Nxt.pure X rfl hL ⟨_, _, rfl, rfl, h2⟩ hH hF (fun t z => XT.land (g := mkF m pc A _) X.here hx rfl hd rfl z)
    · cases h
  | lor =>
    obtain rfl : len = 1 := by simpa [lenOk] using hlen
    simp only [xI] at h
    split at h
    · rename_i y x S0
      cases h
      obtain ⟨S1, rfl, h1⟩ := hS.long
      obtain ⟨S2, rfl, h2⟩ := h1.long
      exact Nxt.pure X rfl hL ⟨_, _, rfl, rfl, h2⟩ hH hF (fun t z => XT.lor (g := mkF m pc A _) X.here hx rfl hd rfl z)
    · cases h
  | lxor =>
    obtain rfl : len = 1 := by simpa [lenOk] using hlen
    simp only [xI] at h
    split at h
    · rename_i y x S0
      cases h
      obtain ⟨S1, rfl, h1⟩ := hS.long
      obtain ⟨S2, rfl, h2⟩ := h1.long
      exact Nxt.pure X rfl hL ⟨_, _, rfl, rfl, h2⟩ hH hF (fun t z => XT.lxor (g := mkF m pc A _) X.here hx rfl hd rfl z)
    · cases h
  | lcmp =>
    obtain rfl : len = 1 := by simpa [lenOk] using hlen
    simp only [xI] at h
    split at h
    · rename_i y x S0
      cases h
      obtain ⟨S1, rfl, h1⟩ := hS.long
      obtain ⟨S2, rfl, h2⟩ := h1.long
      exact Nxt.pure X rfl hL ⟨_, _, rfl, rfl, h2⟩ hH hF (fun t z => XT.lcmp (g := mkF m pc A _) X.here hx rfl hd rfl z)
    · cases h
  | lshl =>
    obtain rfl : len = 1 := by simpa [lenOk] using hlen
    simp only [xI] at h
    split at h
    · rename_i y x S0
      cases h
      obtain ⟨S1, rfl, h1⟩ := hS.int
      obtain ⟨S2, rfl, h2⟩ := h1.long
      exact Nxt.pure X rfl hL ⟨_, _, rfl, rfl, h2⟩ hH hF (fun t z => XT.lshl (g := mkF m pc A _) X.here hx rfl hd rfl z)
    · cases h
  | lshr =>
    obtain rfl : len = 1 := by simpa [lenOk] using hlen
    simp only [xI] at h
    split at h
    · rename_i y x S0
      cases h
      obtain ⟨S1, rfl, h1⟩ := hS.int
      obtain ⟨S2, rfl, h2⟩ := h1.long
      exact Nxt.pure X rfl hL ⟨_, _, rfl, rfl, h2⟩ hH hF (fun t z => XT.lshr (g := mkF m pc A _) X.here hx rfl hd rfl z)
    · cases h
  | lushr =>
    obtain rfl : len = 1 := by simpa [lenOk] using hlen
    simp only [xI] at h
    split at h
    · rename_i y x S0
      cases h
      obtain ⟨S1, rfl, h1⟩ := hS.int
      obtain ⟨S2, rfl, h2⟩ := h1.long
      exact Nxt.pure X rfl hL ⟨_, _, rfl, rfl, h2⟩ hH hF (fun t z => XT.lushr (g := mkF m pc A _) X.here hx rfl hd rfl z)
    · cases h
  | idiv =>
    obtain rfl : len = 1 := by simpa [lenOk] using hlen
    simp only [xI] at h
    split at h
    · rename_i y x S0
      split at h
      · cases h
      · rename_i hy
        cases h
        obtain ⟨S1, rfl, h1⟩ := hS.int
        obtain ⟨S2, rfl, h2⟩ := h1.int
        exact Nxt.pure X rfl hL ⟨_, _, rfl, rfl, h2⟩ hH hF (fun t z => XS.idiv (g := mkF m pc A _) X.here hx rfl hd rfl hy z)
    · cases h
  | irem =>
    obtain rfl : len = 1 := by simpa [lenOk] using hlen
    simp only [xI] at h
    split at h
    · rename_i y x S0
      split at h
      · cases h
      · rename_i hy
        cases h
        obtain ⟨S1, rfl, h1⟩ := hS.int
        obtain ⟨S2, rfl, h2⟩ := h1.int
        exact Nxt.pure X rfl hL ⟨_, _, rfl, rfl, h2⟩ hH hF (fun t z => iremM (g := mkF m pc A _) X hx rfl hd rfl hy z)
    · cases h
  | ldiv =>
    obtain rfl : len = 1 := by simpa [lenOk] using hlen
    simp only [xI] at h
    split at h
    · rename_i y x S0
      split at h
      · cases h
      · rename_i hy
        cases h
        obtain ⟨S1, rfl, h1⟩ := hS.long
        obtain ⟨S2, rfl, h2⟩ := h1.long
        exact Nxt.pure X rfl hL ⟨_, _, rfl, rfl, h2⟩ hH hF (fun t z => XT.ldiv (g := mkF m pc A _) X.here hx rfl hd rfl hy z)
    · cases h
  | lrem =>
    obtain rfl : len = 1 := by simpa [lenOk] using hlen
    simp only [xI] at h
    split at h
    · rename_i y x S0
      split at h
      · cases h
      · rename_i hy
        cases h
        obtain ⟨S1, rfl, h1⟩ := hS.long
        obtain ⟨S2, rfl, h2⟩ := h1.long
        exact Nxt.pure X rfl hL ⟨_, _, rfl, rfl, h2⟩ hH hF (fun t z => XT.lrem (g := mkF m pc A _) X.here hx rfl hd rfl hy (by rw [lrem_mod]; exact z))
    · cases h
  | i2l =>
    obtain rfl : len = 1 := by simpa [lenOk] using hlen
    simp only [xI] at h
    split at h
    · rename_i x S0
      cases h
      obtain ⟨S1, rfl, h1⟩ := hS.int
      exact Nxt.pure X rfl hL ⟨_, _, rfl, rfl, h1⟩ hH hF (fun t z => XT.i2l (g := mkF m pc A _) X.here hx rfl hd rfl z)
    · cases h
  | l2i =>
    obtain rfl : len = 1 := by simpa [lenOk] using hlen
    simp only [xI] at h
    split at h
    · rename_i x S0
      cases h
      obtain ⟨S1, rfl, h1⟩ := hS.long
      exact Nxt.pure X rfl hL ⟨_, _, rfl, rfl, h1⟩ hH hF (fun t z => XT.l2i (g := mkF m pc A _) X.here hx rfl hd rfl z)
    · cases h
  | dup =>
    obtain rfl : len = 1 := by simpa [lenOk] using hlen
    simp only [xI] at h
    split at h
    · rename_i x S0
      cases h
      obtain ⟨S1, rfl, h1⟩ := hS.int
      exact Nxt.pure X rfl hL ⟨_, _, rfl, rfl, _, _, rfl, rfl, h1⟩ hH hF (fun t z => XS.dup (g := mkF m pc A _) X.here hx rfl hd rfl rfl z)
    · rename_i x S0
      cases h
      obtain ⟨ad, S1, g1, rfl, h1⟩ := hS.ref
      exact Nxt.pure X rfl hL ⟨_, _, rfl, ⟨ad, g1, rfl⟩, _, _, rfl, ⟨ad, g1, rfl⟩, h1⟩ hH hF (fun t z => XS.dup (g := mkF m pc A _) X.here hx rfl hd rfl rfl z)
    · cases h
  | dup2 =>
    obtain rfl : len = 1 := by simpa [lenOk] using hlen
    simp only [xI] at h
    split at h
    · rename_i x y S0
      cases h
      obtain ⟨S1, rfl, h1⟩ := hS.int
      obtain ⟨ad, S2, g1, rfl, h2⟩ := h1.ref
      exact Nxt.pure X rfl hL ⟨_, _, rfl, rfl, _, _, rfl, ⟨ad, g1, rfl⟩, _, _, rfl, rfl, _, _, rfl, ⟨ad, g1, rfl⟩, h2⟩ hH hF (fun t z => XT.dup2 (g := mkF m pc A _) X.here hx rfl hd rfl rfl rfl z)
    · rename_i x S0
      cases h
      obtain ⟨S1, rfl, h1⟩ := hS.long
      exact Nxt.pure X rfl hL ⟨_, _, rfl, rfl, _, _, rfl, rfl, h1⟩ hH hF (fun t z => XT.dup2L (g := mkF m pc A _) X.here hx rfl hd rfl z)
    · cases h
  | pop =>
    obtain rfl : len = 1 := by simpa [lenOk] using hlen
    simp only [xI] at h
    split at h
    · rename_i x S0
      cases h
      obtain ⟨S1, rfl, h1⟩ := hS.int
      exact Nxt.pure X rfl hL h1 hH hF (fun t z => XT.pop (g := mkF m pc A _) X.here hx rfl hd rfl rfl z)
    · cases h
  | getfield k =>
    obtain rfl : len = 3 := by simpa [lenOk] using hlen
    simp only [xI] at h
    split at h
    · rename_i o S0
      obtain ⟨ad, S1, g1, rfl, h1⟩ := hS.ref
      split at h
      · rename_i c0 fs hc0
        split at h
        · rename_i ec
          subst ec
          obtain ⟨ad', g2, cd, q1, q2, q3, q4⟩ := hH.at hc0
          rw [g1] at g2; cases g2
          have hcd := cid_of hP hdm q1
          have core : ∀ v, fs[a]? = some v → ∃ w T2, VR ρ v w ∧ Stand p l e R s m args below meth c T2 locs cells slots ∧ T2.heap = T.heap ∧ ∀ target, Steps p.tables e below (T2.setTop (mkF m (pc + 3) A (w :: S1))) target → Steps p.tables e below (T.setTop (mkF m pc A (.ref ad :: S1))) target := fun v hv => by
            have ha : a < cd.2.2.length := by rw [← q3]; exact (List.getElem?_eq_some_iff.mp hv).1
            obtain ⟨w, hvw, F⟩ := q4 a v _ hv (List.getElem?_eq_getElem ha)
            have w1 := hWi (.fieldLink d.name.cls k d.name.cls cd.2.2[a].1 cd.2.2[a].2.1) (by
              show _ ∈ fLink P d k a
              unfold fLink
              rw [fieldOf_spec q1 (List.getElem?_eq_getElem ha)]
              exact List.mem_singleton.mpr rfl)
            rw [hcd] at F
            obtain ⟨T2, X2, e2, st2⟩ := getF X hx hZ hown (host := "") (Or.inl w1) Via.refl rfl F (g := mkF m pc A (.ref ad :: S1)) rfl rfl hd
            exact ⟨w, T2, hvw, X2, e2, st2⟩
          split at h
          · rename_i x hv
            cases h
            obtain ⟨w, T2, hvw, X2, e2, st2⟩ := core _ hv
            exact Nxt.mem X2 rfl hL ⟨_, _, rfl, hvw, h1⟩ (by rw [e2]; exact hH) hF st2
          · rename_i x hv
            cases h
            obtain ⟨w, T2, hvw, X2, e2, st2⟩ := core _ hv
            exact Nxt.mem X2 rfl hL ⟨_, _, rfl, hvw, h1⟩ (by rw [e2]; exact hH) hF st2
          · rename_i x hv
            cases h
            obtain ⟨w, T2, hvw, X2, e2, st2⟩ := core _ hv
            exact Nxt.mem X2 rfl hL ⟨_, _, rfl, hvw, h1⟩ (by rw [e2]; exact hH) hF st2
          · cases h
        · cases h
      · cases h
    · cases h
  | putfield k =>
    obtain rfl : len = 3 := by simpa [lenOk] using hlen
    simp only [xI] at h
    split at h
    · rename_i v o S0
      obtain ⟨w, Sx, rfl, hvw, hS1⟩ := hS
      obtain ⟨ad, S1, g1, rfl, h1⟩ := hS1.ref
      split at h
      · rename_i c0 fs hc0
        split at h
        · rename_i ec
          obtain ⟨ec, enr⟩ := ec
          subst ec
          split at h
          · rename_i nm ds ty fin hf
            split at h
            · rename_i hok
              cases h
              simp only [Bool.and_eq_true] at hok
              obtain ⟨hok, hfin⟩ := hok
              obtain ⟨ad', g2, cd, q1, q2, q3, q4⟩ := hH.at hc0
              rw [g1] at g2; cases g2
              have hcd := cid_of hP hdm q1
              rw [q1] at hf
              have hf' : cd.2.2[a]? = some (nm, ds, ty, fin) := hf
              have ha : a < fs.length := by rw [q3]; exact (List.getElem?_eq_some_iff.mp hf').1
              obtain ⟨w0, -, F⟩ := q4 a _ _ (List.getElem?_eq_getElem ha) hf'
              have w1 := hWi (.fieldLink d.name.cls k d.name.cls nm ds) (by
                show _ ∈ fLink P d k a
                unfold fLink
                rw [fieldOf_spec q1 hf']
                exact List.mem_singleton.mpr rfl)
              have hcm : cd ∈ P.cls := List.mem_of_getElem? q1
              have w2 := hW _ (in_wordsC hcm (fWord_in (List.mem_of_getElem? hf')))
              have w3 := hW (.instantiable cd.1 cd.2.1) (in_wordsC hcm (List.mem_cons_self ..))
              have hck := cChk_of hP hcm
              have hck' := hck
              simp only [cChk, Bool.and_eq_true, List.all_eq_true] at hck'
              have f1 := hck'.2 _ (List.mem_of_getElem? hf')
              simp only [fChk, Bool.and_eq_true, decide_eq_true_eq] at f1
              obtain ⟨p1, p2⟩ := putOk_sim hok hvw
              have Ly : (Jvm.Cond.lays cd.1 cd.1 nm ds).before a0 Z = true ∨ ((Jvm.Cond.laysFinal cd.1 cd.1 nm ds).before a0 Z = true ∧ d.name.cls = cd.1 ∧ meth.name = "<init>") := by
                unfold fWord at w2
                cases fin with
                | false => exact Or.inl w2
                | true => exact Or.inr ⟨w2, hcd.symm, by rw [hnm]; simpa using hfin⟩
              obtain ⟨T2, h2, X2, e2, W2, st2⟩ := putF X hx hZ hown (host := "") (R0 := d.name.cls) (O := cd.1) (Or.inl w1) (by rw [hcd]; exact Via.refl) rfl F q2 Ly w3 f1.1 p1 p2 (g := mkF m pc A (w :: .ref ad :: S1)) rfl rfl hd
              have hH2 := hH.putF (a0 := a0) g1 hc0 q1 hf' hck (fun f hfm => hW _ (in_wordsC hcm (fWord_in hfm))) W2 hvw
              exact Nxt.mem X2 rfl hL h1 (by rw [e2]; exact hH2) (Fr.snoc X2 hF (hH.2.2.2.1 _ _ g1 enr)) st2
            · cases h
          · cases h
        · cases h
      · cases h
    · cases h
  | iaload =>
    obtain rfl : len = 1 := by simpa [lenOk] using hlen
    simp only [xI] at h
    split at h
    · rename_i j o S0
      obtain ⟨S1, rfl, h1⟩ := hS.int
      obtain ⟨ad, S2, g1, rfl, h2⟩ := h1.ref
      split at h
      · rename_i B hc0
        obtain ⟨x, q, e1⟩ := Option.map_eq_some_iff.mp h
        cases e1
        obtain ⟨hj, hat⟩ := rdA_spec q
        obtain ⟨ad', g2, cl, Ar, z1, z2, z3⟩ := hH.at hc0
        rw [g1] at g2; cases g2
        have hin : ¬ (j < 0 ∨ cl.slots.size ≤ j.toNatClampNeg) := by
          have := (List.getElem?_eq_some_iff.mp hat).1
          rintro (y | y)
          · exact hj y
          · omega
        exact Nxt.pure X rfl hL ⟨_, _, rfl, rfl, h2⟩ hH hF (fun t z => X.iaload hx (j := j) (v := .int x) Ar.1 (State.isArrayOf_alike hZ.alike Ar.2.1) Ar.2.2 hin (z3 _ _ hat) (g := mkF m pc A _) rfl rfl hd t z)
      · cases h
    · cases h
  | baload =>
    obtain rfl : len = 1 := by simpa [lenOk] using hlen
    simp only [xI] at h
    split at h
    · rename_i j o S0
      obtain ⟨S1, rfl, h1⟩ := hS.int
      obtain ⟨ad, S2, g1, rfl, h2⟩ := h1.ref
      split at h
      · rename_i B hc0
        obtain ⟨x, q, e1⟩ := Option.map_eq_some_iff.mp h
        cases e1
        obtain ⟨hj, hat⟩ := rdA_spec q
        obtain ⟨ad', g2, cl, Ar, z1, z2, z3⟩ := hH.at hc0
        rw [g1] at g2; cases g2
        have hin : ¬ (j < 0 ∨ cl.slots.size ≤ j.toNatClampNeg) := by
          have := (List.getElem?_eq_some_iff.mp hat).1
          rintro (y | y)
          · exact hj y
          · omega
        exact Nxt.pure X rfl hL ⟨_, _, rfl, rfl, h2⟩ hH hF (fun t z => X.baloadBooleans hx (j := j) (v := .int x) Ar.1 (State.isArrayOf_alike hZ.alike Ar.2.1) Ar.2.2 hin (z3 _ _ hat) (g := mkF m pc A _) rfl rfl hd t z)
      · cases h
    · cases h
  | laload =>
    obtain rfl : len = 1 := by simpa [lenOk] using hlen
    simp only [xI] at h
    split at h
    · rename_i j o S0
      obtain ⟨S1, rfl, h1⟩ := hS.int
      obtain ⟨ad, S2, g1, rfl, h2⟩ := h1.ref
      split at h
      · rename_i B hc0
        obtain ⟨x, q, e1⟩ := Option.map_eq_some_iff.mp h
        cases e1
        obtain ⟨hj, hat⟩ := rdA_spec q
        obtain ⟨ad', g2, cl, Ar, z1, z2, z3⟩ := hH.at hc0
        rw [g1] at g2; cases g2
        have hin : ¬ (j < 0 ∨ cl.slots.size ≤ j.toNatClampNeg) := by
          have := (List.getElem?_eq_some_iff.mp hat).1
          rintro (y | y)
          · exact hj y
          · omega
        exact Nxt.pure X rfl hL ⟨_, _, rfl, rfl, h2⟩ hH hF (fun t z => X.laload hx (j := j) (v := .long x) Ar.1 (State.isArrayOf_alike hZ.alike Ar.2.1) Ar.2.2 hin (z3 _ _ hat) (g := mkF m pc A _) rfl rfl hd t z)
      · cases h
    · cases h
  | iastore =>
    obtain rfl : len = 1 := by simpa [lenOk] using hlen
    simp only [xI] at h
    split at h
    · rename_i x j o S0
      obtain ⟨S1, rfl, h1⟩ := hS.int
      obtain ⟨S2, rfl, h2⟩ := h1.int
      obtain ⟨ad, S3, g1, rfl, h3⟩ := h2.ref
      split at h
      · rename_i B hc0
        split at h
        · rename_i enr
          obtain ⟨B', q, e1⟩ := Option.map_eq_some_iff.mp h
          cases e1
          obtain ⟨hj, hlt, rfl⟩ := wrA_spec q
          obtain ⟨ad', g2, cl, Ar, z1, z2, z3⟩ := hH.at hc0
          rw [g1] at g2; cases g2
          have hin : ¬ (j < 0 ∨ cl.slots.size ≤ j.toNatClampNeg) := by
            rintro (y | y)
            · exact hj y
            · omega
          obtain ⟨T2, h2', X2, e2, W2, st2⟩ := stI X hx hZ rfl Ar (j := j) (x := x) hin (g := mkF m pc A _) rfl rfl hd
          exact Nxt.mem X2 rfl hL h3 (by rw [e2]; exact hH.wrI g1 hc0 W2) (Fr.snoc X2 hF (hH.2.2.2.1 _ _ g1 enr)) st2
        · cases h
      · cases h
    · cases h
  | bastore =>
    obtain rfl : len = 1 := by simpa [lenOk] using hlen
    simp only [xI] at h
    split at h
    · rename_i x j o S0
      obtain ⟨S1, rfl, h1⟩ := hS.int
      obtain ⟨S2, rfl, h2⟩ := h1.int
      obtain ⟨ad, S3, g1, rfl, h3⟩ := h2.ref
      split at h
      · rename_i B hc0
        split at h
        · rename_i enr
          obtain ⟨B', q, e1⟩ := Option.map_eq_some_iff.mp h
          cases e1
          obtain ⟨hj, hlt, rfl⟩ := wrA_spec q
          obtain ⟨ad', g2, cl, Ar, z1, z2, z3⟩ := hH.at hc0
          rw [g1] at g2; cases g2
          have hin : ¬ (j < 0 ∨ cl.slots.size ≤ j.toNatClampNeg) := by
            rintro (y | y)
            · exact hj y
            · omega
          obtain ⟨T2, h2', X2, e2, W2, st2⟩ := stZ X hx hZ rfl Ar (j := j) (x := x) hin (g := mkF m pc A _) rfl rfl hd
          exact Nxt.mem X2 rfl hL h3 (by rw [e2]; exact hH.wrI g1 hc0 W2) (Fr.snoc X2 hF (hH.2.2.2.1 _ _ g1 enr)) st2
        · cases h
      · cases h
    · cases h
  | lastore =>
    obtain rfl : len = 1 := by simpa [lenOk] using hlen
    simp only [xI] at h
    split at h
    · rename_i x j o S0
      obtain ⟨S1, rfl, h1⟩ := hS.long
      obtain ⟨S2, rfl, h2⟩ := h1.int
      obtain ⟨ad, S3, g1, rfl, h3⟩ := h2.ref
      split at h
      · rename_i B hc0
        split at h
        · rename_i enr
          obtain ⟨B', q, e1⟩ := Option.map_eq_some_iff.mp h
          cases e1
          obtain ⟨hj, hlt, rfl⟩ := wrA_spec q
          obtain ⟨ad', g2, cl, Ar, z1, z2, z3⟩ := hH.at hc0
          rw [g1] at g2; cases g2
          have hin : ¬ (j < 0 ∨ cl.slots.size ≤ j.toNatClampNeg) := by
            rintro (y | y)
            · exact hj y
            · omega
          obtain ⟨T2, h2', X2, e2, W2, st2⟩ := stJ X hx hZ rfl Ar (j := j) (x := x) hin (g := mkF m pc A _) rfl rfl hd
          exact Nxt.mem X2 rfl hL h3 (by rw [e2]; exact hH.wrJ g1 hc0 W2) (Fr.snoc X2 hF (hH.2.2.2.1 _ _ g1 enr)) st2
        · cases h
      · cases h
    · cases h
  | arraylength =>
    obtain rfl : len = 1 := by simpa [lenOk] using hlen
    simp only [xI] at h
    split at h
    · rename_i o S0
      obtain ⟨ad, S1, g1, rfl, h1⟩ := hS.ref
      split at h
      · rename_i bb B hc0
        cases h
        obtain ⟨ad', g2, cl, Ar, z1, z2, z3⟩ := hH.at hc0
        rw [g1] at g2; cases g2
        exact Nxt.pure X rfl hL ⟨_, _, rfl, rfl, h1⟩ hH hF (fun t z => X.arraylength hx (cell := cl) Ar.1 (State.isArrayOf_alike hZ.alike Ar.2.1) (g := mkF m pc A _) rfl rfl hd t (by rw [z1]; exact z))
      · cases h
    · cases h
  | _ => simp [xI] at h
set_option maxHeartbeats 4000000 in
theorem stepN (X : Stand p l e R s m args below meth c T locs cells slots) (hx : p.tables.exec = Jvm.exec) (hZ : Z.Warmed39 s.vm) (hown : s.vm.findClass d.name.cls = some m.cls) (hP : chk P = true) (hW : ∀ w ∈ wordsOf P, w.before a0 Z = true) (hdm : d ∈ P.mth)
    {pc len a ks : Nat} {er : List Bool} {b : Int} {i : Instr} (hit : (pc, i, len, er, a, b) ∈ d.code) (hd : decode c.code pc = .ok (i, len)) (hlen : lenOk i len = true) {ρ : List Addr} {S S' Sc : List Value} {H H1 : AHeap} {A : Array Slot}
    (hS : SR ρ S Sc) (hH : HR P Z n0 T.heap ρ H) (h : xN P i a S H = some (S', H1, ks)) (hc : cells + 1 ≤ R.cells) (hl : slots + ks ≤ R.slots) :
    ∃ T' ad Sc', Stand p l e R s m args below meth c T' locs (cells + 1) (slots + ks) ∧ SR (ρ ++ [ad]) S' Sc' ∧ HR P Z n0 T'.heap (ρ ++ [ad]) H1 ∧
      ∀ target, Steps p.tables e below (T'.setTop (mkF m (pc + len) A Sc')) target → Steps p.tables e below (T.setTop (mkF m pc A Sc)) target := by
  have hWi : ∀ w ∈ iWords P d (pc, i, len, er, a, b), w.before a0 Z = true := fun w q => hW w (in_wordsOf hdm hit q)
  cases i with
  | new k =>
    obtain rfl : len = 3 := by simpa [lenOk] using hlen
    simp only [xN] at h
    split at h
    · rename_i cd q1
      cases h
      have hcm : cd ∈ P.cls := List.mem_of_getElem? q1
      have w1 := hWi (.classLink d.name.cls k cd.1) (by simp only [iWords, q1]; exact List.mem_singleton.mpr rfl)
      have w2 := hW (.instantiable cd.1 cd.2.1) (in_wordsC hcm (List.mem_cons_self ..))
      have w3 := hW (.initialized cd.1) (in_wordsC hcm (List.mem_cons_of_mem _ (List.mem_cons_self ..)))
      obtain ⟨T2, h2, X2, e2, E2, A2, D2, -, st2⟩ := newO X hx hZ hown w1 w2 w3 rfl (g := mkF m pc A Sc) rfl hd hc hl
      have hck := cChk_of hP hcm
      simp only [cChk, Bool.and_eq_true, List.all_eq_true] at hck
      have hcr : CR P Z h2 (ρ ++ [T.heap.size]) T.heap.size (.inl (a, cd.2.2.map fun f => dflt f.2.2.1)) := by
        refine ⟨cd, q1, A2, by simp, fun j v fd y1 y2 => ?_⟩
        rw [List.getElem?_map, y2] at y1
        cases y1
        have f1 := hck.2 _ (List.mem_of_getElem? y2)
        simp only [fChk, Bool.and_eq_true, decide_eq_true_eq] at f1
        exact ⟨_, dflt_sim f1.2, D2 (laid_of (hW _ (in_wordsC hcm (fWord_in (List.mem_of_getElem? y2))))) f1.1⟩
      refine ⟨T2, T.heap.size, _, X2, ⟨_, _, rfl, ⟨T.heap.size, ?_, rfl⟩, hS.mono⟩, (by rw [e2]; exact hH.push E2 hcr), st2⟩
      rw [← hH.2.1]; simp
    · cases h
  | newarray t =>
    obtain rfl : len = 2 := by simpa [lenOk] using hlen
    simp only [xN] at h
    split at h
    · rename_i n S0
      obtain ⟨S1, rfl, h1⟩ := hS.int
      split at h
      · cases h
      · rename_i hn
        have hn1 : ¬ n < 0 := fun z => hn (Or.inl z)
        have hn2 : n.toNatClampNeg ≤ 100000 := Nat.le_of_not_lt fun z => hn (Or.inr z)
        have w1 := hWi (.arrayClass (newarray.typeOf t)) (List.mem_singleton.mpr rfl)
        have top : (ρ ++ [T.heap.size])[H.length]? = some T.heap.size := by rw [← hH.2.1]; simp
        split at h
        · cases h
          obtain ⟨T2, h2, cA, X2, e2, E2, A2, st2⟩ := newP X hx hZ w1 rfl (g := mkF m pc A _) rfl hd rfl hn1 (cap := n.toNatClampNeg) (Nat.le_refl _) (by omega) hc hl
          have hcr : CR P Z h2 (ρ ++ [T.heap.size]) T.heap.size ((.inr (.inl (false, List.replicate n.toNatClampNeg 0)) : ACell)) := by
            refine ⟨_, A2, by simp [sz_new], by simp; omega, fun j x y => ?_⟩
            rw [List.getElem?_replicate] at y
            split at y
            · rename_i lt
              cases y
              simp [newA, lt, newarray.typeOf, defaultValue]
            · cases y
          exact ⟨T2, T.heap.size, _, X2, ⟨_, _, rfl, ⟨T.heap.size, top, rfl⟩, h1.mono⟩, (by rw [e2]; exact hH.push E2 hcr), st2⟩
        · cases h
          obtain ⟨T2, h2, cA, X2, e2, E2, A2, st2⟩ := newP X hx hZ w1 rfl (g := mkF m pc A _) rfl hd rfl hn1 (cap := n.toNatClampNeg) (Nat.le_refl _) (by omega) hc hl
          have hcr : CR P Z h2 (ρ ++ [T.heap.size]) T.heap.size ((.inr (.inl (true, List.replicate n.toNatClampNeg 0)) : ACell)) := by
            refine ⟨_, A2, by simp [sz_new], by simp; omega, fun j x y => ?_⟩
            rw [List.getElem?_replicate] at y
            split at y
            · rename_i lt
              cases y
              simp [newA, lt, newarray.typeOf, defaultValue]
            · cases y
          exact ⟨T2, T.heap.size, _, X2, ⟨_, _, rfl, ⟨T.heap.size, top, rfl⟩, h1.mono⟩, (by rw [e2]; exact hH.push E2 hcr), st2⟩
        · cases h
          obtain ⟨T2, h2, cA, X2, e2, E2, A2, st2⟩ := newP X hx hZ w1 rfl (g := mkF m pc A _) rfl hd rfl hn1 (cap := n.toNatClampNeg) (Nat.le_refl _) (by omega) hc hl
          have hcr : CR P Z h2 (ρ ++ [T.heap.size]) T.heap.size ((.inr (.inr (List.replicate n.toNatClampNeg 0)) : ACell)) := by
            refine ⟨_, A2, by simp [sz_new], by simp; omega, fun j x y => ?_⟩
            rw [List.getElem?_replicate] at y
            split at y
            · rename_i lt
              cases y
              simp [newA, lt, newarray.typeOf, defaultValue]
            · cases y
          exact ⟨T2, T.heap.size, _, X2, ⟨_, _, rfl, ⟨T.heap.size, top, rfl⟩, h1.mono⟩, (by rw [e2]; exact hH.push E2 hcr), st2⟩
        · cases h
    · cases h
  | _ => simp [xN] at h
end Step
end Jvm.Own
namespace Jvm.Own
open Jvm Jvm.ClassFile Sem Op Lib Jvm.Free Jvm.Stand Jvm.LawKit Jvm.RoadKit Bundle
theorem fetch_mem : ∀ {l : List (Nat × It)} {pc : Nat} {i : It}, fetch l pc = some i → (pc, i) ∈ l
  | [], _, _, h => by simp [fetch] at h
  | (q, j) :: r, pc, i, h => by
    unfold fetch at h
    split at h
    · rename_i e; cases h; subst e; exact List.mem_cons_self ..
    · exact List.mem_cons_of_mem _ (fetch_mem h)
theorem tgt_spec {pc q : Nat} {o : Int} (h : tgt pc o = some q) : 0 ≤ (pc : Int) + o ∧ ((pc : Int) + o).toNat = q := by
  unfold tgt at h
  split at h
  · rename_i z; cases h; exact ⟨z, rfl⟩
  · cases h
/-- the end of a method's run -/
def Done (P : PD) (Z : State) (n0 : Nat) (p : Program) (e : Env) (below : List Frame) (s : State) (ρ : List Addr) (v : Option Value) (H' : AHeap) (kc ks : Nat) (t0 : State) : Prop :=
  ∃ s₂ v' L' t, Steps p.tables e below t0 s₂ ∧ s₂.status = .running ∧ Ended s₂ below (.returned v') ∧ OV (ρ ++ t) v v' ∧ HR P Z n0 s₂.heap (ρ ++ t) H' ∧ Fr n0 L' ∧ FrameEnd s (.returned v') s₂ L' kc ks
def Cx (P : PD) (Z : State) (p : Program) (R : Room) (s : State) (m : MethodId) (meth : Method) (c : Code) (d : MD) : Prop :=
  p.tables.exec = Jvm.exec ∧ Z.Warmed39 s.vm ∧ c.code = d.bytes ∧ c.maxLocals = d.maxL ∧ s.vm.findClass d.name.cls = some m.cls ∧ meth.name = d.name.name ∧ meth.sig.returnType = d.ret ∧ meth.locks = false ∧ d.rf ≤ R.frames ∧ d.rw ≤ R.locals
/-- what the machine says of a run that has come to pc is what the model does -/
def Says (P : PD) (Z : State) (n0 : Nat) (l : Launch) (n : Nat) : Prop :=
  ∀ (mi pc : Nat) (L : List Slot) (S : List Value) (H : AHeap) (v : Option Value) (H' : AHeap) (kc ks : Nat), exe P n mi pc L S H = some (v, H', kc, ks) → ∀ d, P.mth[mi]? = some d →
    ∀ (p : Program) (e : Env) (R : Room) (s : State) (m : MethodId) (args : Array Value) (below : List Frame) (meth : Method) (c : Code) (T : State) (locs : List Loc) (cells slots : Nat),
      Stand p l e R s m args below meth c T locs cells slots → Cx P Z p R s m meth c d → cells + kc ≤ R.cells → slots + ks ≤ R.slots →
      ∀ (ρ : List Addr) (A : Array Slot) (Sc : List Value), LR ρ L A → L.length = d.maxL → SR ρ S Sc → HR P Z n0 T.heap ρ H → Fr n0 locs →
        Done P Z n0 p e below s ρ v H' (cells + kc) (slots + ks) (T.setTop (mkF m pc A Sc))
def QQ (P : PD) (Z : State) (n0 : Nat) (ρ : List Addr) (v : Option Value) (H1 : AHeap) (v' : Option Value) (h' : Heap) (L : List Loc) : Prop := Fr n0 L ∧ ∃ t, OV (ρ ++ t) v v' ∧ HR P Z n0 h' (ρ ++ t) H1
theorem met_of {P : PD} {Z : State} {n0 : Nat} {l : Launch} {n : Nat} (ih : Says P Z n0 l n) {j : Nat} {y : MD} (hy : P.mth[j]? = some y) (hpn : plainName y.name.cls = true) {as ws : List Value} {H H1 : AHeap} {v : Option Value} {kc ks : Nat} (he : exe P n j 0 (entL as y.maxL) [] H = some (v, H1, kc, ks)) {ρ : List Addr} (hS : SR ρ as ws) (hlen : (entA as).length ≤ y.maxL) {h : Heap} (hH : HR P Z n0 h ρ H) (w0 : List Jvm.Cond) (rm : Room) (r1 : y.rf ≤ rm.frames) (r2 : y.rw ≤ rm.locals) (r3 : kc ≤ rm.cells) (r4 : ks ≤ rm.slots) :
    MetFree l y.name (head1 (Jvm.Cond.code y.name y.bytes y.maxL y.ret :: w0) rm) (fun a U => a = ws.toArray ∧ Z.Warmed39 U.vm ∧ U.heap = h) (fun _ _ _ _ _ => True)
      (fun _ U o U' => ∃ v' L, o = .returned v' ∧ QQ P Z n0 ρ v H1 v' U'.heap L ∧ FrameEnd U o U' L kc ks) := by
  refine MetFree.of_bodySF (plainFor_of_name hpn) hisR ?_
  intro p e s m args below meth c s₁ Bd hml0 hP hK
  obtain ⟨rfl, hZ, hh⟩ := hP
  have X0 : Stand p l e rm s m ws.toArray below meth c s₁ [] 0 0 := Stand.of_body Bd
  have e0 : s₁.heap = h := by rw [← hh, Bd.state]; rfl
  obtain ⟨hL, hsz⟩ := LR.enter hS hlen
  have hLl : (entL as y.maxL).length = y.maxL := by rw [← hL.1]; exact hsz
  obtain ⟨s₂, v', L', t, h1, h2, h3, h4, h5, h6, h7⟩ := ih j 0 _ [] H v H1 kc ks he y hy p e _ s m ws.toArray below meth c s₁ [] 0 0 X0
    ⟨Bd.exec, hZ, Bd.bytes, hml0, findClass_of_methodNamed Bd.named, (name_of_methodNamed Bd.named Bd.method).1, Bd.returns, BodyLoose.notSynchronized Bd, r1, r2⟩
    (by rw [Nat.zero_add]; exact r3) (by rw [Nat.zero_add]; exact r4) ρ _ [] hL hLl rfl (by rw [e0]; exact hH) (Fr.nil n0)
  refine ⟨s₂, _, h1, h2, h3, v', L', rfl, ⟨h6, t, h4, h5⟩, ?_⟩
  rw [Nat.zero_add, Nat.zero_add] at h7
  exact h7
section Sound
variable {P : PD} {Z : State} {n0 : Nat} {a0 : Array Value} {l : Launch}
theorem Done.step {p : Program} {e : Env} {below : List Frame} {s : State} {ρ t : List Addr} {v : Option Value} {H' : AHeap} {kc ks : Nat} {t0 t1 : State} (h : Done P Z n0 p e below s (ρ ++ t) v H' kc ks t1) (k : ∀ target, Steps p.tables e below t1 target → Steps p.tables e below t0 target) : Done P Z n0 p e below s ρ v H' kc ks t0 := by
  obtain ⟨s₂, v', L', t', h1, h2, h3, h4, h5, h6, h7⟩ := h
  exact ⟨s₂, v', L', t ++ t', k _ h1, h2, h3, by rw [← List.append_assoc]; exact h4, by rw [← List.append_assoc]; exact h5, h6, h7⟩
theorem argsOf_spec {n : Nat} {S as rest : List Value} (h : argsOf n S = some (as, rest)) : n ≤ S.length ∧ as = (S.take n).reverse ∧ rest = S.drop n := by
  unfold argsOf at h
  split at h
  · rename_i z; cases h; exact ⟨z, rfl, rfl⟩
  · cases h
theorem res_ext {α : Type} {o : Option Res} {v : Option Value} {H' : AHeap} {kc ks c1 s1 : Nat} (h : (o.map fun r => addR r c1 s1) = some (v, H', kc, ks)) : ∃ kc' ks', o = some (v, H', kc', ks') ∧ kc = kc' + c1 ∧ ks = ks' + s1 := by
  obtain ⟨⟨v0, H0, c0, s0⟩, h1, h2⟩ := Option.map_eq_some_iff.mp h
  simp only [addR] at h2
  cases h2
  exact ⟨c0, s0, h1, rfl, rfl⟩
set_option maxHeartbeats 4000000 in
theorem sound (hP : chk P = true) (hW : ∀ w ∈ wordsOf P, w.before a0 Z = true) : ∀ n, Says P Z n0 l n
  | 0 => fun mi pc L S H v H' kc ks h => by simp [exe] at h
  | n + 1 => by
    have ih := sound hP hW n
    intro mi pc L S H v H' kc ks h d hmi
    unfold exe at h
    rw [hmi] at h
    simp only at h
    have hdm : d ∈ P.mth := List.mem_of_getElem? hmi
    split at h
    · cases h
    rename_i it i len er a b hft
    have hit := fetch_mem hft
    have hmc := mChk_of hP hdm
    simp only [mChk, Bool.and_eq_true] at hmc
    obtain ⟨⟨⟨⟨⟨⟨mc1, mc2⟩, mc3⟩, mc4⟩, mc5⟩, mc6⟩, mc7⟩ := hmc
    unfold codeChk at mc3
    rw [List.all_eq_true] at mc3
    have hci := mc3 _ hit
    simp only [Bool.and_eq_true, decide_eq_true_eq] at hci
    obtain ⟨hdec, hlenOk⟩ := hci
    -- a jump, or a fall through
    have jump : ∀ (q : Nat) (S1 : List Value) (h1 : exe P n mi q (forget er L) S1 H = some (v, H', kc, ks)),
        (∀ (p : Program) (e : Env) (R : Room) (s : State) (m : MethodId) (args : Array Value) (below : List Frame) (meth : Method) (c : Code) (T : State) (locs : List Loc) (cells slots : Nat),
          Stand p l e R s m args below meth c T locs cells slots → Cx P Z p R s m meth c d → ∀ (ρ : List Addr) (A : Array Slot) (Sc : List Value), LR ρ L A → SR ρ S Sc → ∃ Sc1, SR ρ S1 Sc1 ∧ ∀ target, Steps p.tables e below (T.setTop (mkF m q A Sc1)) target → Steps p.tables e below (T.setTop (mkF m pc A Sc)) target) →
        ∀ (p : Program) (e : Env) (R : Room) (s : State) (m : MethodId) (args : Array Value) (below : List Frame) (meth : Method) (c : Code) (T : State) (locs : List Loc) (cells slots : Nat),
          Stand p l e R s m args below meth c T locs cells slots → Cx P Z p R s m meth c d → cells + kc ≤ R.cells → slots + ks ≤ R.slots →
          ∀ (ρ : List Addr) (A : Array Slot) (Sc : List Value), LR ρ L A → L.length = d.maxL → SR ρ S Sc → HR P Z n0 T.heap ρ H → Fr n0 locs →
            Done P Z n0 p e below s ρ v H' (cells + kc) (slots + ks) (T.setTop (mkF m pc A Sc)) := by
      intro q S1 h1 st p e R s m args below meth c T locs cells slots X cx k1 k2 ρ A Sc hL hLl hS hH hF
      obtain ⟨Sc1, hS1, st1⟩ := st p e R s m args below meth c T locs cells slots X cx ρ A Sc hL hS
      have := ih mi q _ S1 H v H' kc ks h1 d hmi p e R s m args below meth c T locs cells slots X cx k1 k2 ρ A Sc1 (hL.forget er) (by rw [forget_len]; exact hLl) hS1 hH hF
      exact Done.step (t := []) (by rw [List.append_nil]; exact this) st1
    have dec : ∀ {c : Code}, c.code = d.bytes → decode c.code pc = .ok (i, len) := fun hc => by rw [hc]; exact hdec
    split at h
    · -- goto
      rename_i o
      split at h
      · rename_i q hq
        obtain ⟨t1, t2⟩ := tgt_spec hq
        have m3 := jump q S h
        obtain rfl : len = 3 := by simpa [lenOk] using hlenOk
        exact m3 fun p e R s m args below meth c T locs cells slots X cx ρ A Sc hL hS => ⟨Sc, hS, fun t z => XS.goto (g := mkF m pc A Sc) X.here cx.1 rfl (pc0 := pc) (pc' := q) rfl (dec cx.2.2.1) t1 t2 z⟩
      · cases h
    · -- if_icmp
      rename_i cd o
      split at h
      · rename_i y x S1
        obtain rfl : len = 3 := by simpa [lenOk] using hlenOk
        split at h
        · rename_i hc
          split at h
          · rename_i q hq
            obtain ⟨t1, t2⟩ := tgt_spec hq
            have m3 := jump q S1 h
            exact m3 fun p e R s m args below meth c T locs cells slots X cx ρ A Sc hL hS => by
              obtain ⟨Sa, rfl, ha⟩ := hS.int
              obtain ⟨Sb, rfl, hb⟩ := ha.int
              exact ⟨Sb, hb, fun t z => XS.icmpYes (g := mkF m pc A _) X.here cx.1 rfl (pc0 := pc) (pc' := q) rfl (dec cx.2.2.1) rfl hc t1 t2 z⟩
          · cases h
        · rename_i hc
          have m3 := jump (pc + 3) S1 h
          exact m3 fun p e R s m args below meth c T locs cells slots X cx ρ A Sc hL hS => by
            obtain ⟨Sa, rfl, ha⟩ := hS.int
            obtain ⟨Sb, rfl, hb⟩ := ha.int
            exact ⟨Sb, hb, fun t z => XS.icmpNo (g := mkF m pc A _) X.here cx.1 rfl (dec cx.2.2.1) rfl (by simpa using hc) z⟩
      · cases h
    · -- ifCond
      rename_i cd o
      split at h
      · rename_i x S1
        obtain rfl : len = 3 := by simpa [lenOk] using hlenOk
        split at h
        · rename_i hc
          split at h
          · rename_i q hq
            obtain ⟨t1, t2⟩ := tgt_spec hq
            have m3 := jump q S1 h
            exact m3 fun p e R s m args below meth c T locs cells slots X cx ρ A Sc hL hS => by
              obtain ⟨Sa, rfl, ha⟩ := hS.int
              exact ⟨Sa, ha, fun t z => XS.ifYes (g := mkF m pc A _) X.here cx.1 rfl (pc0 := pc) (pc' := q) rfl (dec cx.2.2.1) rfl hc t1 t2 z⟩
          · cases h
        · rename_i hc
          have m3 := jump (pc + 3) S1 h
          exact m3 fun p e R s m args below meth c T locs cells slots X cx ρ A Sc hL hS => by
            obtain ⟨Sa, rfl, ha⟩ := hS.int
            exact ⟨Sa, ha, fun t z => XS.ifNo (g := mkF m pc A _) X.here cx.1 rfl (dec cx.2.2.1) rfl (by simpa using hc) z⟩
      · cases h
    · -- ifnonnull
      rename_i o
      split at h
      · rename_i x S1
        split at h
        · rename_i q hq
          obtain ⟨t1, t2⟩ := tgt_spec hq
          have m3 := jump q S1 h
          obtain rfl : len = 3 := by simpa [lenOk] using hlenOk
          exact m3 fun p e R s m args below meth c T locs cells slots X cx ρ A Sc hL hS => by
            obtain ⟨ad, Sa, -, rfl, ha⟩ := hS.ref
            exact ⟨Sa, ha, fun t z => XT.ifnonnullYes (g := mkF m pc A _) X.here cx.1 rfl (pc0 := pc) (pc' := q) rfl (dec cx.2.2.1) rfl t1 t2 z⟩
        · cases h
      · cases h
    · -- ireturn
      split at h
      · rename_i x
        split at h
        · rename_i v0 hv0
          cases h
          obtain rfl : len = 1 := by simpa [lenOk] using hlenOk
          intro p e R s m args below meth c T locs cells slots X cx k1 k2 ρ A Sc hL hLl hS hH hF
          obtain ⟨hx, hZ, hby, hml, hown, hnm, hret, hlk, -, -⟩ := cx
          obtain ⟨Sa, rfl, ha⟩ := hS.int
          unfold retV at hv0
          split at hv0
          · rename_i hr0
            cases hv0
            obtain ⟨fs, hr, hrun, hended, hWm, hsame⟩ := X.leave (v := some (.int x)) (fun q => by rw [hret, hr0] at q; cases q) hlk
            exact ⟨_, _, locs, [], retI X hx (by rw [hret, hr0]) (dec hby) hr, hrun, hended, ⟨_, rfl, rfl⟩, by rw [List.append_nil]; exact hH, hF, ⟨_, rfl⟩, hWm, hsame⟩
          · rename_i hr0
            cases hv0
            obtain ⟨fs, hr, hrun, hended, hWm, hsame⟩ := X.leave (v := some (.int (x &&& 1))) (fun q => by rw [hret, hr0] at q; cases q) hlk
            exact ⟨_, _, locs, [], retN X hx (t := .boolean) (by rw [hret, hr0]) (by simp) (dec hby) hr, hrun, hended, ⟨_, rfl, rfl⟩, by rw [List.append_nil]; exact hH, hF, ⟨_, rfl⟩, hWm, hsame⟩
          · cases hv0
        · cases h
      · cases h
    · -- lreturn
      split at h
      · rename_i x
        split at h
        · rename_i hr0
          cases h
          obtain rfl : len = 1 := by simpa [lenOk] using hlenOk
          intro p e R s m args below meth c T locs cells slots X cx k1 k2 ρ A Sc hL hLl hS hH hF
          obtain ⟨hx, hZ, hby, hml, hown, hnm, hret, hlk, -, -⟩ := cx
          obtain ⟨Sa, rfl, ha⟩ := hS.long
          obtain rfl : Sa = [] := ha
          obtain ⟨fs, hr, hrun, hended, hWm, hsame⟩ := X.leave (v := some (.long x)) (fun q => by rw [hret, hr0] at q; cases q) hlk
          exact ⟨_, _, locs, [], X.lreturnOut hx (by rw [hret, hr0]) (dec hby) hr, hrun, hended, ⟨_, rfl, rfl⟩, by rw [List.append_nil]; exact hH, hF, ⟨_, rfl⟩, hWm, hsame⟩
        · cases h
      · cases h
    · -- return
      split at h
      · split at h
        · rename_i hr0
          cases h
          obtain rfl : len = 1 := by simpa [lenOk] using hlenOk
          intro p e R s m args below meth c T locs cells slots X cx k1 k2 ρ A Sc hL hLl hS hH hF
          obtain ⟨hx, hZ, hby, hml, hown, hnm, hret, hlk, -, -⟩ := cx
          obtain rfl : Sc = [] := hS
          obtain ⟨fs, hr, hrun, hended, hWm, hsame⟩ := X.leave (v := none) (fun _ => rfl) hlk
          exact ⟨_, _, locs, [], X.returnOut hx (by rw [hret, hr0]) (dec hby) hr, hrun, hended, rfl, by rw [List.append_nil]; exact hH, hF, ⟨_, rfl⟩, hWm, hsame⟩
        · cases h
      · cases h
    · -- a call, or a plain step
      split at h
      · rename_i hinv
        split at h
        · -- Object.<init>
          rename_i hb1
          subst hb1
          have hk : ∃ k x S1, i = .invokespecial k ∧ S = .ref x :: S1 ∧ (if 1 ≤ d.rf ∧ catSum S1 + 12 ≤ d.rw then exe P n mi (pc + 3) (forget er L) S1 H else none) = some (v, H', kc, ks) := by
            split at h
            · exact ⟨_, _, _, rfl, rfl, h⟩
            · cases h
          clear h
          obtain ⟨k, x, S1, rfl, rfl, h⟩ := hk
          · split at h
            · rename_i hroom
              have m3 := ih mi (pc + 3) _ S1 H v H' kc ks h d hmi
              obtain rfl : len = 3 := by simpa [lenOk] using hlenOk
              have hWi : ∀ w ∈ iWords P d (pc, .invokespecial k, 3, er, a, -1), w.before a0 Z = true := fun w q => hW w (in_wordsOf hdm hit q)
              have hWi' : ∀ w ∈ [Jvm.Cond.methodLink d.name.cls k Lib.objectInit, .instanceMethod Lib.objectInit, .code Lib.objectInit ⟨#[0xb1]⟩ 1 none], w.before a0 Z = true := hWi
              intro p e R s m args below meth c T locs cells slots X cx k1 k2 ρ A Sc hL hLl hS hH hF
              have cx0 := cx
              obtain ⟨hx, hZ, hby, hml, hown, hnm, hret, hlk, hrf, hrw⟩ := cx
              obtain ⟨ad, Sa, -, rfl, ha⟩ := hS.ref
              obtain ⟨T2, X2, e2, st2⟩ := initO X hx hZ hown (hWi' _ (by simp)) (hWi' _ (by simp)) (hWi' _ (by simp)) rfl (g := mkF m pc A (.ref ad :: Sa)) rfl (by rw [hml]; exact hL.1.trans hLl) rfl (dec hby) (by omega) (W := catSum S1) (by show 2 * 0 + _ ≤ _; rw [ha.cat]; omega) (by omega)
              have := m3 p e R s m args below meth c T2 locs cells slots X2 cx0 k1 k2 ρ A Sa (hL.forget er) (by rw [forget_len]; exact hLl) ha (by rw [e2]; exact hH) hF
              exact Done.step (t := []) (by rw [List.append_nil]; exact this) st2
            · cases h
        · rename_i hb1
          split at h
          · cases h
          rename_i y hy
          split at h
          · cases h
          rename_i as rest hao
          split at h
          · rename_i hcond
            simp only [Bool.and_eq_true, decide_eq_true_eq] at hcond
            obtain ⟨⟨⟨⟨hj, hik⟩, hrecv⟩, hroom⟩, hent⟩ := hcond
            split at h
            · rename_i v1 H1 c1 s1 hcal
              obtain ⟨c0, s0, hcon, rfl, rfl⟩ := res_ext (α := Unit) h
              have m3 := ih mi (pc + 3) _ _ H1 v H' c0 s0 hcon d hmi
              intro p e R s m args below meth c T locs cells slots X cx k1 k2 ρ A Sc hL hLl hS hH hF
              have cx0 := cx
              obtain ⟨hx, hZ, hby, hml, hown, hnm, hret, hlk, hrf, hrw⟩ := cx
              have hym : y ∈ P.mth := List.mem_of_getElem? hy
              have hyc := mChk_of hP hym
              simp only [mChk, Bool.and_eq_true, decide_eq_true_eq] at hyc
              obtain ⟨⟨⟨⟨⟨⟨yc1, yc2⟩, yc3⟩, yc4⟩, yc5⟩, yc6⟩, yc7⟩ := hyc
              simp only [fitsRoom, Bool.and_eq_true, decide_eq_true_eq] at hroom
              obtain ⟨hn, has, hrest⟩ := argsOf_spec hao
              have hnc : nargs y ≤ Sc.length := by rw [hS.len]; exact hn
              have hSa : SR ρ as (Sc.take (nargs y)).reverse := by rw [has]; exact (hS.take _).rev
              have hSr : SR ρ rest (Sc.drop (nargs y)) := by rw [hrest]; exact hS.drop _
              have hsplit : Sc = (Sc.take (nargs y)).reverse.reverse ++ Sc.drop (nargs y) := by rw [List.reverse_reverse, List.take_append_drop]
              obtain ⟨ws, hws⟩ : ∃ ws, ws = (Sc.take (nargs y)).reverse := ⟨_, rfl⟩
              obtain ⟨rc, hrc⟩ : ∃ rc, rc = Sc.drop (nargs y) := ⟨_, rfl⟩
              have hwl : ws.length = nargs y := by rw [hws]; simp; omega
              rw [← hws] at hSa hsplit
              rw [← hrc] at hSr hsplit
              have wcode := hW (.code y.name y.bytes y.maxL y.ret) (in_wordsM hy hj (List.mem_cons_self ..))
              have winit := hW (.initialized y.name.cls) (in_wordsM hy hj (List.mem_cons_of_mem _ (List.mem_cons_self ..)))
              have wmore : ∀ w ∈ (if y.kind = 0 then [Jvm.Cond.static y.name] else if y.kind = 1 then [.instanceMethod y.name] else if y.kind = 2 then [.instanceMethod y.name, .privateMethod y.name] else [.declares y.name, .selects y.name.cls y.name y.name, .instanceMethod y.name]), w.before a0 Z = true := fun w q => hW w (in_wordsM hy hj (List.mem_cons_of_mem _ (List.mem_cons_of_mem _ q)))
              have hMH : y.name.cls ≠ "java/lang/invoke/MethodHandle" ∧ y.name.cls ≠ "java/lang/invoke/VarHandle" := ⟨yc5, yc6⟩
              have back := backOf (W := catSum rest) (len := 3) (R := R) (p := p) (e := e) (below := below) (s := s) (args := args) (met_of ih hy yc1 hcal hSa hent hH [] ({ frames := y.rf, cells := c1, slots := s1, locals := y.rw } : Room) (Nat.le_refl _) (Nat.le_refl _) (Nat.le_refl _) (Nat.le_refl _)) hZ wcode winit (by show y.rf + 1 ≤ _; omega) (by show _ + y.rw ≤ _; omega)
              have hWW : 2 * (mkF m pc A Sc).monitorRoom + (rc.map fun v => v.category).sum ≤ catSum rest := by show 2 * 0 + _ ≤ _; rw [hSr.cat]; omega
              have hpar : ∀ sig, parseMethodDescriptor y.name.desc = some sig → sig.parameters.length = y.npar := fun sig q => by
                unfold sigChk at yc2
                rw [q] at yc2
                simpa using yc2
              have fin : ∀ (v1' : Option Value) (T2 : State) (Lc : List Loc), Stand p l e R s m args below meth c T2 (locs ++ Lc) (cells + c1) (slots + s1) → QQ P Z n0 ρ v1 H1 v1' T2.heap Lc →
                  (∀ target, Steps p.tables e below (T2.setTop (mkF m (pc + 3) A (v1'.toList ++ rc))) target → Steps p.tables e below (T.setTop (mkF m pc A Sc)) target) →
                  Done P Z n0 p e below s ρ v H' (cells + (c0 + c1)) (slots + (s0 + s1)) (T.setTop (mkF m pc A Sc)) := by
                intro v1' T2 Lc X2 hq st2
                obtain ⟨hF2, t, hov, hH2⟩ := hq
                have := m3 p e R s m args below meth c T2 (locs ++ Lc) _ _ X2 cx0 (by omega) (by omega) (ρ ++ t) A (v1'.toList ++ rc) (hL.forget er).mono (by rw [forget_len]; exact hLl) (hov.list.app hSr.mono) hH2 (hF.app hF2)
                have q1 : cells + c1 + c0 = cells + (c0 + c1) := by omega
                have q2 : slots + s1 + s0 = slots + (s0 + s1) := by omega
                rw [q1, q2] at this
                exact this.step st2
              have hcR : cells + c1 ≤ R.cells := by omega
              have hsR : slots + s1 ≤ R.slots := by omega
              cases i with
              | invokestatic k =>
                obtain rfl : len = 3 := by simpa [lenOk] using hlenOk
                have hk0 : y.kind = 0 := by simpa [invKind] using hik
                have wl := hW (.methodLink d.name.cls k y.name) (in_wordsOf hdm hit (by show _ ∈ mLink P d k a b; unfold mLink; rw [if_neg hb1, hy]; exact List.mem_singleton.mpr rfl))
                have wst := wmore (.static y.name) (by rw [if_pos hk0]; exact List.mem_singleton.mpr rfl)
                have hna : nargs y = y.npar := by simp [nargs, hk0]
                obtain ⟨v1', _, ⟨T2, L2, k2', n2⟩, -, X2, ⟨Lc, hQ, l2, y2, z2⟩, st2⟩ := Jvm.LawKit.callS X hx (y := y.name) hown (mvT hZ wl) (mvT hZ wst) (mvT hZ winit) (mvT hZ wcode) hMH back (g := mkF m pc A Sc) rfl (by rw [hml]; exact hL.1.trans hLl) (argsL := ws) (rest := rc) (fun sig q => by rw [hpar sig q, hwl, hna]) hsplit hWW (dec hby) (fun _ _ => ⟨rfl, rfl, hcR, hsR⟩)
                dsimp only [Pt.U, Pt.locs, Pt.cells, Pt.slots] at X2 l2 y2 z2 st2 hQ
                subst l2 y2 z2
                exact fin v1' T2 Lc X2 hQ st2
              | invokespecial k =>
                obtain rfl : len = 3 := by simpa [lenOk] using hlenOk
                have hk1 : y.kind = 1 := by simpa [invKind] using hik
                have wl := hW (.methodLink d.name.cls k y.name) (in_wordsOf hdm hit (by show _ ∈ mLink P d k a b; unfold mLink; rw [if_neg hb1, hy]; exact List.mem_singleton.mpr rfl))
                have wst := wmore (.instanceMethod y.name) (by rw [if_neg (by omega), if_pos hk1]; exact List.mem_singleton.mpr rfl)
                have hna : nargs y = y.npar + 1 := by simp [nargs, hk1]
                simp [hk1] at yc7
                have wcode' : (Jvm.Cond.code y.name y.bytes y.maxL none).before a0 Z = true := by rw [← yc7.2]; exact wcode
                unfold recvOk at hrecv
                rw [if_neg (by omega)] at hrecv
                split at hrecv
                · rename_i o as'
                  obtain ⟨ad, ws', g1, rfl, ha'⟩ := hSa.ref
                  have hst : Sc = ws'.reverse ++ .ref ad :: rc := by rw [hsplit]; simp
                  obtain ⟨v1', _, ⟨T2, L2, k2', n2⟩, -, X2, ⟨Lc, hQ, l2, y2, z2⟩, st2⟩ := X.specialBack hx (y := y.name) yc7.1 hown (mvT hZ wl) (mvT hZ wst) (mvT hZ wcode') hMH back (g := mkF m pc A Sc) rfl (by rw [hml]; exact hL.1.trans hLl) (Steps.refl _) (a := ad) (argsL := ws') (rest := rc) (fun sig q => by rw [hpar sig q]; simp [hna] at hwl; omega) hst hWW (dec hby) (fun _ _ => ⟨rfl, rfl, hcR, hsR⟩)
                  dsimp only [Pt.U, Pt.locs, Pt.cells, Pt.slots] at X2 l2 y2 z2 st2 hQ
                  subst l2 y2 z2
                  exact fin v1' T2 Lc X2 hQ fun t z => st2.trans z
                · cases hrecv
              | invokevirtual k =>
                obtain rfl : len = 3 := by simpa [lenOk] using hlenOk
                have wl := hW (.methodLink d.name.cls k y.name) (in_wordsOf hdm hit (by show _ ∈ mLink P d k a b; unfold mLink; rw [if_neg hb1, hy]; exact List.mem_singleton.mpr rfl))
                have hk23 : y.kind = 2 ∨ y.kind = 3 := by simpa [invKind] using hik
                have hk0 : ¬ y.kind = 0 := by omega
                have hk1 : ¬ y.kind = 1 := by omega
                have hna : nargs y = y.npar + 1 := by simp [nargs, hk0]
                unfold recvOk at hrecv
                rw [if_neg hk0] at hrecv
                split at hrecv
                · rename_i o as'
                  obtain ⟨ad, ws', g1, rfl, ha'⟩ := hSa.ref
                  have hst : Sc = ws'.reverse ++ .ref ad :: rc := by rw [hsplit]; simp
                  split at hrecv
                  · rename_i c0 fs hc0
                    obtain rfl : c0 = y.cid := by simpa using hrecv
                    obtain ⟨ad', g2, cd, q1, q2, q3, q4⟩ := hH.at hc0
                    rw [g1] at g2; cases g2
                    have hcd := cid_of hP hym q1
                    have hcm : cd ∈ P.cls := List.mem_of_getElem? q1
                    rw [hcd] at q2
                    by_cases hk2 : y.kind = 2
                    · have w1 := wmore (.instanceMethod y.name) (by rw [if_neg hk0, if_neg hk1, if_pos hk2]; simp)
                      have w2 := wmore (.privateMethod y.name) (by rw [if_neg hk0, if_neg hk1, if_pos hk2]; simp)
                      have w3 := hW (.instantiable cd.1 cd.2.1) (in_wordsC hcm (List.mem_cons_self ..))
                      rw [hcd] at w3
                      obtain ⟨cI, kI, i1, i2, i3, i4, -⟩ := Cond.instantiable_spec (mvT hZ w3 (args := args) : (Jvm.Cond.instantiable y.name.cls cd.2.1).before args s = true)
                      have hsel := selects_self_of_private (args := args) i1 i2 (by simp at i4; exact i4.1) (Cond.privateMethod_at (mvP hZ w2 (args := #[]))) (mvT hZ w1) hMH
                      obtain ⟨cq, hq1, hq2⟩ := q2.cell
                      obtain ⟨v1', _, ⟨T2, L2, k2', n2⟩, -, X2, ⟨Lc, hQ, l2, y2, z2⟩, st2⟩ := X.privateBack hx (y := y.name) hown (mvT hZ wl) (mvT hZ w1) hsel (Cond.privateMethod_at (mvP hZ w2 (args := #[]))) (mvT hZ wcode) hMH back (g := mkF m pc A Sc) rfl (by rw [hml]; exact hL.1.trans hLl) (Steps.refl _) (a := ad) hq1 hq2 (argsL := ws') (rest := rc) (fun sig q => by rw [hpar sig q]; simp [hna] at hwl; omega) hst hWW (dec hby) (fun _ _ => ⟨rfl, rfl, hcR, hsR⟩)
                      dsimp only [Pt.U, Pt.locs, Pt.cells, Pt.slots] at X2 l2 y2 z2 st2 hQ
                      subst l2 y2 z2
                      exact fin v1' T2 Lc X2 hQ fun t z => st2.trans z
                    · have w1 := wmore (.declares y.name) (by rw [if_neg hk0, if_neg hk1, if_neg hk2]; simp)
                      have w2 := wmore (.selects y.name.cls y.name y.name) (by rw [if_neg hk0, if_neg hk1, if_neg hk2]; simp)
                      have w3 := wmore (.instanceMethod y.name) (by rw [if_neg hk0, if_neg hk1, if_neg hk2]; simp)
                      obtain ⟨cq, kq, qa, qb, qc⟩ := isOf hZ rfl q2
                      obtain ⟨v1', _, ⟨T2, L2, k2', n2⟩, -, X2, ⟨Lc, hQ, l2, y2, z2⟩, st2⟩ := X.virtualBack hx (y := y.name) (z := y.name) hown (mvT hZ wl) (mvT hZ w1) (notFace_of_selects (args := #[]) (mvT hZ w2)) (mvT hZ w2) (mvT hZ w3) hMH back qa qc (g := mkF m pc A Sc) rfl (by rw [hml]; exact hL.1.trans hLl) (Steps.refl _) (argsL := ws') (rest := rc) (fun sig q => by rw [hpar sig q]; simp [hna] at hwl; omega) hst hWW (dec hby) (fun _ _ => ⟨rfl, rfl, hcR, hsR⟩)
                      dsimp only [Pt.U, Pt.locs, Pt.cells, Pt.slots] at X2 l2 y2 z2 st2 hQ
                      subst l2 y2 z2
                      exact fin v1' T2 Lc X2 hQ fun t z => st2.trans z
                  · cases hrecv
                · cases hrecv
              | _ => simp [isInv] at hinv
            · cases h
          · cases h
      · split at h
        · split at h
          · rename_i S1 H1 k1' hxN
            obtain ⟨c0, s0, hcon, rfl, rfl⟩ := res_ext (α := Unit) h
            have m3 := ih mi (pc + len) _ S1 H1 v H' c0 s0 hcon d hmi
            intro p e R s m args below meth c T locs cells slots X cx k1 k2 ρ A Sc hL hLl hS hH hF
            have cx0 := cx
            obtain ⟨hx, hZ, hby, hml, hown, hnm, hret, hlk, hrf, hrw⟩ := cx
            obtain ⟨T2, ad, Sc2, X2, hS2, hH2, st2⟩ := stepN (A := A) X hx hZ hown hP hW hdm hit (dec hby) hlenOk hS hH hxN (by omega) (by omega)
            have := m3 p e R s m args below meth c T2 locs _ _ X2 cx0 (by omega) (by omega) (ρ ++ [ad]) A Sc2 (hL.forget er).mono (by rw [forget_len]; exact hLl) hS2 hH2 hF
            have q1 : cells + 1 + c0 = cells + (c0 + 1) := by omega
            have q2 : slots + k1' + s0 = slots + (s0 + k1') := by omega
            rw [q1, q2] at this
            exact this.step st2
          · cases h
        · split at h
          · rename_i L1 S1 H1 hxI
            have m3 := ih mi (pc + len) L1 S1 H1 v H' kc ks h d hmi
            intro p e R s m args below meth c T locs cells slots X cx k1 k2 ρ A Sc hL hLl hS hH hF
            have cx0 := cx
            obtain ⟨hx, hZ, hby, hml, hown, hnm, hret, hlk, hrf, hrw⟩ := cx
            obtain ⟨T2, locs2, A2, Sc2, X2, x3, hL2, hS2, hH2, hF2, st2⟩ := stepX X hx hZ hown hnm hP hW hdm hit (dec hby) hlenOk (hL.forget er) hS hH hF hxI
            have := m3 p e R s m args below meth c T2 locs2 cells slots X2 cx0 k1 k2 ρ A2 Sc2 hL2 (by rw [x3, forget_len]; exact hLl) hS2 hH2 hF2
            exact Done.step (t := []) (by rw [List.append_nil]; exact this) st2
          · cases h
end Sound
end Jvm.Own
namespace Jvm.Own
open Jvm Jvm.ClassFile Sem Op Lib Jvm.Free Jvm.Stand Jvm.LawKit Jvm.RoadKit Bundle
/-! Runs of the plain machine, rule by rule -/
def OEnds (P : PD) (mi pc : Nat) (L : List Slot) (S : List Value) (H : AHeap) (r : Res) : Prop := ∃ n0, ∀ n, n0 ≤ n → exe P n mi pc L S H = some r
def plainI : Instr → Bool
  | .goto _ => false
  | .if_icmp _ _ => false
  | .ifCond _ _ => false
  | .ifnonnull _ => false
  | .ireturn => false
  | .lreturn => false
  | .return_ => false
  | .invokestatic _ => false
  | .invokespecial _ => false
  | .invokevirtual _ => false
  | .new _ => false
  | .newarray _ => false
  | _ => true
section Rules
variable {P : PD} {mi pc len a q : Nat} {er : List Bool} {b : Int} {i : Instr} {d y : MD} {L L' : List Slot} {S S' as rest : List Value} {H H' H1 : AHeap} {r : Res} {kc ks : Nat} {v : Option Value}
theorem OEnds.up (h : ∀ n, exe P n mi q L' S' H' = some r → exe P (n + 1) mi pc L S H = some r) (E : OEnds P mi q L' S' H' r) : OEnds P mi pc L S H r := by
  obtain ⟨n0, E⟩ := E
  refine ⟨n0 + 1, fun n hn => ?_⟩
  obtain ⟨k, rfl⟩ : ∃ k, n = k + 1 := ⟨n - 1, by omega⟩
  exact h k (E k (by omega))
theorem OEnds.plain (hm : P.mth[mi]? = some d) (hf : fetch d.code pc = some (i, len, er, a, b)) (hp : plainI i = true) (hx : xI P (d.name.name == "<init>") d.cid i a b (forget er L) S H = some (L', S', H')) (E : OEnds P mi (pc + len) L' S' H' r) : OEnds P mi pc L S H r := by
  refine E.up fun n h => ?_
  unfold exe
  rw [hm]
  simp only
  rw [hf]
  simp only
  split
  all_goals first | (simp [plainI] at hp; done) | skip
  have h1 : ¬ isInv i = true := by
    cases i <;> first | (simp [plainI] at hp; done) | simp [isInv]
  have h2 : ¬ isNew i = true := by
    cases i <;> first | (simp [plainI] at hp; done) | simp [isNew]
  rw [if_neg h1, if_neg h2, hx]
  exact h
theorem OEnds.goto {o : Int} (hm : P.mth[mi]? = some d) (hf : fetch d.code pc = some (.goto o, len, er, a, b)) (ht : tgt pc o = some q) (E : OEnds P mi q (forget er L) S H r) : OEnds P mi pc L S H r := by
  refine E.up fun n h => ?_
  unfold exe
  rw [hm]
  simp only
  rw [hf]
  simp only
  rw [ht]
  exact h
theorem OEnds.icmpT {o : Int} {cd : ClassFile.Cond} {x z : Int32} (hm : P.mth[mi]? = some d) (hf : fetch d.code pc = some (.if_icmp cd o, len, er, a, b)) (ht : tgt pc o = some q) (hc : if_icmp.holds cd x z = true) (E : OEnds P mi q (forget er L) S H r) : OEnds P mi pc L (.int z :: .int x :: S) H r := by
  refine E.up fun n h => ?_
  unfold exe
  rw [hm]
  simp only
  rw [hf]
  simp only
  rw [if_pos hc, ht]
  exact h
theorem OEnds.icmpF {o : Int} {cd : ClassFile.Cond} {x z : Int32} (hm : P.mth[mi]? = some d) (hf : fetch d.code pc = some (.if_icmp cd o, len, er, a, b)) (hc : if_icmp.holds cd x z = false) (E : OEnds P mi (pc + 3) (forget er L) S H r) : OEnds P mi pc L (.int z :: .int x :: S) H r := by
  refine E.up fun n h => ?_
  unfold exe
  rw [hm]
  simp only
  rw [hf]
  simp only
  rw [if_neg (by rw [hc]; exact Bool.false_ne_true)]
  exact h
theorem OEnds.ifT {o : Int} {cd : ClassFile.Cond} {x : Int32} (hm : P.mth[mi]? = some d) (hf : fetch d.code pc = some (.ifCond cd o, len, er, a, b)) (ht : tgt pc o = some q) (hc : if_icmp.holds cd x 0 = true) (E : OEnds P mi q (forget er L) S H r) : OEnds P mi pc L (.int x :: S) H r := by
  refine E.up fun n h => ?_
  unfold exe
  rw [hm]
  simp only
  rw [hf]
  simp only
  rw [if_pos ((if0 cd x).trans hc), ht]
  exact h
theorem OEnds.ifF {o : Int} {cd : ClassFile.Cond} {x : Int32} (hm : P.mth[mi]? = some d) (hf : fetch d.code pc = some (.ifCond cd o, len, er, a, b)) (hc : if_icmp.holds cd x 0 = false) (E : OEnds P mi (pc + 3) (forget er L) S H r) : OEnds P mi pc L (.int x :: S) H r := by
  refine E.up fun n h => ?_
  unfold exe
  rw [hm]
  simp only
  rw [hf]
  simp only
  rw [if_neg (by rw [if0 cd x, hc]; exact Bool.false_ne_true)]
  exact h
theorem OEnds.nonnull {o : Int} {x : Nat} (hm : P.mth[mi]? = some d) (hf : fetch d.code pc = some (.ifnonnull o, len, er, a, b)) (ht : tgt pc o = some q) (E : OEnds P mi q (forget er L) S H r) : OEnds P mi pc L (.ref x :: S) H r := by
  refine E.up fun n h => ?_
  unfold exe
  rw [hm]
  simp only
  rw [hf]
  simp only
  rw [ht]
  exact h
theorem OEnds.iret {x : Int32} {u : Value} (hm : P.mth[mi]? = some d) (hf : fetch d.code pc = some (.ireturn, len, er, a, b)) (hv : retV d.ret x = some u) : OEnds P mi pc L [.int x] H (some u, H, 0, 0) := by
  refine ⟨1, fun n hn => ?_⟩
  obtain ⟨k, rfl⟩ : ∃ k, n = k + 1 := ⟨n - 1, by omega⟩
  unfold exe
  rw [hm]
  simp only
  rw [hf]
  simp only
  rw [hv]
theorem OEnds.lret {x : Int64} (hm : P.mth[mi]? = some d) (hf : fetch d.code pc = some (.lreturn, len, er, a, b)) (hv : d.ret = some .long) : OEnds P mi pc L [.long x] H (some (.long x), H, 0, 0) := by
  refine ⟨1, fun n hn => ?_⟩
  obtain ⟨k, rfl⟩ : ∃ k, n = k + 1 := ⟨n - 1, by omega⟩
  unfold exe
  rw [hm]
  simp only
  rw [hf]
  simp only
  rw [if_pos hv]
theorem OEnds.vret (hm : P.mth[mi]? = some d) (hf : fetch d.code pc = some (.return_, len, er, a, b)) (hv : d.ret = none) : OEnds P mi pc L [] H (none, H, 0, 0) := by
  refine ⟨1, fun n hn => ?_⟩
  obtain ⟨k, rfl⟩ : ∃ k, n = k + 1 := ⟨n - 1, by omega⟩
  unfold exe
  rw [hm]
  simp only
  rw [hf]
  simp only
  rw [if_pos hv]
theorem OEnds.oinit {k x : Nat} (hm : P.mth[mi]? = some d) (hf : fetch d.code pc = some (.invokespecial k, len, er, a, -1)) (hr : 1 ≤ d.rf ∧ catSum S + 12 ≤ d.rw) (E : OEnds P mi (pc + 3) (forget er L) S H r) : OEnds P mi pc L (.ref x :: S) H r := by
  refine E.up fun n h => ?_
  unfold exe
  rw [hm]
  simp only
  rw [hf]
  simp only [isInv, if_true]
  rw [if_pos hr]
  exact h
theorem OEnds.call (hm : P.mth[mi]? = some d) (hf : fetch d.code pc = some (i, len, er, a, b)) (hi : isInv i = true) (hb : ¬ b = -1) (hy : P.mth[a]? = some y) (hao : argsOf (nargs y) S = some (as, rest))
    (hc : (decide (0 < a) && invKind i y.kind && recvOk P H y as && fitsRoom d y rest && decide ((entA as).length ≤ y.maxL)) = true) (E1 : OEnds P a 0 (entL as y.maxL) [] H (v, H1, kc, ks)) (E2 : OEnds P mi (pc + 3) (forget er L) (v.toList ++ rest) H1 r) : OEnds P mi pc L S H (addR r kc ks) := by
  obtain ⟨n1, E1⟩ := E1
  obtain ⟨n2, E2⟩ := E2
  refine ⟨n1 + n2 + 1, fun n hn => ?_⟩
  obtain ⟨k, rfl⟩ : ∃ k, n = k + 1 := ⟨n - 1, by omega⟩
  have e1 := E1 k (by omega)
  have e2 := E2 k (by omega)
  unfold exe
  rw [hm]
  simp only
  rw [hf]
  simp only
  split
  all_goals first | (simp [isInv] at hi; done) | skip
  rw [if_pos hi, if_neg hb, hy]
  simp only
  rw [hao]
  simp only
  rw [if_pos hc, e1]
  simp only
  rw [e2]
  rfl
theorem OEnds.call0 (hm : P.mth[mi]? = some d) (hf : fetch d.code pc = some (i, len, er, a, b)) (hi : isInv i = true) (hb : ¬ b = -1) (hy : P.mth[a]? = some y) (hao : argsOf (nargs y) S = some (as, rest))
    (hc : (decide (0 < a) && invKind i y.kind && recvOk P H y as && fitsRoom d y rest && decide ((entA as).length ≤ y.maxL)) = true) (E1 : OEnds P a 0 (entL as y.maxL) [] H (v, H1, 0, 0)) (E2 : OEnds P mi (pc + 3) (forget er L) (v.toList ++ rest) H1 r) : OEnds P mi pc L S H r :=
  OEnds.call (r := r) hm hf hi hb hy hao hc E1 E2
theorem OEnds.made (hm : P.mth[mi]? = some d) (hf : fetch d.code pc = some (i, len, er, a, b)) (hi : isNew i = true) (hx : xN P i a S H = some (S', H', ks)) (E : OEnds P mi (pc + len) (forget er L) S' H' r) : OEnds P mi pc L S H (addR r 1 ks) := by
  obtain ⟨n0, E⟩ := E
  refine ⟨n0 + 1, fun n hn => ?_⟩
  obtain ⟨k, rfl⟩ : ∃ k, n = k + 1 := ⟨n - 1, by omega⟩
  have e1 := E k (by omega)
  unfold exe
  rw [hm]
  simp only
  rw [hf]
  simp only
  split
  all_goals first | (simp [isNew] at hi; done) | skip
  have h1 : ¬ isInv i = true := by
    cases i <;> first | (simp [isNew] at hi; done) | simp [isInv]
  rw [if_neg h1, if_pos hi, hx]
  simp only
  rw [e1]
  rfl
end Rules
/-- k plain instructions and jumps in one go -/
def adv (P : PD) (d : MD) : Nat → Nat → List Slot → List Value → AHeap → Option (Nat × List Slot × List Value × AHeap)
  | 0, pc, L, S, H => some (pc, L, S, H)
  | k + 1, pc, L, S, H => match fetch d.code pc with
    | some (i, len, er, a, b) => match i with
      | .goto o => match tgt pc o with
        | some q => adv P d k q (forget er L) S H
        | none => none
      | i => if plainI i = true then match xI P (d.name.name == "<init>") d.cid i a b (forget er L) S H with
          | some (L', S', H') => adv P d k (pc + len) L' S' H'
          | none => none
        else none
    | none => none
theorem OEnds.adv {P : PD} {mi : Nat} {d : MD} (hm : P.mth[mi]? = some d) {r : Res} : ∀ (k : Nat) {pc pc' : Nat} {L L' : List Slot} {S S' : List Value} {H H' : AHeap}, adv P d k pc L S H = some (pc', L', S', H') → OEnds P mi pc' L' S' H' r → OEnds P mi pc L S H r
  | 0, _, _, _, _, _, _, _, _, h, E => by
    unfold Own.adv at h
    cases h
    exact E
  | k + 1, pc, pc', L, L', S, S', H, H', h, E => by
    unfold Own.adv at h
    split at h
    · rename_i it i len er a b hf
      split at h
      · rename_i o
        split at h
        · rename_i q hq
          exact OEnds.goto hm hf hq (OEnds.adv hm k h E)
        · cases h
      · split at h
        · rename_i hp
          split at h
          · rename_i L1 S1 H1 hx
            exact OEnds.plain hm hf hp hx (OEnds.adv hm k h E)
          · cases h
        · cases h
    · cases h
theorem x_iaload {P : PD} {ini : Bool} {cid a o : Nat} {b : Int} {L : List Slot} {S : List Value} {H : AHeap} {A : List Int32} {j x : Int32} (h : H[o]? = some (.inr (.inl (false, A)))) (hx : rdA A j = some x) : xI P ini cid .iaload a b L (.int j :: .ref o :: S) H = some (L, .int x :: S, H) := by simp [xI, h, hx]
theorem x_baload {P : PD} {ini : Bool} {cid a o : Nat} {b : Int} {L : List Slot} {S : List Value} {H : AHeap} {A : List Int32} {j x : Int32} (h : H[o]? = some (.inr (.inl (true, A)))) (hx : rdA A j = some x) : xI P ini cid .baload a b L (.int j :: .ref o :: S) H = some (L, .int x :: S, H) := by simp [xI, h, hx]
theorem x_laload {P : PD} {ini : Bool} {cid a o : Nat} {b : Int} {L : List Slot} {S : List Value} {H : AHeap} {A : List Int64} {j : Int32} {x : Int64} (h : H[o]? = some (.inr (.inr A))) (hx : rdA A j = some x) : xI P ini cid .laload a b L (.int j :: .ref o :: S) H = some (L, .long x :: S, H) := by simp [xI, h, hx]
theorem x_iastore {P : PD} {ini : Bool} {cid a o : Nat} {b : Int} {L : List Slot} {S : List Value} {H : AHeap} {A A' : List Int32} {j x : Int32} (h : H[o]? = some (.inr (.inl (false, A)))) (hn : P.nr ≤ o) (hx : wrA A j x = some A') : xI P ini cid .iastore a b L (.int x :: .int j :: .ref o :: S) H = some (L, S, H.set o (.inr (.inl (false, A')))) := by simp [xI, h, hx, hn]
theorem x_bastore {P : PD} {ini : Bool} {cid a o : Nat} {b : Int} {L : List Slot} {S : List Value} {H : AHeap} {A A' : List Int32} {j x : Int32} (h : H[o]? = some (.inr (.inl (true, A)))) (hn : P.nr ≤ o) (hx : wrA A j (x &&& 1) = some A') : xI P ini cid .bastore a b L (.int x :: .int j :: .ref o :: S) H = some (L, S, H.set o (.inr (.inl (true, A')))) := by simp [xI, h, hx, hn]
theorem x_lastore {P : PD} {ini : Bool} {cid a o : Nat} {b : Int} {L : List Slot} {S : List Value} {H : AHeap} {A A' : List Int64} {j : Int32} {x : Int64} (h : H[o]? = some (.inr (.inr A))) (hn : P.nr ≤ o) (hx : wrA A j x = some A') : xI P ini cid .lastore a b L (.long x :: .int j :: .ref o :: S) H = some (L, S, H.set o (.inr (.inr A'))) := by simp [xI, h, hx, hn]
theorem x_irem {P : PD} {ini : Bool} {cid a : Nat} {b : Int} {L : List Slot} {S : List Value} {H : AHeap} {x y : Int32} (h : ¬ y = 0) : xI P ini cid .irem a b L (.int y :: .int x :: S) H = some (L, .int (x % y) :: S, H) := by simp [xI, h]
theorem x_idiv {P : PD} {ini : Bool} {cid a : Nat} {b : Int} {L : List Slot} {S : List Value} {H : AHeap} {x y : Int32} (h : ¬ y = 0) : xI P ini cid .idiv a b L (.int y :: .int x :: S) H = some (L, .int (x / y) :: S, H) := by simp [xI, h]
theorem x_lrem {P : PD} {ini : Bool} {cid a : Nat} {b : Int} {L : List Slot} {S : List Value} {H : AHeap} {x y : Int64} (h : ¬ y = 0) : xI P ini cid .lrem a b L (.long y :: .long x :: S) H = some (L, .long (x % y) :: S, H) := by simp [xI, h]
theorem x_ldiv {P : PD} {ini : Bool} {cid a : Nat} {b : Int} {L : List Slot} {S : List Value} {H : AHeap} {x y : Int64} (h : ¬ y = 0) : xI P ini cid .ldiv a b L (.long y :: .long x :: S) H = some (L, .long (x / y) :: S, H) := by simp [xI, h]
theorem c_lt {x y : Int64} : XT.cmpL x y < 0 ↔ x < y := by
  unfold XT.cmpL; split <;> (try split) <;> simp_all [Int64.lt_iff_toInt_lt, ← Int64.toInt_inj] <;> omega
theorem c_gt {x y : Int64} : 0 < XT.cmpL x y ↔ y < x := by
  unfold XT.cmpL; split <;> (try split) <;> simp_all [Int64.lt_iff_toInt_lt, ← Int64.toInt_inj] <;> omega
theorem c_eq {x y : Int64} : XT.cmpL x y = 0 ↔ x = y := by
  unfold XT.cmpL; split <;> (try split) <;> simp_all [Int64.lt_iff_toInt_lt, ← Int64.toInt_inj] <;> omega
end Jvm.Own
namespace Jvm.Own
open Jvm Jvm.ClassFile Sem Op Lib Jvm.Free Jvm.Stand Jvm.LawKit Jvm.RoadKit Bundle
theorem bnd {α β : Type} {o : Option α} {f : α → Option β} {b : β} (h : o.bind f = some b) : ∃ a, o = some a ∧ f a = some b := Option.bind_eq_some_iff.mp h
theorem x_putZ {P : PD} {ini : Bool} {k cid a o : Nat} {b : Int} {L : List Slot} {S : List Value} {H : AHeap} {fs : List Value} {nm ds : String} {x : Int32} (h : H[o]? = some (.inl (cid, fs))) (hn : P.nr ≤ o) (hf : ((P.cls[cid]?).bind fun cd => cd.2.2[a]?) = some (nm, ds, .boolean, false)) (hx : x = 0 ∨ x = 1) :
    xI P ini cid (.putfield k) a b L (.int x :: .ref o :: S) H = some (L, S, H.set o (.inl (cid, fs.set a (.int x)))) := by
  rcases hx with rfl | rfl <;> simp [xI, h, hn, hf, putOk]
section Rules
variable {P : PD} {mi pc len a q : Nat} {er : List Bool} {b : Int} {i : Instr} {d y : MD} {L L' : List Slot} {S S' as rest : List Value} {H H' H1 : AHeap} {r : Res} {kc ks : Nat} {v : Option Value}
theorem OEnds.made1 {w : Option Value} {Hf : AHeap} (hm : P.mth[mi]? = some d) (hf : fetch d.code pc = some (i, len, er, a, b)) (hi : isNew i = true) (hx : xN P i a S H = some (S', H', ks)) {c0 s0 c1 s1 : Nat} (hr : (c1, s1) = (c0 + 1, s0 + ks)) (E : OEnds P mi (pc + len) (forget er L) S' H' (w, Hf, c0, s0)) : OEnds P mi pc L S H (w, Hf, c1, s1) := by
  cases hr
  exact OEnds.made (r := (w, Hf, c0, s0)) hm hf hi hx E
/-! The same, of a run whose end is told by a property -/
def OEndsQ (P : PD) (mi pc : Nat) (L : List Slot) (S : List Value) (H : AHeap) (Q : Res → Prop) : Prop := ∃ r, OEnds P mi pc L S H r ∧ Q r
variable {Q : Res → Prop}
theorem OEndsQ.plain (hm : P.mth[mi]? = some d) (hf : fetch d.code pc = some (i, len, er, a, b)) (hp : plainI i = true) (hx : xI P (d.name.name == "<init>") d.cid i a b (forget er L) S H = some (L', S', H')) (E : OEndsQ P mi (pc + len) L' S' H' Q) : OEndsQ P mi pc L S H Q := by
  obtain ⟨r, E, hq⟩ := E; exact ⟨r, OEnds.plain hm hf hp hx E, hq⟩
theorem OEndsQ.icmpT {o : Int} {cd : ClassFile.Cond} {x z : Int32} (hm : P.mth[mi]? = some d) (hf : fetch d.code pc = some (.if_icmp cd o, len, er, a, b)) (ht : tgt pc o = some q) (hc : if_icmp.holds cd x z = true) (E : OEndsQ P mi q (forget er L) S H Q) : OEndsQ P mi pc L (.int z :: .int x :: S) H Q := by
  obtain ⟨r, E, hq⟩ := E; exact ⟨r, OEnds.icmpT hm hf ht hc E, hq⟩
theorem OEndsQ.icmpF {o : Int} {cd : ClassFile.Cond} {x z : Int32} (hm : P.mth[mi]? = some d) (hf : fetch d.code pc = some (.if_icmp cd o, len, er, a, b)) (hc : if_icmp.holds cd x z = false) (E : OEndsQ P mi (pc + 3) (forget er L) S H Q) : OEndsQ P mi pc L (.int z :: .int x :: S) H Q := by
  obtain ⟨r, E, hq⟩ := E; exact ⟨r, OEnds.icmpF hm hf hc E, hq⟩
theorem OEndsQ.ifT {o : Int} {cd : ClassFile.Cond} {x : Int32} (hm : P.mth[mi]? = some d) (hf : fetch d.code pc = some (.ifCond cd o, len, er, a, b)) (ht : tgt pc o = some q) (hc : if_icmp.holds cd x 0 = true) (E : OEndsQ P mi q (forget er L) S H Q) : OEndsQ P mi pc L (.int x :: S) H Q := by
  obtain ⟨r, E, hq⟩ := E; exact ⟨r, OEnds.ifT hm hf ht hc E, hq⟩
theorem OEndsQ.ifF {o : Int} {cd : ClassFile.Cond} {x : Int32} (hm : P.mth[mi]? = some d) (hf : fetch d.code pc = some (.ifCond cd o, len, er, a, b)) (hc : if_icmp.holds cd x 0 = false) (E : OEndsQ P mi (pc + 3) (forget er L) S H Q) : OEndsQ P mi pc L (.int x :: S) H Q := by
  obtain ⟨r, E, hq⟩ := E; exact ⟨r, OEnds.ifF hm hf hc E, hq⟩
theorem OEndsQ.nonnull {o : Int} {x : Nat} (hm : P.mth[mi]? = some d) (hf : fetch d.code pc = some (.ifnonnull o, len, er, a, b)) (ht : tgt pc o = some q) (E : OEndsQ P mi q (forget er L) S H Q) : OEndsQ P mi pc L (.ref x :: S) H Q := by
  obtain ⟨r, E, hq⟩ := E; exact ⟨r, OEnds.nonnull hm hf ht E, hq⟩
theorem OEndsQ.call0 (hm : P.mth[mi]? = some d) (hf : fetch d.code pc = some (i, len, er, a, b)) (hi : isInv i = true) (hb : ¬ b = -1) (hy : P.mth[a]? = some y) (hao : argsOf (nargs y) S = some (as, rest))
    (hc : (decide (0 < a) && invKind i y.kind && recvOk P H y as && fitsRoom d y rest && decide ((entA as).length ≤ y.maxL)) = true) (E1 : OEnds P a 0 (entL as y.maxL) [] H (v, H1, 0, 0)) (E2 : OEndsQ P mi (pc + 3) (forget er L) (v.toList ++ rest) H1 Q) : OEndsQ P mi pc L S H Q := by
  obtain ⟨r, E, hq⟩ := E2; exact ⟨r, OEnds.call0 hm hf hi hb hy hao hc E1 E, hq⟩
theorem OEndsQ.adv (hm : P.mth[mi]? = some d) (k : Nat) {pc' : Nat} (h : adv P d k pc L S H = some (pc', L', S', H')) (E : OEndsQ P mi pc' L' S' H' Q) : OEndsQ P mi pc L S H Q := by
  obtain ⟨r, E, hq⟩ := E; exact ⟨r, OEnds.adv hm k h E, hq⟩
/-- what a law's run ends with: its answer, and at the most so many cells and slots made -/
def LawQ (x : Int32) (kc ks : Nat) (r : Res) : Prop := r.1 = some (.int x) ∧ r.2.2.1 ≤ kc ∧ r.2.2.2 ≤ ks
theorem OEndsQ.iret {x u : Int32} (hm : P.mth[mi]? = some d) (hf : fetch d.code pc = some (.ireturn, len, er, a, b)) (hv : retV d.ret x = some (.int u)) : OEndsQ P mi pc L [.int x] H (LawQ u kc ks) :=
  ⟨_, OEnds.iret hm hf hv, rfl, Nat.zero_le _, Nat.zero_le _⟩
theorem OEndsQ.weak {x : Int32} {c0 s0 : Nat} (h1 : c0 ≤ kc) (h2 : s0 ≤ ks) (E : OEndsQ P mi pc L S H (LawQ x c0 s0)) : OEndsQ P mi pc L S H (LawQ x kc ks) := by
  obtain ⟨r, E, q1, q2, q3⟩ := E; exact ⟨r, E, q1, Nat.le_trans q2 h1, Nat.le_trans q3 h2⟩
theorem OEndsQ.made {x : Int32} {c0 s0 c1 s1 : Nat} (hm : P.mth[mi]? = some d) (hf : fetch d.code pc = some (i, len, er, a, b)) (hi : isNew i = true) (hx : xN P i a S H = some (S', H', ks)) (h1 : c0 + 1 ≤ c1) (h2 : s0 + ks ≤ s1) (E : OEndsQ P mi (pc + len) (forget er L) S' H' (LawQ x c0 s0)) : OEndsQ P mi pc L S H (LawQ x c1 s1) := by
  obtain ⟨⟨v, Hf, k, n⟩, E, q1, q2, q3⟩ := E
  dsimp only at q1 q2 q3
  exact ⟨_, OEnds.made hm hf hi hx E, q1, by show k + 1 ≤ c1; omega, by show n + ks ≤ s1; omega⟩
theorem OEndsQ.callN {x : Int32} {c0 s0 c1 s1 : Nat} (hm : P.mth[mi]? = some d) (hf : fetch d.code pc = some (i, len, er, a, b)) (hi : isInv i = true) (hb : ¬ b = -1) (hy : P.mth[a]? = some y) (hao : argsOf (nargs y) S = some (as, rest))
    (hc : (decide (0 < a) && invKind i y.kind && recvOk P H y as && fitsRoom d y rest && decide ((entA as).length ≤ y.maxL)) = true) (E1 : OEnds P a 0 (entL as y.maxL) [] H (v, H1, kc, ks)) (h1 : c0 + kc ≤ c1) (h2 : s0 + ks ≤ s1) (E2 : OEndsQ P mi (pc + 3) (forget er L) (v.toList ++ rest) H1 (LawQ x c0 s0)) : OEndsQ P mi pc L S H (LawQ x c1 s1) := by
  obtain ⟨⟨v, Hf, k, n⟩, E, q1, q2, q3⟩ := E2
  dsimp only at q1 q2 q3
  exact ⟨_, OEnds.call hm hf hi hb hy hao hc E1 E, q1, by show k + kc ≤ c1; omega, by show n + ks ≤ s1; omega⟩
end Rules
/-! From the machine to the claim -/
theorem law_met {P : PD} {Z : State} {a0 : Array Value} {l : Launch} {y : MD} {as ws : List Value} {H : AHeap} {ρ : List Addr} {n0 kc ks : Nat} {h : Heap} (hP : chk P = true) (hW : ∀ w ∈ wordsOf P, w.before a0 Z = true) (hy : P.mth[0]? = some y)
    (E : OEndsQ P 0 0 (entL as y.maxL) [] H (LawQ 1 kc ks)) (hS : SR ρ as ws) (hlen : (entA as).length ≤ y.maxL) (hH : HR P Z n0 h ρ H) (w0 : List Jvm.Cond) (rm : Room) (r1 : y.rf ≤ rm.frames) (r2 : y.rw ≤ rm.locals) (r3 : kc ≤ rm.cells) (r4 : ks ≤ rm.slots) :
    MetFree l y.name (head1 (Jvm.Cond.code y.name y.bytes y.maxL y.ret :: w0) rm) (fun a U => a = ws.toArray ∧ Z.Warmed39 U.vm ∧ U.heap = h) (fun _ _ _ _ _ => True)
      (fun _ U o U' => ∃ L, o = .returned (some (.int 1)) ∧ Fr n0 L ∧ FrameEnd U o U' L kc ks) := by
  obtain ⟨⟨v, H1, c1, s1⟩, ⟨n, E⟩, q1, q2, q3⟩ := E
  dsimp only at q1 q2 q3
  subst q1
  have hpn : plainName y.name.cls = true := by
    have := mChk_of hP (List.mem_of_getElem? hy)
    simp only [mChk, Bool.and_eq_true] at this
    exact this.1.1.1.1.1.1
  have M := met_of (l := l) (n := n) (sound hP hW n) hy hpn (E n (Nat.le_refl _)) hS hlen hH w0 rm r1 r2 (Nat.le_trans q2 r3) (Nat.le_trans q3 r4)
  intro p e ha hc hk s m args below hf happ hp hK
  obtain ⟨n', o, h1, h2, h3, v', L, rfl, ⟨hF, t, ⟨u, rfl, hu⟩, -⟩, hq⟩ := M p e ha hc hk s m args below hf happ hp hK
  obtain rfl : u = .int 1 := hu
  exact ⟨n', _, h1, h2, h3, L, rfl, hF, hq.1, hq.2.1, hq.2.2.mono q2 q3⟩
end Jvm.Own
namespace Jvm.Own
open Jvm Jvm.ClassFile Sem Op Lib Jvm.Free Jvm.Stand Jvm.LawKit Jvm.RoadKit Bundle
/-- the law's script: an int array of at most 260 -/
theorem script_of {s : State} {ad : Addr} {cl : Cell} (hf : Fit s) (A : Arr s s.heap ad cl .int) (e0 : (Term.arg 0).eval #[.ref ad] s none [] s = some (.ref ad)) (hn : (Jvm.Cond.le (.length (.arg 0)) (.int 260)).value #[.ref ad] s none s [] = some true) :
    ∃ scr : List Int32, cl.slots.size = scr.length ∧ scr.length ≤ 260 ∧ ∀ (i : Nat) x, scr[i]? = some x → cl.slots[i]? = some (.int x) := by
  obtain ⟨u, v, g1, g2, -, -⟩ := cmp_v (Or.inr (Or.inr hn))
  obtain ⟨a', cl', z1, z2, z3⟩ := Term.length_spec g1
  have hat := A.fin (Vm.Alike.refl _)
  rw [e0] at z1
  cases z1
  rw [hat] at z2
  cases z2
  have hsz : cl.slots.size < 2 ^ 31 := by
    rcases Nat.lt_or_ge cl.slots.size (2 ^ 31) with q | q
    · exact q
    · exfalso
      simp [Term.eval, hat] at g1
      omega
  subst z3
  have hv : v = .int 260 := by simpa [Term.eval] using g2.symm
  subst hv
  have hle : cl.slots.size.toInt32 ≤ 260 := by
    simpa [Cond.value, g1, g2] using hn
  have hle' : cl.slots.size ≤ 260 := by
    rw [Int32.le_iff_toInt_le, len_toInt hsz] at hle
    have : (260 : Int32).toInt = 260 := rfl
    rw [this] at hle
    omega
  have key : ∀ i, i < cl.slots.size → ∃ x, cl.slots[i]? = some (.int x) := fun i hi => by
    have hj := idx_in hi hsz
    obtain ⟨v, e1, e2⟩ := elem_fit hf A hj
    have : i.toInt32.toNatClampNeg = i := by
      have h1 : i.toInt32.toInt = i := len_toInt (by omega)
      simp [Int32.toNatClampNeg, h1]
    rw [this] at e1
    obtain ⟨x, rfl⟩ := fit_I e2 (Or.inl rfl)
    exact ⟨x, e1⟩
  refine ⟨cl.slots.toList.map fun v => match v with | .int x => x | _ => 0, by simp, by simpa using hle', fun i x hx => ?_⟩
  rw [List.getElem?_map] at hx
  obtain ⟨v, h1, h2⟩ := Option.map_eq_some_iff.mp hx
  have h1' : cl.slots[i]? = some v := by simpa using h1
  obtain ⟨y, hy⟩ := key i (Array.getElem?_eq_some_iff.mp h1').1
  rw [h1'] at hy
  cases hy
  rw [h1']
  simp at h2
  rw [h2]
theorem hr_script {P : PD} {s : State} {ad : Addr} {cl : Cell} {scr : List Int32} (hnr : P.nr = 1) (A : Arr s s.heap ad cl .int) (h1 : cl.slots.size = scr.length) (h2 : scr.length ≤ 260) (h3 : ∀ (i : Nat) x, scr[i]? = some x → cl.slots[i]? = some (.int x)) : HR P s s.heap.size s.heap [ad] [.inr (.inl (false, scr))] := by
  refine ⟨Nat.le_refl _, rfl, fun i j a g1 g2 => ?_, fun k a g1 g2 => ?_, fun k a c g1 g2 => ?_⟩
  · match i, j, g1, g2 with
    | 0, 0, _, _ => rfl
    | i + 1, _, g1, _ => simp at g1
    | 0, j + 1, _, g2 => simp at g2
  · match k, g1, g2 with
    | 0, _, g2 => rw [hnr] at g2; omega
    | k + 1, g1, _ => simp at g1
  · match k, g1, g2 with
    | 0, g1, g2 =>
      simp at g1 g2
      subst g1 g2
      exact ⟨cl, A, h1, by omega, h3⟩
    | k + 1, g1, _ => simp at g1
end Jvm.Own
namespace Jvm.Own
open Jvm
/-! Ints in range, arrays -/
theorem ilt {a b : Int32} : a < b ↔ a.toInt < b.toInt := Int32.lt_iff_toInt_lt
theorem ile {a b : Int32} : a ≤ b ↔ a.toInt ≤ b.toInt := Int32.le_iff_toInt_le
theorem ieq {a b : Int32} : a = b ↔ a.toInt = b.toInt := Int32.toInt_inj.symm
theorem irng (a : Int32) : -2147483648 ≤ a.toInt ∧ a.toInt < 2147483648 := ⟨Int32.le_toInt a, Int32.toInt_lt a⟩
theorem iadd_i {a b : Int32} (h1 : -2147483648 ≤ a.toInt + b.toInt) (h2 : a.toInt + b.toInt < 2147483648) : (a + b).toInt = a.toInt + b.toInt := by
  rw [Int32.toInt_add]; exact Int.bmod_eq_of_le (by omega) (by omega)
theorem isub_i {a b : Int32} (h1 : -2147483648 ≤ a.toInt - b.toInt) (h2 : a.toInt - b.toInt < 2147483648) : (a - b).toInt = a.toInt - b.toInt := by
  rw [Int32.toInt_sub]; exact Int.bmod_eq_of_le (by omega) (by omega)
theorem imul_i {a b : Int32} (h1 : -2147483648 ≤ a.toInt * b.toInt) (h2 : a.toInt * b.toInt < 2147483648) : (a * b).toInt = a.toInt * b.toInt := by
  rw [Int32.toInt_mul]; exact Int.bmod_eq_of_le (by omega) (by omega)
theorem rdA_nn {α : Type} {L : List α} {j : Int32} (h0 : 0 ≤ j.toInt) : rdA L j = L[j.toInt.toNat]? := by
  unfold rdA
  rw [if_neg (by rw [ilt]; exact Int.not_lt.mpr h0)]
  rfl
theorem rdA_in {α : Type} {L : List α} {j : Int32} (h0 : 0 ≤ j.toInt) (h1 : j.toInt.toNat < L.length) : rdA L j = some L[j.toInt.toNat] := by
  rw [rdA_nn h0, List.getElem?_eq_getElem h1]
theorem wrA_in {α : Type} {L : List α} {j : Int32} {x : α} (h0 : 0 ≤ j.toInt) (h1 : j.toInt.toNat < L.length) : wrA L j x = some (L.set j.toInt.toNat x) := by
  unfold wrA
  rw [if_neg (by rw [ilt]; exact Int.not_lt.mpr h0)]
  exact if_pos h1
theorem rdA_rep {α : Type} {n : Nat} {x : α} {j : Int32} (h0 : 0 ≤ j.toInt) (h1 : j.toInt < n) : rdA (List.replicate n x) j = some x := by
  rw [rdA_nn h0, List.getElem?_replicate, if_pos (by omega)]
end Jvm.Own
namespace Jvm.Own
open Jvm
/-! Sums of ints with their wrap, for omega; runs that answer, and what they answer -/
theorem bmod32 (x : Int) : x.bmod (2 ^ 32) = (x + 2147483648) % 4294967296 - 2147483648 := by
  rw [Int.bmod_def]
  split <;> omega
theorem iadd_e (a b : Int32) : (a + b).toInt = (a.toInt + b.toInt + 2147483648) % 4294967296 - 2147483648 := by
  rw [Int32.toInt_add, bmod32]
theorem isub_e (a b : Int32) : (a - b).toInt = (a.toInt - b.toInt + 2147483648) % 4294967296 - 2147483648 := by
  rw [Int32.toInt_sub, bmod32]
theorem imul_e (a b : Int32) : (a * b).toInt = (a.toInt * b.toInt + 2147483648) % 4294967296 - 2147483648 := by
  rw [Int32.toInt_mul, bmod32]
theorem iscr {n : Nat} (h : n ≤ 260) : (n.toInt32).toInt = n := Int32.toInt_ofNat_of_lt (by omega)
def Tot {α : Type} (x : Option α) (P : α → Prop) : Prop := ∃ r, x = some r ∧ P r
theorem Tot.mk {α : Type} {P : α → Prop} {a : α} (h : P a) : Tot (some a) P := ⟨a, rfl, h⟩
theorem Tot.bind {α β : Type} {x : Option α} {f : α → Option β} {P : α → Prop} {Q : β → Prop} (h : Tot x P) (g : ∀ a, P a → Tot (f a) Q) : Tot (x.bind f) Q := by
  obtain ⟨r, e, p⟩ := h
  rw [e]
  exact g r p
theorem Tot.mono {α : Type} {x : Option α} {P Q : α → Prop} (h : Tot x P) (g : ∀ a, P a → Q a) : Tot x Q := by
  obtain ⟨r, e, p⟩ := h
  exact ⟨r, e, g r p⟩
theorem Tot.ite {α : Type} {c : Prop} [Decidable c] {a b : Option α} {Q : α → Prop} (h1 : c → Tot a Q) (h2 : ¬ c → Tot b Q) : Tot (if c then a else b) Q := by
  by_cases h : c
  · rw [if_pos h]; exact h1 h
  · rw [if_neg h]; exact h2 h
theorem Tot.rd {α β : Type} {L : List α} {j : Int32} {f : α → Option β} {Q : β → Prop} (h0 : 0 ≤ j.toInt) (h1 : j.toInt < L.length) (g : ∀ a, L[j.toInt.toNat]? = some a → Tot (f a) Q) : Tot ((rdA L j).bind f) Q := by
  have h2 : j.toInt.toNat < L.length := by omega
  rw [rdA_in h0 h2]
  exact g _ (List.getElem?_eq_getElem h2)
theorem Tot.wr {α β : Type} {L : List α} {j : Int32} {x : α} {f : List α → Option β} {Q : β → Prop} (h0 : 0 ≤ j.toInt) (h1 : j.toInt < L.length) (g : ∀ L' : List α, L' = L.set j.toInt.toNat x → L'.length = L.length → Tot (f L') Q) : Tot ((wrA L j x).bind f) Q := by
  rw [wrA_in h0 (by omega)]
  exact g _ rfl (by simp)
theorem Tot.eq {α : Type} {x : Option α} {a : α} (h : Tot x (fun r => r = a)) : x = some a := by
  obtain ⟨r, e, p⟩ := h
  rw [e, p]
theorem Tot.of {α : Type} {x : Option α} {a : α} {P : α → Prop} (e : x = some a) (p : P a) : Tot x P := ⟨a, e, p⟩
/-- a bit mask at 15, 31 .. -/
theorem iand_rng (x : Int32) (m : Int32) (h : 0 ≤ m.toInt) : 0 ≤ (x &&& m).toInt ∧ (x &&& m).toInt ≤ m.toInt := by
  have hm : m.toBitVec.msb = false := by
    rw [BitVec.msb_eq_toInt]; simpa using h
  have hx : (x &&& m).toBitVec.msb = false := by
    rw [Int32.toBitVec_and, BitVec.msb_and, hm, Bool.and_false]
  have e1 : m.toInt = (m.toBitVec.toNat : Int) := BitVec.toInt_eq_toNat_of_msb hm
  have e2 : (x &&& m).toInt = (((x &&& m).toBitVec).toNat : Int) := BitVec.toInt_eq_toNat_of_msb hx
  have e3 : ((x &&& m).toBitVec).toNat ≤ m.toBitVec.toNat := by
    rw [Int32.toBitVec_and, BitVec.toNat_and]; exact Nat.and_le_right
  omega
def gI (L : List Int32) (j : Int32) : Int32 := (rdA L j).getD 0
theorem rdg {L : List Int32} {j : Int32} (h0 : 0 ≤ j.toInt) (h1 : j.toInt < L.length) : rdA L j = some (gI L j) := by
  have h2 : j.toInt.toNat < L.length := by omega
  unfold gI
  rw [rdA_in h0 h2]
  (first | done | rfl | simp)
theorem gset {L : List Int32} {i j : Int32} {x : Int32} (hi : 0 ≤ i.toInt) (hl : i.toInt < L.length) (hj : 0 ≤ j.toInt) : gI (L.set i.toInt.toNat x) j = if i = j then x else gI L j := by
  unfold gI
  rw [rdA_nn hj, rdA_nn hj]
  by_cases h : i = j
  · subst h
    rw [if_pos rfl, List.getElem?_set_self (by omega)]
    (first | done | rfl | simp)
  · rw [if_neg h, List.getElem?_set_ne (by rw [ieq] at h; omega)]
theorem gext {A B : List Int32} (hl : A.length < 100000) (ha : A.length = B.length) (h : ∀ i : Int32, 0 ≤ i.toInt → i.toInt < A.length → gI A i = gI B i) : A = B := by
  apply List.ext_getElem ha
  intro k h1 h2
  have e : (Int32.ofNat k).toInt = k := Int32.toInt_ofNat_of_lt (by omega)
  have q := h (Int32.ofNat k) (by omega) (by omega)
  unfold gI at q
  rw [rdA_nn (by omega), rdA_nn (by omega), e] at q
  simpa [h1, h2] using q
theorem Tot.rdI {β : Type} {L : List Int32} {j : Int32} {f : Int32 → Option β} {Q : β → Prop} (h0 : 0 ≤ j.toInt) (h1 : j.toInt < L.length) (g : Tot (f (gI L j)) Q) : Tot ((rdA L j).bind f) Q := by
  rw [rdg h0 h1]
  exact g
theorem gI_rep {n : Nat} {x : Int32} {j : Int32} (h0 : 0 ≤ j.toInt) (h1 : j.toInt < n) : gI (List.replicate n x) j = x := by
  unfold gI
  rw [rdA_rep h0 h1]
  (first | done | rfl | simp)
/-! Longs -/
theorem lltI {a b : Int64} : a < b ↔ a.toInt < b.toInt := Int64.lt_iff_toInt_lt
theorem leqI {a b : Int64} : a = b ↔ a.toInt = b.toInt := Int64.toInt_inj.symm
theorem lrng (a : Int64) : -9223372036854775808 ≤ a.toInt ∧ a.toInt < 9223372036854775808 := ⟨Int64.le_toInt a, Int64.toInt_lt a⟩
theorem ladd_i {a b : Int64} (h1 : -9223372036854775808 ≤ a.toInt + b.toInt) (h2 : a.toInt + b.toInt < 9223372036854775808) : (a + b).toInt = a.toInt + b.toInt := by
  rw [Int64.toInt_add]; exact Int.bmod_eq_of_le (by omega) (by omega)
theorem lsub_i {a b : Int64} (h1 : -9223372036854775808 ≤ a.toInt - b.toInt) (h2 : a.toInt - b.toInt < 9223372036854775808) : (a - b).toInt = a.toInt - b.toInt := by
  rw [Int64.toInt_sub]; exact Int.bmod_eq_of_le (by omega) (by omega)
theorem lmul_i {a b : Int64} (h1 : -9223372036854775808 ≤ a.toInt * b.toInt) (h2 : a.toInt * b.toInt < 9223372036854775808) : (a * b).toInt = a.toInt * b.toInt := by
  rw [Int64.toInt_mul]; exact Int.bmod_eq_of_le (by omega) (by omega)
theorem lmod_i {a b : Int64} (h : 0 ≤ a.toInt) : (a % b).toInt = a.toInt % b.toInt := by
  rw [Int64.toInt_mod, Int.tmod_eq_emod_of_nonneg h]
theorem lback {a : Int64} (h1 : -2147483648 ≤ a.toInt) (h2 : a.toInt < 2147483648) : a.toInt32.toInt64 = a := by
  rw [leqI, Int32.toInt_toInt64, Int64.toInt_toInt32, bmod32]
  omega
theorem mulb {a b M : Int} (h0 : 0 ≤ a) (h1 : a ≤ M) (h2 : 0 ≤ b) (h3 : b ≤ M) : 0 ≤ a * b ∧ a * b ≤ M * M :=
  ⟨Int.mul_nonneg h0 h2, Int.mul_le_mul h1 h3 h2 (by omega)⟩
end Jvm.Own
namespace Jvm.Pilot.@@N@@
open Jvm Jvm.ClassFile Sem Op Lib Jvm.Free Jvm.Stand Jvm.LawKit Jvm.RoadKit Bundle Jvm.Own Jvm.Pilot.@@N@@.Jvm.D
def d_0 : MD := (x, code, maxLocals, ret, 0, 1, 999, 5, 94, [(0, .new 7, 3, [], 0, 0), (3, .dup, 1, [], 0, 0), (4, .iconst 5, 1, [], 0, 0), (5, .bipush 50, 2, [], 0, 0), (7, .invokespecial 9, 3, [], 1, 0), (10, .astore_n 1, 1, [], 0, 0), (11, .aload_n 0, 1, [], 0, 0), (12, .arraylength, 1, [], 0, 0), (13, .iconst 5, 1, [], 0, 0), (14, .idiv, 1, [], 0, 0), (15, .istore_n 2, 1, [], 0, 0), (16, .iconst 0, 1, [], 0, 0), (17, .istore_n 3, 1, [], 0, 0), (18, .iload_n 3, 1, [false, false, false, false, true, true, true, true, true], 0, 0), (19, .iload_n 2, 1, [], 0, 0), (20, .if_icmp .ge 110, 3, [], 0, 0), (23, .aload_n 0, 1, [], 0, 0), (24, .iconst 5, 1, [], 0, 0), (25, .iload_n 3, 1, [], 0, 0), (26, .imul, 1, [], 0, 0), (27, .iaload, 1, [], 0, 0), (28, .iconst 3, 1, [], 0, 0), (29, .iand, 1, [], 0, 0), (30, .istore 4, 2, [], 0, 0), (32, .aload_n 0, 1, [], 0, 0), (33, .iconst 5, 1, [], 0, 0), (34, .iload_n 3, 1, [], 0, 0), (35, .imul, 1, [], 0, 0), (36, .iconst 1, 1, [], 0, 0), (37, .iadd, 1, [], 0, 0), (38, .iaload, 1, [], 0, 0), (39, .istore 5, 2, [], 0, 0), (41, .aload_n 0, 1, [], 0, 0), (42, .iconst 5, 1, [], 0, 0), (43, .iload_n 3, 1, [], 0, 0), (44, .imul, 1, [], 0, 0), (45, .iconst 2, 1, [], 0, 0), (46, .iadd, 1, [], 0, 0), (47, .iaload, 1, [], 0, 0), (48, .istore 6, 2, [], 0, 0), (50, .aload_n 0, 1, [], 0, 0), (51, .iconst 5, 1, [], 0, 0), (52, .iload_n 3, 1, [], 0, 0), (53, .imul, 1, [], 0, 0), (54, .iconst 3, 1, [], 0, 0), (55, .iadd, 1, [], 0, 0), (56, .iaload, 1, [], 0, 0), (57, .istore 7, 2, [], 0, 0), (59, .aload_n 0, 1, [], 0, 0), (60, .iconst 5, 1, [], 0, 0), (61, .iload_n 3, 1, [], 0, 0), (62, .imul, 1, [], 0, 0), (63, .iconst 4, 1, [], 0, 0), (64, .iadd, 1, [], 0, 0), (65, .iaload, 1, [], 0, 0), (66, .istore 8, 2, [], 0, 0), (68, .iload 4, 2, [], 0, 0), (70, .iconst 1, 1, [], 0, 0), (71, .if_icmp .ne 13, 3, [], 0, 0), (74, .aload_n 1, 1, [], 0, 0), (75, .iload 5, 2, [], 0, 0), (77, .invokevirtual 12, 3, [], 14, 0), (80, .pop, 1, [], 0, 0), (81, .goto 34, 3, [], 0, 0), (84, .iload 4, 2, [], 0, 0), (86, .iconst 2, 1, [], 0, 0), (87, .if_icmp .ne 15, 3, [], 0, 0), (90, .aload_n 1, 1, [], 0, 0), (91, .iload 5, 2, [], 0, 0), (93, .iload 6, 2, [], 0, 0), (95, .invokevirtual 16, 3, [], 13, 0), (98, .pop, 1, [], 0, 0), (99, .goto 16, 3, [], 0, 0), (102, .aload_n 1, 1, [], 0, 0), (103, .iload 5, 2, [], 0, 0), (105, .iload 6, 2, [], 0, 0), (107, .iload 7, 2, [], 0, 0), (109, .iload 8, 2, [], 0, 0), (111, .invokevirtual 20, 3, [], 2, 0), (114, .pop, 1, [], 0, 0), (115, .aload_n 1, 1, [false, false, false, false, true, true, true, true, true], 0, 0), (116, .invokestatic 24, 3, [], 3, 0), (119, .ifCond .ne 5, 3, [], 0, 0), (122, .iconst 0, 1, [], 0, 0), (123, .ireturn, 1, [], 0, 0), (124, .iinc 3 1, 3, [], 0, 0), (127, .goto (-109), 3, [], 0, 0), (130, .aload_n 1, 1, [true, false, true, true, true, true, true, true, true], 0, 0), (131, .invokestatic 24, 3, [], 3, 0), (134, .ireturn, 1, [], 0, 0)])
def d_1 : MD := (⟨"ProRataBook", "<init>", "(II)V"⟩, prog_1_method_1_code, 5, none, 1, 2, 0, 1, 12, [(0, .aload_n 0, 1, [], 0, 0), (1, .invokespecial 1, 3, [], 0, -1), (4, .aload_n 0, 1, [], 0, 0), (5, .sipush 256, 3, [], 0, 0), (8, .newarray .int, 2, [], 0, 0), (10, .putfield 7, 3, [], 0, 0), (13, .aload_n 0, 1, [], 0, 0), (14, .sipush 256, 3, [], 0, 0), (17, .newarray .int, 2, [], 0, 0), (19, .putfield 13, 3, [], 1, 0), (22, .aload_n 0, 1, [], 0, 0), (23, .sipush 256, 3, [], 0, 0), (26, .newarray .int, 2, [], 0, 0), (28, .putfield 16, 3, [], 2, 0), (31, .aload_n 0, 1, [], 0, 0), (32, .sipush 256, 3, [], 0, 0), (35, .newarray .int, 2, [], 0, 0), (37, .putfield 19, 3, [], 3, 0), (40, .aload_n 0, 1, [], 0, 0), (41, .sipush 256, 3, [], 0, 0), (44, .newarray .int, 2, [], 0, 0), (46, .putfield 22, 3, [], 4, 0), (49, .aload_n 0, 1, [], 0, 0), (50, .sipush 256, 3, [], 0, 0), (53, .newarray .long, 2, [], 0, 0), (55, .putfield 25, 3, [], 5, 0), (58, .aload_n 0, 1, [], 0, 0), (59, .sipush 256, 3, [], 0, 0), (62, .newarray .boolean, 2, [], 0, 0), (64, .putfield 29, 3, [], 6, 0), (67, .aload_n 0, 1, [], 0, 0), (68, .bipush 64, 2, [], 0, 0), (70, .newarray .int, 2, [], 0, 0), (72, .putfield 33, 3, [], 7, 0), (75, .aload_n 0, 1, [], 0, 0), (76, .bipush 64, 2, [], 0, 0), (78, .newarray .int, 2, [], 0, 0), (80, .putfield 36, 3, [], 8, 0), (83, .aload_n 0, 1, [], 0, 0), (84, .bipush 64, 2, [], 0, 0), (86, .newarray .int, 2, [], 0, 0), (88, .putfield 39, 3, [], 9, 0), (91, .aload_n 0, 1, [], 0, 0), (92, .bipush 64, 2, [], 0, 0), (94, .newarray .int, 2, [], 0, 0), (96, .putfield 42, 3, [], 10, 0), (99, .aload_n 0, 1, [], 0, 0), (100, .bipush 64, 2, [], 0, 0), (102, .newarray .int, 2, [], 0, 0), (104, .putfield 45, 3, [], 11, 0), (107, .aload_n 0, 1, [], 0, 0), (108, .bipush 64, 2, [], 0, 0), (110, .newarray .int, 2, [], 0, 0), (112, .putfield 48, 3, [], 12, 0), (115, .aload_n 0, 1, [], 0, 0), (116, .bipush 64, 2, [], 0, 0), (118, .newarray .int, 2, [], 0, 0), (120, .putfield 51, 3, [], 13, 0), (123, .iload_n 1, 1, [], 0, 0), (124, .istore_n 3, 1, [], 0, 0), (125, .iload_n 3, 1, [], 0, 0), (126, .iconst 1, 1, [], 0, 0), (127, .if_icmp .ge 5, 3, [], 0, 0), (130, .iconst 1, 1, [], 0, 0), (131, .istore_n 3, 1, [], 0, 0), (132, .iload_n 3, 1, [false, true, false, false, true], 0, 0), (133, .bipush 100, 2, [], 0, 0), (135, .if_icmp .le 6, 3, [], 0, 0), (138, .bipush 100, 2, [], 0, 0), (140, .istore_n 3, 1, [], 0, 0), (141, .iload_n 2, 1, [false, true, false, false, true], 0, 0), (142, .istore 4, 2, [], 0, 0), (144, .iload 4, 2, [], 0, 0), (146, .ifCond .ge 6, 3, [], 0, 0), (149, .iconst 0, 1, [], 0, 0), (150, .istore 4, 2, [], 0, 0), (152, .iload 4, 2, [false, true, true], 0, 0), (154, .sipush 10000, 3, [], 0, 0), (157, .if_icmp .le 8, 3, [], 0, 0), (160, .sipush 10000, 3, [], 0, 0), (163, .istore 4, 2, [], 0, 0), (165, .aload_n 0, 1, [false, true, true], 0, 0), (166, .iload_n 3, 1, [], 0, 0), (167, .putfield 54, 3, [], 14, 0), (170, .aload_n 0, 1, [], 0, 0), (171, .iload 4, 2, [], 0, 0), (173, .putfield 58, 3, [], 15, 0), (176, .aload_n 0, 1, [], 0, 0), (177, .iconst 0, 1, [], 0, 0), (178, .putfield 61, 3, [], 16, 0), (181, .aload_n 0, 1, [], 0, 0), (182, .lconst 0, 1, [], 0, 0), (183, .putfield 64, 3, [], 17, 0), (186, .aload_n 0, 1, [], 0, 0), (187, .iconst 0, 1, [], 0, 0), (188, .putfield 68, 3, [], 18, 0), (191, .aload_n 0, 1, [], 0, 0), (192, .iconst 0, 1, [], 0, 0), (193, .putfield 71, 3, [], 19, 0), (196, .aload_n 0, 1, [], 0, 0), (197, .iconst 0, 1, [], 0, 0), (198, .putfield 74, 3, [], 20, 0), (201, .return_, 1, [], 0, 0)])
def d_2 : MD := (⟨"ProRataBook", "submit", "(IIII)I"⟩, prog_1_method_2_code, 7, some .int, 3, 4, 0, 4, 76, [(0, .iload_n 1, 1, [], 0, 0), (1, .ifCond .eq 10, 3, [], 0, 0), (4, .iload_n 1, 1, [], 0, 0), (5, .iconst 1, 1, [], 0, 0), (6, .if_icmp .eq 5, 3, [], 0, 0), (9, .iconst (-1), 1, [], 0, 0), (10, .ireturn, 1, [], 0, 0), (11, .iload_n 2, 1, [false, false, false, false, false, true, true], 0, 0), (12, .iconst 1, 1, [], 0, 0), (13, .if_icmp .lt 10, 3, [], 0, 0), (16, .iload_n 2, 1, [], 0, 0), (17, .sipush 1000, 3, [], 0, 0), (20, .if_icmp .le 6, 3, [], 0, 0), (23, .bipush (-2), 2, [], 0, 0), (25, .ireturn, 1, [], 0, 0), (26, .iload_n 3, 1, [], 0, 0), (27, .iconst 1, 1, [], 0, 0), (28, .if_icmp .lt 10, 3, [], 0, 0), (31, .iload_n 3, 1, [], 0, 0), (32, .sipush 10000, 3, [], 0, 0), (35, .if_icmp .le 6, 3, [], 0, 0), (38, .bipush (-3), 2, [], 0, 0), (40, .ireturn, 1, [], 0, 0), (41, .iload 4, 2, [], 0, 0), (43, .ifCond .eq 12, 3, [], 0, 0), (46, .iload 4, 2, [], 0, 0), (48, .iconst 1, 1, [], 0, 0), (49, .if_icmp .eq 6, 3, [], 0, 0), (52, .bipush (-4), 2, [], 0, 0), (54, .ireturn, 1, [], 0, 0), (55, .aload_n 0, 1, [false, false, false, false, false, true, true], 0, 0), (56, .getfield 61, 3, [], 16, 0), (59, .sipush 255, 3, [], 0, 0), (62, .if_icmp .lt 6, 3, [], 0, 0), (65, .bipush (-5), 2, [], 0, 0), (67, .ireturn, 1, [], 0, 0), (68, .aload_n 0, 1, [], 0, 0), (69, .dup, 1, [], 0, 0), (70, .getfield 61, 3, [], 16, 0), (73, .iconst 1, 1, [], 0, 0), (74, .iadd, 1, [], 0, 0), (75, .putfield 61, 3, [], 16, 0), (78, .aload_n 0, 1, [], 0, 0), (79, .getfield 61, 3, [], 16, 0), (82, .istore 5, 2, [], 0, 0), (84, .aload_n 0, 1, [], 0, 0), (85, .iconst 0, 1, [], 0, 0), (86, .putfield 71, 3, [], 19, 0), (89, .aload_n 0, 1, [], 0, 0), (90, .getfield 7, 3, [], 0, 0), (93, .iload 5, 2, [], 0, 0), (95, .iload_n 1, 1, [], 0, 0), (96, .iastore, 1, [], 0, 0), (97, .aload_n 0, 1, [], 0, 0), (98, .getfield 13, 3, [], 1, 0), (101, .iload 5, 2, [], 0, 0), (103, .iload_n 2, 1, [], 0, 0), (104, .iastore, 1, [], 0, 0), (105, .aload_n 0, 1, [], 0, 0), (106, .getfield 16, 3, [], 2, 0), (109, .iload 5, 2, [], 0, 0), (111, .iconst 0, 1, [], 0, 0), (112, .iastore, 1, [], 0, 0), (113, .aload_n 0, 1, [], 0, 0), (114, .getfield 19, 3, [], 3, 0), (117, .iload 5, 2, [], 0, 0), (119, .iconst 0, 1, [], 0, 0), (120, .iastore, 1, [], 0, 0), (121, .aload_n 0, 1, [], 0, 0), (122, .getfield 29, 3, [], 6, 0), (125, .iload 5, 2, [], 0, 0), (127, .iconst 0, 1, [], 0, 0), (128, .bastore, 1, [], 0, 0), (129, .aload_n 0, 1, [], 0, 0), (130, .getfield 25, 3, [], 5, 0), (133, .iload 5, 2, [], 0, 0), (135, .lconst 0, 1, [], 0, 0), (136, .lastore, 1, [], 0, 0), (137, .aload_n 0, 1, [], 0, 0), (138, .iload 5, 2, [], 0, 0), (140, .iload_n 1, 1, [], 0, 0), (141, .iload_n 2, 1, [], 0, 0), (142, .iload_n 3, 1, [], 0, 0), (143, .invokevirtual 77, 3, [], 15, 0), (146, .istore 6, 2, [], 0, 0), (148, .aload_n 0, 1, [], 0, 0), (149, .iload 5, 2, [], 0, 0), (151, .iload_n 1, 1, [], 0, 0), (152, .iload_n 2, 1, [], 0, 0), (153, .iload 6, 2, [], 0, 0), (155, .iload 4, 2, [], 0, 0), (157, .invokevirtual 81, 3, [], 16, 0), (160, .iload 5, 2, [], 0, 0), (162, .ireturn, 1, [], 0, 0)])
def d_3 : MD := (⟨"ProRataBookL4", "ok", "(LProRataBook;)Z"⟩, method_3_code, 11, some .boolean, 0, 1, 999, 3, 45, [(0, .aload_n 0, 1, [], 0, 0), (1, .iconst 0, 1, [], 0, 0), (2, .invokevirtual 30, 3, [], 4, 0), (5, .istore_n 1, 1, [], 0, 0), (6, .aload_n 0, 1, [], 0, 0), (7, .iconst 1, 1, [], 0, 0), (8, .invokevirtual 30, 3, [], 4, 0), (11, .istore_n 2, 1, [], 0, 0), (12, .iload_n 1, 1, [], 0, 0), (13, .ifCond .eq 14, 3, [], 0, 0), (16, .iload_n 2, 1, [], 0, 0), (17, .ifCond .eq 10, 3, [], 0, 0), (20, .iload_n 1, 1, [], 0, 0), (21, .iload_n 2, 1, [], 0, 0), (22, .if_icmp .lt 5, 3, [], 0, 0), (25, .iconst 0, 1, [], 0, 0), (26, .ireturn, 1, [], 0, 0), (27, .iconst 0, 1, [false, true, true, true, true, true, true, true, true, true, true], 0, 0), (28, .istore_n 3, 1, [], 0, 0), (29, .iconst 0, 1, [], 0, 0), (30, .istore 4, 2, [], 0, 0), (32, .iconst 0, 1, [], 0, 0), (33, .istore 5, 2, [], 0, 0), (35, .iconst 1, 1, [], 0, 0), (36, .istore 6, 2, [], 0, 0), (38, .iload 6, 2, [false, true, true, false, false, false, false, true, true, true, true], 0, 0), (40, .sipush 255, 3, [], 0, 0), (43, .if_icmp .gt 111, 3, [], 0, 0), (46, .aload_n 0, 1, [], 0, 0), (47, .iload 6, 2, [], 0, 0), (49, .invokevirtual 33, 3, [], 6, 0), (52, .istore 7, 2, [], 0, 0), (54, .aload_n 0, 1, [], 0, 0), (55, .iload 6, 2, [], 0, 0), (57, .invokevirtual 36, 3, [], 7, 0), (60, .istore 8, 2, [], 0, 0), (62, .aload_n 0, 1, [], 0, 0), (63, .iload 6, 2, [], 0, 0), (65, .invokevirtual 39, 3, [], 9, 0), (68, .istore 9, 2, [], 0, 0), (70, .aload_n 0, 1, [], 0, 0), (71, .iload 6, 2, [], 0, 0), (73, .invokevirtual 42, 3, [], 10, 0), (76, .istore 10, 2, [], 0, 0), (78, .iload 7, 2, [], 0, 0), (80, .iconst 1, 1, [], 0, 0), (81, .if_icmp .ne 38, 3, [], 0, 0), (84, .iload 8, 2, [], 0, 0), (86, .iconst 1, 1, [], 0, 0), (87, .if_icmp .lt 16, 3, [], 0, 0), (90, .iload 8, 2, [], 0, 0), (92, .sipush 10000, 3, [], 0, 0), (95, .if_icmp .gt 8, 3, [], 0, 0), (98, .iload 9, 2, [], 0, 0), (100, .ifCond .ge 5, 3, [], 0, 0), (103, .iconst 0, 1, [], 0, 0), (104, .ireturn, 1, [], 0, 0), (105, .iinc 3 1, 3, [], 0, 0), (108, .iload 10, 2, [], 0, 0), (110, .ifCond .eq 27, 3, [], 0, 0), (113, .iinc 4 1, 3, [], 0, 0), (116, .goto 21, 3, [], 0, 0), (119, .iload 8, 2, [], 0, 0), (121, .ifCond .ne 14, 3, [], 0, 0), (124, .iload 9, 2, [], 0, 0), (126, .iconst (-1), 1, [], 0, 0), (127, .if_icmp .ne 8, 3, [], 0, 0), (130, .iload 10, 2, [], 0, 0), (132, .ifCond .eq 5, 3, [], 0, 0), (135, .iconst 0, 1, [], 0, 0), (136, .ireturn, 1, [], 0, 0), (137, .iload 5, 2, [false, true, true, false, false, false, false, true, true, true, true], 0, 0), (139, .aload_n 0, 1, [], 0, 0), (140, .iload 6, 2, [], 0, 0), (142, .invokevirtual 46, 3, [], 11, 0), (145, .iadd, 1, [], 0, 0), (146, .istore 5, 2, [], 0, 0), (148, .iinc 6 1, 3, [], 0, 0), (151, .goto (-113), 3, [], 0, 0), (154, .iload_n 3, 1, [false, true, true, false, false, false, true, true, true, true, true], 0, 0), (155, .aload_n 0, 1, [], 0, 0), (156, .invokevirtual 49, 3, [], 12, 0), (159, .if_icmp .ne 26, 3, [], 0, 0), (162, .iload_n 3, 1, [], 0, 0), (163, .bipush 64, 2, [], 0, 0), (165, .if_icmp .gt 20, 3, [], 0, 0), (168, .iload 4, 2, [], 0, 0), (170, .iconst 2, 1, [], 0, 0), (171, .if_icmp .gt 14, 3, [], 0, 0), (174, .iload 5, 2, [], 0, 0), (176, .iconst 1, 1, [], 0, 0), (177, .iand, 1, [], 0, 0), (178, .ifCond .ne 7, 3, [], 0, 0), (181, .iconst 1, 1, [], 0, 0), (182, .goto 4, 3, [], 0, 0), (185, .iconst 0, 1, [], 0, 0), (186, .ireturn, 1, [], 0, 0)])
def d_4 : MD := (⟨"ProRataBook", "bestPrice", "(I)I"⟩, prog_1_method_26_code, 2, some .int, 3, 1, 0, 2, 32, [(0, .iload_n 1, 1, [], 0, 0), (1, .ifCond .eq 10, 3, [], 0, 0), (4, .iload_n 1, 1, [], 0, 0), (5, .iconst 1, 1, [], 0, 0), (6, .if_icmp .eq 5, 3, [], 0, 0), (9, .iconst 0, 1, [], 0, 0), (10, .ireturn, 1, [], 0, 0), (11, .aload_n 0, 1, [], 0, 0), (12, .iload_n 1, 1, [], 0, 0), (13, .invokevirtual 85, 3, [], 5, 0), (16, .ireturn, 1, [], 0, 0)])
def d_5 : MD := (⟨"ProRataBook", "bestOf", "(I)I"⟩, prog_1_method_18_code, 6, some .int, 2, 1, 0, 1, 15, [(0, .iconst 0, 1, [], 0, 0), (1, .istore_n 2, 1, [], 0, 0), (2, .iconst 0, 1, [], 0, 0), (3, .istore_n 3, 1, [], 0, 0), (4, .iload_n 3, 1, [false, false, false, false, true, true], 0, 0), (5, .aload_n 0, 1, [], 0, 0), (6, .getfield 68, 3, [], 18, 0), (9, .if_icmp .ge 58, 3, [], 0, 0), (12, .aload_n 0, 1, [], 0, 0), (13, .getfield 33, 3, [], 7, 0), (16, .iload_n 3, 1, [], 0, 0), (17, .iaload, 1, [], 0, 0), (18, .istore 4, 2, [], 0, 0), (20, .aload_n 0, 1, [], 0, 0), (21, .getfield 7, 3, [], 0, 0), (24, .iload 4, 2, [], 0, 0), (26, .iaload, 1, [], 0, 0), (27, .iload_n 1, 1, [], 0, 0), (28, .if_icmp .eq 6, 3, [], 0, 0), (31, .goto 30, 3, [], 0, 0), (34, .aload_n 0, 1, [], 0, 0), (35, .getfield 13, 3, [], 1, 0), (38, .iload 4, 2, [], 0, 0), (40, .iaload, 1, [], 0, 0), (41, .istore 5, 2, [], 0, 0), (43, .iload_n 2, 1, [], 0, 0), (44, .ifCond .eq 14, 3, [], 0, 0), (47, .aload_n 0, 1, [], 0, 0), (48, .iload_n 1, 1, [], 0, 0), (49, .iload 5, 2, [], 0, 0), (51, .iload_n 2, 1, [], 0, 0), (52, .invokevirtual 97, 3, [], 20, 0), (55, .ifCond .eq 6, 3, [], 0, 0), (58, .iload 5, 2, [], 0, 0), (60, .istore_n 2, 1, [], 0, 0), (61, .iinc 3 1, 3, [], 0, 0), (64, .goto (-60), 3, [], 0, 0), (67, .iload_n 2, 1, [], 0, 0), (68, .ireturn, 1, [], 0, 0)])
def d_6 : MD := (⟨"ProRataBook", "status", "(I)I"⟩, prog_1_method_21_code, 2, some .int, 3, 1, 0, 0, 0, [(0, .iload_n 1, 1, [], 0, 0), (1, .iconst 1, 1, [], 0, 0), (2, .if_icmp .lt 11, 3, [], 0, 0), (5, .iload_n 1, 1, [], 0, 0), (6, .aload_n 0, 1, [], 0, 0), (7, .getfield 61, 3, [], 16, 0), (10, .if_icmp .le 5, 3, [], 0, 0), (13, .iconst 0, 1, [], 0, 0), (14, .ireturn, 1, [], 0, 0), (15, .aload_n 0, 1, [], 0, 0), (16, .getfield 22, 3, [], 4, 0), (19, .iload_n 1, 1, [], 0, 0), (20, .iaload, 1, [], 0, 0), (21, .ireturn, 1, [], 0, 0)])
def d_7 : MD := (⟨"ProRataBook", "remaining", "(I)I"⟩, prog_1_method_22_code, 2, some .int, 3, 1, 0, 1, 13, [(0, .aload_n 0, 1, [], 0, 0), (1, .iload_n 1, 1, [], 0, 0), (2, .invokevirtual 129, 3, [], 8, 0), (5, .ifCond .ne 5, 3, [], 0, 0), (8, .iconst 0, 1, [], 0, 0), (9, .ireturn, 1, [], 0, 0), (10, .aload_n 0, 1, [], 0, 0), (11, .getfield 16, 3, [], 2, 0), (14, .iload_n 1, 1, [], 0, 0), (15, .iaload, 1, [], 0, 0), (16, .ireturn, 1, [], 0, 0)])
def d_8 : MD := (⟨"ProRataBook", "isResting", "(I)Z"⟩, prog_1_method_17_code, 2, some .boolean, 2, 1, 0, 0, 0, [(0, .iload_n 1, 1, [], 0, 0), (1, .iconst 1, 1, [], 0, 0), (2, .if_icmp .lt 25, 3, [], 0, 0), (5, .iload_n 1, 1, [], 0, 0), (6, .aload_n 0, 1, [], 0, 0), (7, .getfield 61, 3, [], 16, 0), (10, .if_icmp .gt 17, 3, [], 0, 0), (13, .aload_n 0, 1, [], 0, 0), (14, .getfield 22, 3, [], 4, 0), (17, .iload_n 1, 1, [], 0, 0), (18, .iaload, 1, [], 0, 0), (19, .iconst 1, 1, [], 0, 0), (20, .if_icmp .ne 7, 3, [], 0, 0), (23, .iconst 1, 1, [], 0, 0), (24, .goto 4, 3, [], 0, 0), (27, .iconst 0, 1, [], 0, 0), (28, .ireturn, 1, [], 0, 0)])
def d_9 : MD := (⟨"ProRataBook", "priorityRank", "(I)I"⟩, prog_1_method_25_code, 5, some .int, 3, 1, 0, 1, 13, [(0, .aload_n 0, 1, [], 0, 0), (1, .iload_n 1, 1, [], 0, 0), (2, .invokevirtual 129, 3, [], 8, 0), (5, .ifCond .ne 5, 3, [], 0, 0), (8, .iconst (-1), 1, [], 0, 0), (9, .ireturn, 1, [], 0, 0), (10, .iconst 0, 1, [], 0, 0), (11, .istore_n 2, 1, [], 0, 0), (12, .iconst 0, 1, [], 0, 0), (13, .istore_n 3, 1, [], 0, 0), (14, .iload_n 3, 1, [false, false, false, false, true], 0, 0), (15, .aload_n 0, 1, [], 0, 0), (16, .getfield 68, 3, [], 18, 0), (19, .if_icmp .ge 69, 3, [], 0, 0), (22, .aload_n 0, 1, [], 0, 0), (23, .getfield 33, 3, [], 7, 0), (26, .iload_n 3, 1, [], 0, 0), (27, .iaload, 1, [], 0, 0), (28, .istore 4, 2, [], 0, 0), (30, .aload_n 0, 1, [], 0, 0), (31, .getfield 7, 3, [], 0, 0), (34, .iload 4, 2, [], 0, 0), (36, .iaload, 1, [], 0, 0), (37, .aload_n 0, 1, [], 0, 0), (38, .getfield 7, 3, [], 0, 0), (41, .iload_n 1, 1, [], 0, 0), (42, .iaload, 1, [], 0, 0), (43, .if_icmp .ne 39, 3, [], 0, 0), (46, .aload_n 0, 1, [], 0, 0), (47, .getfield 13, 3, [], 1, 0), (50, .iload 4, 2, [], 0, 0), (52, .iaload, 1, [], 0, 0), (53, .aload_n 0, 1, [], 0, 0), (54, .getfield 13, 3, [], 1, 0), (57, .iload_n 1, 1, [], 0, 0), (58, .iaload, 1, [], 0, 0), (59, .if_icmp .ne 23, 3, [], 0, 0), (62, .aload_n 0, 1, [], 0, 0), (63, .getfield 25, 3, [], 5, 0), (66, .iload 4, 2, [], 0, 0), (68, .laload, 1, [], 0, 0), (69, .aload_n 0, 1, [], 0, 0), (70, .getfield 25, 3, [], 5, 0), (73, .iload_n 1, 1, [], 0, 0), (74, .laload, 1, [], 0, 0), (75, .lcmp, 1, [], 0, 0), (76, .ifCond .ge 6, 3, [], 0, 0), (79, .iinc 2 1, 3, [], 0, 0), (82, .iinc 3 1, 3, [], 0, 0), (85, .goto (-71), 3, [], 0, 0), (88, .iload_n 2, 1, [], 0, 0), (89, .ireturn, 1, [], 0, 0)])
def d_10 : MD := (⟨"ProRataBook", "isTop", "(I)Z"⟩, prog_1_method_24_code, 2, some .boolean, 3, 1, 0, 1, 13, [(0, .aload_n 0, 1, [], 0, 0), (1, .iload_n 1, 1, [], 0, 0), (2, .invokevirtual 129, 3, [], 8, 0), (5, .ifCond .eq 16, 3, [], 0, 0), (8, .aload_n 0, 1, [], 0, 0), (9, .getfield 29, 3, [], 6, 0), (12, .iload_n 1, 1, [], 0, 0), (13, .baload, 1, [], 0, 0), (14, .ifCond .eq 7, 3, [], 0, 0), (17, .iconst 1, 1, [], 0, 0), (18, .goto 4, 3, [], 0, 0), (21, .iconst 0, 1, [], 0, 0), (22, .ireturn, 1, [], 0, 0)])
def d_11 : MD := (⟨"ProRataBook", "filled", "(I)I"⟩, prog_1_method_23_code, 2, some .int, 3, 1, 0, 0, 0, [(0, .iload_n 1, 1, [], 0, 0), (1, .iconst 1, 1, [], 0, 0), (2, .if_icmp .lt 11, 3, [], 0, 0), (5, .iload_n 1, 1, [], 0, 0), (6, .aload_n 0, 1, [], 0, 0), (7, .getfield 61, 3, [], 16, 0), (10, .if_icmp .le 5, 3, [], 0, 0), (13, .iconst 0, 1, [], 0, 0), (14, .ireturn, 1, [], 0, 0), (15, .aload_n 0, 1, [], 0, 0), (16, .getfield 19, 3, [], 3, 0), (19, .iload_n 1, 1, [], 0, 0), (20, .iaload, 1, [], 0, 0), (21, .ireturn, 1, [], 0, 0)])
def d_12 : MD := (⟨"ProRataBook", "restingCount", "()I"⟩, prog_1_method_29_code, 1, some .int, 3, 0, 0, 0, 0, [(0, .aload_n 0, 1, [], 0, 0), (1, .getfield 68, 3, [], 18, 0), (4, .ireturn, 1, [], 0, 0)])
def d_13 : MD := (⟨"ProRataBook", "amend", "(II)I"⟩, prog_1_method_20_code, 3, some .int, 3, 2, 0, 1, 13, [(0, .aload_n 0, 1, [], 0, 0), (1, .iload_n 1, 1, [], 0, 0), (2, .invokevirtual 129, 3, [], 8, 0), (5, .ifCond .ne 6, 3, [], 0, 0), (8, .bipush (-6), 2, [], 0, 0), (10, .ireturn, 1, [], 0, 0), (11, .iload_n 2, 1, [], 0, 0), (12, .iconst 1, 1, [], 0, 0), (13, .if_icmp .lt 10, 3, [], 0, 0), (16, .iload_n 2, 1, [], 0, 0), (17, .sipush 10000, 3, [], 0, 0), (20, .if_icmp .le 6, 3, [], 0, 0), (23, .bipush (-3), 2, [], 0, 0), (25, .ireturn, 1, [], 0, 0), (26, .iload_n 2, 1, [], 0, 0), (27, .aload_n 0, 1, [], 0, 0), (28, .getfield 16, 3, [], 2, 0), (31, .iload_n 1, 1, [], 0, 0), (32, .iaload, 1, [], 0, 0), (33, .if_icmp .ge 13, 3, [], 0, 0), (36, .aload_n 0, 1, [], 0, 0), (37, .getfield 16, 3, [], 2, 0), (40, .iload_n 1, 1, [], 0, 0), (41, .iload_n 2, 1, [], 0, 0), (42, .iastore, 1, [], 0, 0), (43, .goto 47, 3, [], 0, 0), (46, .iload_n 2, 1, [], 0, 0), (47, .aload_n 0, 1, [], 0, 0), (48, .getfield 16, 3, [], 2, 0), (51, .iload_n 1, 1, [], 0, 0), (52, .iaload, 1, [], 0, 0), (53, .if_icmp .le 37, 3, [], 0, 0), (56, .aload_n 0, 1, [], 0, 0), (57, .getfield 16, 3, [], 2, 0), (60, .iload_n 1, 1, [], 0, 0), (61, .iload_n 2, 1, [], 0, 0), (62, .iastore, 1, [], 0, 0), (63, .aload_n 0, 1, [], 0, 0), (64, .dup, 1, [], 0, 0), (65, .getfield 64, 3, [], 17, 0), (68, .lconst 1, 1, [], 0, 0), (69, .ladd, 1, [], 0, 0), (70, .putfield 64, 3, [], 17, 0), (73, .aload_n 0, 1, [], 0, 0), (74, .getfield 25, 3, [], 5, 0), (77, .iload_n 1, 1, [], 0, 0), (78, .aload_n 0, 1, [], 0, 0), (79, .getfield 64, 3, [], 17, 0), (82, .lastore, 1, [], 0, 0), (83, .aload_n 0, 1, [], 0, 0), (84, .getfield 29, 3, [], 6, 0), (87, .iload_n 1, 1, [], 0, 0), (88, .iconst 0, 1, [], 0, 0), (89, .bastore, 1, [], 0, 0), (90, .iconst 0, 1, [], 0, 0), (91, .ireturn, 1, [], 0, 0)])
def d_14 : MD := (⟨"ProRataBook", "cancel", "(I)I"⟩, prog_1_method_19_code, 2, some .int, 3, 1, 0, 1, 14, [(0, .aload_n 0, 1, [], 0, 0), (1, .iload_n 1, 1, [], 0, 0), (2, .invokevirtual 129, 3, [], 8, 0), (5, .ifCond .ne 6, 3, [], 0, 0), (8, .bipush (-6), 2, [], 0, 0), (10, .ireturn, 1, [], 0, 0), (11, .aload_n 0, 1, [], 0, 0), (12, .getfield 22, 3, [], 4, 0), (15, .iload_n 1, 1, [], 0, 0), (16, .iconst 3, 1, [], 0, 0), (17, .iastore, 1, [], 0, 0), (18, .aload_n 0, 1, [], 0, 0), (19, .getfield 16, 3, [], 2, 0), (22, .iload_n 1, 1, [], 0, 0), (23, .iconst 0, 1, [], 0, 0), (24, .iastore, 1, [], 0, 0), (25, .aload_n 0, 1, [], 0, 0), (26, .getfield 29, 3, [], 6, 0), (29, .iload_n 1, 1, [], 0, 0), (30, .iconst 0, 1, [], 0, 0), (31, .bastore, 1, [], 0, 0), (32, .aload_n 0, 1, [], 0, 0), (33, .iload_n 1, 1, [], 0, 0), (34, .invokevirtual 126, 3, [], 18, 0), (37, .iconst 0, 1, [], 0, 0), (38, .ireturn, 1, [], 0, 0)])
def d_15 : MD := (⟨"ProRataBook", "matchIncoming", "(IIII)I"⟩, prog_1_method_3_code, 10, some .int, 2, 4, 0, 3, 55, [(0, .iload 4, 2, [], 0, 0), (2, .istore 5, 2, [], 0, 0), (4, .iconst 1, 1, [], 0, 0), (5, .iload_n 2, 1, [], 0, 0), (6, .isub, 1, [], 0, 0), (7, .istore 6, 2, [], 0, 0), (9, .iconst 0, 1, [], 0, 0), (10, .istore 7, 2, [], 0, 0), (12, .iload 7, 2, [false, false, false, false, true, false, false, false, true, true], 0, 0), (14, .bipush 64, 2, [], 0, 0), (16, .if_icmp .gt 82, 3, [], 0, 0), (19, .iload 5, 2, [], 0, 0), (21, .ifCond .le 77, 3, [], 0, 0), (24, .aload_n 0, 1, [], 0, 0), (25, .iload 6, 2, [], 0, 0), (27, .invokevirtual 85, 3, [], 5, 0), (30, .istore 8, 2, [], 0, 0), (32, .iload 8, 2, [], 0, 0), (34, .ifCond .ne 6, 3, [], 0, 0), (37, .goto 61, 3, [], 0, 0), (40, .aload_n 0, 1, [], 0, 0), (41, .iload_n 2, 1, [], 0, 0), (42, .iload_n 3, 1, [], 0, 0), (43, .iload 8, 2, [], 0, 0), (45, .invokevirtual 89, 3, [], 19, 0), (48, .ifCond .ne 6, 3, [], 0, 0), (51, .goto 47, 3, [], 0, 0), (54, .aload_n 0, 1, [], 0, 0), (55, .iload 6, 2, [], 0, 0), (57, .iload 8, 2, [], 0, 0), (59, .iload 5, 2, [], 0, 0), (61, .invokevirtual 93, 3, [], 21, 0), (64, .istore 9, 2, [], 0, 0), (66, .iload 9, 2, [], 0, 0), (68, .ifCond .gt 6, 3, [], 0, 0), (71, .goto 27, 3, [], 0, 0), (74, .iload 5, 2, [], 0, 0), (76, .iload 9, 2, [], 0, 0), (78, .isub, 1, [], 0, 0), (79, .istore 5, 2, [], 0, 0), (81, .aload_n 0, 1, [], 0, 0), (82, .getfield 19, 3, [], 3, 0), (85, .iload_n 1, 1, [], 0, 0), (86, .dup2, 1, [], 0, 0), (87, .iaload, 1, [], 0, 0), (88, .iload 9, 2, [], 0, 0), (90, .iadd, 1, [], 0, 0), (91, .iastore, 1, [], 0, 0), (92, .iinc 7 1, 3, [], 0, 0), (95, .goto (-83), 3, [], 0, 0), (98, .iload 5, 2, [], 0, 0), (100, .ireturn, 1, [], 0, 0)])
def d_16 : MD := (⟨"ProRataBook", "finishIncoming", "(IIIII)V"⟩, prog_1_method_4_code, 8, none, 2, 5, 0, 2, 32, [(0, .iload 4, 2, [], 0, 0), (2, .ifCond .ne 18, 3, [], 0, 0), (5, .aload_n 0, 1, [], 0, 0), (6, .getfield 22, 3, [], 4, 0), (9, .iload_n 1, 1, [], 0, 0), (10, .iconst 2, 1, [], 0, 0), (11, .iastore, 1, [], 0, 0), (12, .aload_n 0, 1, [], 0, 0), (13, .getfield 16, 3, [], 2, 0), (16, .iload_n 1, 1, [], 0, 0), (17, .iconst 0, 1, [], 0, 0), (18, .iastore, 1, [], 0, 0), (19, .return_, 1, [], 0, 0), (20, .iload 5, 2, [], 0, 0), (22, .iconst 1, 1, [], 0, 0), (23, .if_icmp .eq 12, 3, [], 0, 0), (26, .aload_n 0, 1, [], 0, 0), (27, .getfield 68, 3, [], 18, 0), (30, .bipush 64, 2, [], 0, 0), (32, .if_icmp .lt 18, 3, [], 0, 0), (35, .aload_n 0, 1, [false, false, true, true, true, true, true, true], 0, 0), (36, .getfield 22, 3, [], 4, 0), (39, .iload_n 1, 1, [], 0, 0), (40, .iconst 4, 1, [], 0, 0), (41, .iastore, 1, [], 0, 0), (42, .aload_n 0, 1, [], 0, 0), (43, .getfield 16, 3, [], 2, 0), (46, .iload_n 1, 1, [], 0, 0), (47, .iconst 0, 1, [], 0, 0), (48, .iastore, 1, [], 0, 0), (49, .return_, 1, [], 0, 0), (50, .aload_n 0, 1, [], 0, 0), (51, .iload_n 2, 1, [], 0, 0), (52, .invokevirtual 85, 3, [], 5, 0), (55, .istore 6, 2, [], 0, 0), (57, .iload 6, 2, [], 0, 0), (59, .ifCond .eq 14, 3, [], 0, 0), (62, .aload_n 0, 1, [], 0, 0), (63, .iload_n 2, 1, [], 0, 0), (64, .iload_n 3, 1, [], 0, 0), (65, .iload 6, 2, [], 0, 0), (67, .invokevirtual 97, 3, [], 20, 0), (70, .ifCond .eq 7, 3, [], 0, 0), (73, .iconst 1, 1, [], 0, 0), (74, .goto 4, 3, [], 0, 0), (77, .iconst 0, 1, [], 0, 0), (78, .istore 7, 2, [false, false, false, true, false, true, true, true], 0, 0), (80, .iload 7, 2, [], 0, 0), (82, .ifCond .eq 8, 3, [], 0, 0), (85, .aload_n 0, 1, [], 0, 0), (86, .iload_n 2, 1, [], 0, 0), (87, .invokevirtual 100, 3, [], 17, 0), (90, .aload_n 0, 1, [false, false, true, true, false, true, true], 0, 0), (91, .dup, 1, [], 0, 0), (92, .getfield 64, 3, [], 17, 0), (95, .lconst 1, 1, [], 0, 0), (96, .ladd, 1, [], 0, 0), (97, .putfield 64, 3, [], 17, 0), (100, .aload_n 0, 1, [], 0, 0), (101, .getfield 25, 3, [], 5, 0), (104, .iload_n 1, 1, [], 0, 0), (105, .aload_n 0, 1, [], 0, 0), (106, .getfield 64, 3, [], 17, 0), (109, .lastore, 1, [], 0, 0), (110, .aload_n 0, 1, [], 0, 0), (111, .getfield 16, 3, [], 2, 0), (114, .iload_n 1, 1, [], 0, 0), (115, .iload 4, 2, [], 0, 0), (117, .iastore, 1, [], 0, 0), (118, .aload_n 0, 1, [], 0, 0), (119, .getfield 22, 3, [], 4, 0), (122, .iload_n 1, 1, [], 0, 0), (123, .iconst 1, 1, [], 0, 0), (124, .iastore, 1, [], 0, 0), (125, .aload_n 0, 1, [], 0, 0), (126, .getfield 29, 3, [], 6, 0), (129, .iload_n 1, 1, [], 0, 0), (130, .iload 7, 2, [], 0, 0), (132, .bastore, 1, [], 0, 0), (133, .aload_n 0, 1, [], 0, 0), (134, .getfield 33, 3, [], 7, 0), (137, .aload_n 0, 1, [], 0, 0), (138, .getfield 68, 3, [], 18, 0), (141, .iload_n 1, 1, [], 0, 0), (142, .iastore, 1, [], 0, 0), (143, .aload_n 0, 1, [], 0, 0), (144, .dup, 1, [], 0, 0), (145, .getfield 68, 3, [], 18, 0), (148, .iconst 1, 1, [], 0, 0), (149, .iadd, 1, [], 0, 0), (150, .putfield 68, 3, [], 18, 0), (153, .return_, 1, [], 0, 0)])
def d_17 : MD := (⟨"ProRataBook", "clearFlags", "(I)V"⟩, prog_1_method_5_code, 4, none, 2, 1, 0, 0, 0, [(0, .iconst 0, 1, [], 0, 0), (1, .istore_n 2, 1, [], 0, 0), (2, .iload_n 2, 1, [false, false, false, true], 0, 0), (3, .aload_n 0, 1, [], 0, 0), (4, .getfield 68, 3, [], 18, 0), (7, .if_icmp .ge 33, 3, [], 0, 0), (10, .aload_n 0, 1, [], 0, 0), (11, .getfield 33, 3, [], 7, 0), (14, .iload_n 2, 1, [], 0, 0), (15, .iaload, 1, [], 0, 0), (16, .istore_n 3, 1, [], 0, 0), (17, .aload_n 0, 1, [], 0, 0), (18, .getfield 7, 3, [], 0, 0), (21, .iload_n 3, 1, [], 0, 0), (22, .iaload, 1, [], 0, 0), (23, .iload_n 1, 1, [], 0, 0), (24, .if_icmp .ne 10, 3, [], 0, 0), (27, .aload_n 0, 1, [], 0, 0), (28, .getfield 29, 3, [], 6, 0), (31, .iload_n 3, 1, [], 0, 0), (32, .iconst 0, 1, [], 0, 0), (33, .bastore, 1, [], 0, 0), (34, .iinc 2 1, 3, [], 0, 0), (37, .goto (-35), 3, [], 0, 0), (40, .return_, 1, [], 0, 0)])
def d_18 : MD := (⟨"ProRataBook", "removeResting", "(I)V"⟩, prog_1_method_16_code, 3, none, 2, 1, 0, 0, 0, [(0, .iconst 0, 1, [], 0, 0), (1, .istore_n 2, 1, [], 0, 0), (2, .iload_n 2, 1, [], 0, 0), (3, .aload_n 0, 1, [], 0, 0), (4, .getfield 68, 3, [], 18, 0), (7, .if_icmp .ge 47, 3, [], 0, 0), (10, .aload_n 0, 1, [], 0, 0), (11, .getfield 33, 3, [], 7, 0), (14, .iload_n 2, 1, [], 0, 0), (15, .iaload, 1, [], 0, 0), (16, .iload_n 1, 1, [], 0, 0), (17, .if_icmp .ne 31, 3, [], 0, 0), (20, .aload_n 0, 1, [false, true], 0, 0), (21, .getfield 33, 3, [], 7, 0), (24, .iload_n 2, 1, [], 0, 0), (25, .aload_n 0, 1, [], 0, 0), (26, .getfield 33, 3, [], 7, 0), (29, .aload_n 0, 1, [], 0, 0), (30, .getfield 68, 3, [], 18, 0), (33, .iconst 1, 1, [], 0, 0), (34, .isub, 1, [], 0, 0), (35, .iaload, 1, [], 0, 0), (36, .iastore, 1, [], 0, 0), (37, .aload_n 0, 1, [], 0, 0), (38, .dup, 1, [], 0, 0), (39, .getfield 68, 3, [], 18, 0), (42, .iconst 1, 1, [], 0, 0), (43, .isub, 1, [], 0, 0), (44, .putfield 68, 3, [], 18, 0), (47, .return_, 1, [], 0, 0), (48, .iinc 2 1, 3, [], 0, 0), (51, .goto (-49), 3, [], 0, 0), (54, .return_, 1, [], 0, 0)])
def d_19 : MD := (⟨"ProRataBook", "crosses", "(III)Z"⟩, prog_1_method_6_code, 4, some .boolean, 2, 3, 0, 0, 0, [(0, .iload_n 1, 1, [], 0, 0), (1, .ifCond .ne 14, 3, [], 0, 0), (4, .iload_n 3, 1, [], 0, 0), (5, .iload_n 2, 1, [], 0, 0), (6, .if_icmp .gt 7, 3, [], 0, 0), (9, .iconst 1, 1, [], 0, 0), (10, .goto 4, 3, [], 0, 0), (13, .iconst 0, 1, [], 0, 0), (14, .ireturn, 1, [], 0, 0), (15, .iload_n 3, 1, [], 0, 0), (16, .iload_n 2, 1, [], 0, 0), (17, .if_icmp .lt 7, 3, [], 0, 0), (20, .iconst 1, 1, [], 0, 0), (21, .goto 4, 3, [], 0, 0), (24, .iconst 0, 1, [], 0, 0), (25, .ireturn, 1, [], 0, 0)])
def d_20 : MD := (⟨"ProRataBook", "better", "(III)Z"⟩, prog_1_method_7_code, 4, some .boolean, 2, 3, 0, 0, 0, [(0, .iload_n 1, 1, [], 0, 0), (1, .ifCond .ne 14, 3, [], 0, 0), (4, .iload_n 2, 1, [], 0, 0), (5, .iload_n 3, 1, [], 0, 0), (6, .if_icmp .le 7, 3, [], 0, 0), (9, .iconst 1, 1, [], 0, 0), (10, .goto 4, 3, [], 0, 0), (13, .iconst 0, 1, [], 0, 0), (14, .ireturn, 1, [], 0, 0), (15, .iload_n 2, 1, [], 0, 0), (16, .iload_n 3, 1, [], 0, 0), (17, .if_icmp .ge 7, 3, [], 0, 0), (20, .iconst 1, 1, [], 0, 0), (21, .goto 4, 3, [], 0, 0), (24, .iconst 0, 1, [], 0, 0), (25, .ireturn, 1, [], 0, 0)])
def d_21 : MD := (⟨"ProRataBook", "matchLevel", "(III)I"⟩, prog_1_method_8_code, 6, some .int, 2, 3, 0, 2, 38, [(0, .aload_n 0, 1, [], 0, 0), (1, .iload_n 1, 1, [], 0, 0), (2, .iload_n 2, 1, [], 0, 0), (3, .invokevirtual 104, 3, [], 22, 0), (6, .aload_n 0, 1, [], 0, 0), (7, .invokevirtual 108, 3, [], 23, 0), (10, .iconst 0, 1, [], 0, 0), (11, .istore 4, 2, [], 0, 0), (13, .iload 4, 2, [false, true, false, false, false, true], 0, 0), (15, .aload_n 0, 1, [], 0, 0), (16, .getfield 74, 3, [], 20, 0), (19, .if_icmp .ge 40, 3, [], 0, 0), (22, .aload_n 0, 1, [], 0, 0), (23, .getfield 45, 3, [], 11, 0), (26, .iload 4, 2, [], 0, 0), (28, .iaload, 1, [], 0, 0), (29, .istore 5, 2, [], 0, 0), (31, .aload_n 0, 1, [], 0, 0), (32, .getfield 48, 3, [], 12, 0), (35, .iload 4, 2, [], 0, 0), (37, .aload_n 0, 1, [], 0, 0), (38, .getfield 16, 3, [], 2, 0), (41, .iload 5, 2, [], 0, 0), (43, .iaload, 1, [], 0, 0), (44, .iastore, 1, [], 0, 0), (45, .aload_n 0, 1, [], 0, 0), (46, .getfield 51, 3, [], 13, 0), (49, .iload 4, 2, [], 0, 0), (51, .iconst 0, 1, [], 0, 0), (52, .iastore, 1, [], 0, 0), (53, .iinc 4 1, 3, [], 0, 0), (56, .goto (-43), 3, [], 0, 0), (59, .aload_n 0, 1, [false, true, false, false, true, true], 0, 0), (60, .iload_n 3, 1, [], 0, 0), (61, .invokevirtual 111, 3, [], 24, 0), (64, .istore 4, 2, [], 0, 0), (66, .aload_n 0, 1, [], 0, 0), (67, .iload_n 2, 1, [], 0, 0), (68, .invokevirtual 114, 3, [], 27, 0), (71, .iload 4, 2, [], 0, 0), (73, .ireturn, 1, [], 0, 0)])
def d_22 : MD := (⟨"ProRataBook", "gatherLevel", "(II)V"⟩, prog_1_method_9_code, 5, none, 2, 2, 0, 0, 0, [(0, .aload_n 0, 1, [], 0, 0), (1, .iconst 0, 1, [], 0, 0), (2, .putfield 74, 3, [], 20, 0), (5, .iconst 0, 1, [], 0, 0), (6, .istore_n 3, 1, [], 0, 0), (7, .iload_n 3, 1, [false, false, false, false, true], 0, 0), (8, .aload_n 0, 1, [], 0, 0), (9, .getfield 68, 3, [], 18, 0), (12, .if_icmp .ge 69, 3, [], 0, 0), (15, .aload_n 0, 1, [], 0, 0), (16, .getfield 33, 3, [], 7, 0), (19, .iload_n 3, 1, [], 0, 0), (20, .iaload, 1, [], 0, 0), (21, .istore 4, 2, [], 0, 0), (23, .aload_n 0, 1, [], 0, 0), (24, .getfield 7, 3, [], 0, 0), (27, .iload 4, 2, [], 0, 0), (29, .iaload, 1, [], 0, 0), (30, .iload_n 1, 1, [], 0, 0), (31, .if_icmp .ne 44, 3, [], 0, 0), (34, .aload_n 0, 1, [], 0, 0), (35, .getfield 13, 3, [], 1, 0), (38, .iload 4, 2, [], 0, 0), (40, .iaload, 1, [], 0, 0), (41, .iload_n 2, 1, [], 0, 0), (42, .if_icmp .ne 33, 3, [], 0, 0), (45, .aload_n 0, 1, [], 0, 0), (46, .getfield 74, 3, [], 20, 0), (49, .bipush 64, 2, [], 0, 0), (51, .if_icmp .ge 24, 3, [], 0, 0), (54, .aload_n 0, 1, [], 0, 0), (55, .getfield 45, 3, [], 11, 0), (58, .aload_n 0, 1, [], 0, 0), (59, .getfield 74, 3, [], 20, 0), (62, .iload 4, 2, [], 0, 0), (64, .iastore, 1, [], 0, 0), (65, .aload_n 0, 1, [], 0, 0), (66, .dup, 1, [], 0, 0), (67, .getfield 74, 3, [], 20, 0), (70, .iconst 1, 1, [], 0, 0), (71, .iadd, 1, [], 0, 0), (72, .putfield 74, 3, [], 20, 0), (75, .iinc 3 1, 3, [], 0, 0), (78, .goto (-71), 3, [], 0, 0), (81, .return_, 1, [], 0, 0)])
def d_23 : MD := (⟨"ProRataBook", "sortLevel", "()V"⟩, prog_1_method_10_code, 6, none, 2, 0, 0, 0, 0, [(0, .iconst 1, 1, [], 0, 0), (1, .istore_n 1, 1, [], 0, 0), (2, .iload_n 1, 1, [false, false, true, true, true, true], 0, 0), (3, .aload_n 0, 1, [], 0, 0), (4, .getfield 74, 3, [], 20, 0), (7, .if_icmp .ge 80, 3, [], 0, 0), (10, .aload_n 0, 1, [], 0, 0), (11, .getfield 45, 3, [], 11, 0), (14, .iload_n 1, 1, [], 0, 0), (15, .iaload, 1, [], 0, 0), (16, .istore_n 2, 1, [], 0, 0), (17, .aload_n 0, 1, [], 0, 0), (18, .getfield 25, 3, [], 5, 0), (21, .iload_n 2, 1, [], 0, 0), (22, .laload, 1, [], 0, 0), (23, .lstore_n 3, 1, [], 0, 0), (24, .iload_n 1, 1, [], 0, 0), (25, .istore 5, 2, [], 0, 0), (27, .iload 5, 2, [], 0, 0), (29, .ifCond .le 44, 3, [], 0, 0), (32, .aload_n 0, 1, [], 0, 0), (33, .getfield 25, 3, [], 5, 0), (36, .aload_n 0, 1, [], 0, 0), (37, .getfield 45, 3, [], 11, 0), (40, .iload 5, 2, [], 0, 0), (42, .iconst 1, 1, [], 0, 0), (43, .isub, 1, [], 0, 0), (44, .iaload, 1, [], 0, 0), (45, .laload, 1, [], 0, 0), (46, .lload_n 3, 1, [], 0, 0), (47, .lcmp, 1, [], 0, 0), (48, .ifCond .le 25, 3, [], 0, 0), (51, .aload_n 0, 1, [], 0, 0), (52, .getfield 45, 3, [], 11, 0), (55, .iload 5, 2, [], 0, 0), (57, .aload_n 0, 1, [], 0, 0), (58, .getfield 45, 3, [], 11, 0), (61, .iload 5, 2, [], 0, 0), (63, .iconst 1, 1, [], 0, 0), (64, .isub, 1, [], 0, 0), (65, .iaload, 1, [], 0, 0), (66, .iastore, 1, [], 0, 0), (67, .iinc 5 (-1), 3, [], 0, 0), (70, .goto (-43), 3, [], 0, 0), (73, .aload_n 0, 1, [false, false, false, true, true], 0, 0), (74, .getfield 45, 3, [], 11, 0), (77, .iload 5, 2, [], 0, 0), (79, .iload_n 2, 1, [], 0, 0), (80, .iastore, 1, [], 0, 0), (81, .iinc 1 1, 3, [], 0, 0), (84, .goto (-82), 3, [], 0, 0), (87, .return_, 1, [], 0, 0)])
def d_24 : MD := (⟨"ProRataBook", "allocate", "(I)I"⟩, prog_1_method_11_code, 7, some .int, 2, 1, 0, 1, 20, [(0, .iconst 0, 1, [], 0, 0), (1, .istore_n 2, 1, [], 0, 0), (2, .iconst 0, 1, [], 0, 0), (3, .istore_n 3, 1, [], 0, 0), (4, .iload_n 3, 1, [false, false, false, false, true, true, true], 0, 0), (5, .aload_n 0, 1, [], 0, 0), (6, .getfield 74, 3, [], 20, 0), (9, .if_icmp .ge 18, 3, [], 0, 0), (12, .iload_n 2, 1, [], 0, 0), (13, .aload_n 0, 1, [], 0, 0), (14, .getfield 48, 3, [], 12, 0), (17, .iload_n 3, 1, [], 0, 0), (18, .iaload, 1, [], 0, 0), (19, .iadd, 1, [], 0, 0), (20, .istore_n 2, 1, [], 0, 0), (21, .iinc 3 1, 3, [], 0, 0), (24, .goto (-20), 3, [], 0, 0), (27, .iload_n 1, 1, [false, false, false, true, true, true, true], 0, 0), (28, .iload_n 2, 1, [], 0, 0), (29, .if_icmp .ge 7, 3, [], 0, 0), (32, .iload_n 1, 1, [], 0, 0), (33, .goto 4, 3, [], 0, 0), (36, .iload_n 2, 1, [], 0, 0), (37, .istore_n 3, 1, [false, true, true, true, true, true, true], 0, 0), (38, .aload_n 0, 1, [], 0, 0), (39, .iload_n 3, 1, [], 0, 0), (40, .invokevirtual 117, 3, [], 25, 0), (43, .istore 4, 2, [], 0, 0), (45, .iload_n 3, 1, [], 0, 0), (46, .iload 4, 2, [], 0, 0), (48, .isub, 1, [], 0, 0), (49, .istore 5, 2, [], 0, 0), (51, .iconst 0, 1, [], 0, 0), (52, .istore 6, 2, [], 0, 0), (54, .iload 5, 2, [], 0, 0), (56, .ifCond .le 11, 3, [], 0, 0), (59, .aload_n 0, 1, [], 0, 0), (60, .iload 5, 2, [], 0, 0), (62, .invokevirtual 120, 3, [], 28, 0), (65, .istore 6, 2, [], 0, 0), (67, .aload_n 0, 1, [false, true, true, false, true], 0, 0), (68, .iload 5, 2, [], 0, 0), (70, .iload 6, 2, [], 0, 0), (72, .isub, 1, [], 0, 0), (73, .invokevirtual 123, 3, [], 26, 0), (76, .iload_n 3, 1, [], 0, 0), (77, .ireturn, 1, [], 0, 0)])
def d_25 : MD := (⟨"ProRataBook", "topStep", "(I)I"⟩, prog_1_method_12_code, 5, some .int, 2, 1, 0, 0, 0, [(0, .aload_n 0, 1, [], 0, 0), (1, .getfield 58, 3, [], 15, 0), (4, .ifCond .gt 5, 3, [], 0, 0), (7, .iconst 0, 1, [], 0, 0), (8, .ireturn, 1, [], 0, 0), (9, .iconst 0, 1, [], 0, 0), (10, .istore_n 2, 1, [], 0, 0), (11, .iload_n 2, 1, [false, false, false, true, true], 0, 0), (12, .aload_n 0, 1, [], 0, 0), (13, .getfield 74, 3, [], 20, 0), (16, .if_icmp .ge 84, 3, [], 0, 0), (19, .aload_n 0, 1, [], 0, 0), (20, .getfield 45, 3, [], 11, 0), (23, .iload_n 2, 1, [], 0, 0), (24, .iaload, 1, [], 0, 0), (25, .istore_n 3, 1, [], 0, 0), (26, .aload_n 0, 1, [], 0, 0), (27, .getfield 29, 3, [], 6, 0), (30, .iload_n 3, 1, [], 0, 0), (31, .baload, 1, [], 0, 0), (32, .ifCond .eq 62, 3, [], 0, 0), (35, .iload_n 1, 1, [false, false, false, true, true], 0, 0), (36, .istore 4, 2, [], 0, 0), (38, .aload_n 0, 1, [], 0, 0), (39, .getfield 48, 3, [], 12, 0), (42, .iload_n 2, 1, [], 0, 0), (43, .iaload, 1, [], 0, 0), (44, .iload 4, 2, [], 0, 0), (46, .if_icmp .ge 11, 3, [], 0, 0), (49, .aload_n 0, 1, [], 0, 0), (50, .getfield 48, 3, [], 12, 0), (53, .iload_n 2, 1, [], 0, 0), (54, .iaload, 1, [], 0, 0), (55, .istore 4, 2, [], 0, 0), (57, .aload_n 0, 1, [false, true, false, true], 0, 0), (58, .getfield 58, 3, [], 15, 0), (61, .iload 4, 2, [], 0, 0), (63, .if_icmp .ge 9, 3, [], 0, 0), (66, .aload_n 0, 1, [], 0, 0), (67, .getfield 58, 3, [], 15, 0), (70, .istore 4, 2, [], 0, 0), (72, .iload 4, 2, [false, true, false, true], 0, 0), (74, .ifCond .ge 6, 3, [], 0, 0), (77, .iconst 0, 1, [], 0, 0), (78, .istore 4, 2, [], 0, 0), (80, .aload_n 0, 1, [false, true, false, true], 0, 0), (81, .getfield 51, 3, [], 13, 0), (84, .iload_n 2, 1, [], 0, 0), (85, .dup2, 1, [], 0, 0), (86, .iaload, 1, [], 0, 0), (87, .iload 4, 2, [], 0, 0), (89, .iadd, 1, [], 0, 0), (90, .iastore, 1, [], 0, 0), (91, .iload 4, 2, [], 0, 0), (93, .ireturn, 1, [], 0, 0), (94, .iinc 2 1, 3, [], 0, 0), (97, .goto (-86), 3, [], 0, 0), (100, .iconst 0, 1, [], 0, 0), (101, .ireturn, 1, [], 0, 0)])
def d_26 : MD := (⟨"ProRataBook", "timeStep", "(I)V"⟩, prog_1_method_14_code, 6, none, 2, 1, 0, 0, 0, [(0, .iload_n 1, 1, [], 0, 0), (1, .istore_n 2, 1, [], 0, 0), (2, .iconst 0, 1, [], 0, 0), (3, .istore_n 3, 1, [], 0, 0), (4, .iload_n 3, 1, [false, true, false, false, true, true], 0, 0), (5, .aload_n 0, 1, [], 0, 0), (6, .getfield 74, 3, [], 20, 0), (9, .if_icmp .ge 63, 3, [], 0, 0), (12, .iload_n 2, 1, [], 0, 0), (13, .ifCond .le 59, 3, [], 0, 0), (16, .aload_n 0, 1, [], 0, 0), (17, .getfield 48, 3, [], 12, 0), (20, .iload_n 3, 1, [], 0, 0), (21, .iaload, 1, [], 0, 0), (22, .aload_n 0, 1, [], 0, 0), (23, .getfield 51, 3, [], 13, 0), (26, .iload_n 3, 1, [], 0, 0), (27, .iaload, 1, [], 0, 0), (28, .isub, 1, [], 0, 0), (29, .istore 4, 2, [], 0, 0), (31, .iload_n 2, 1, [], 0, 0), (32, .iload 4, 2, [], 0, 0), (34, .if_icmp .ge 7, 3, [], 0, 0), (37, .iload_n 2, 1, [], 0, 0), (38, .goto 5, 3, [], 0, 0), (41, .iload 4, 2, [], 0, 0), (43, .istore 5, 2, [false, true, false, false, true, true], 0, 0), (45, .iload 5, 2, [], 0, 0), (47, .ifCond .le 19, 3, [], 0, 0), (50, .aload_n 0, 1, [], 0, 0), (51, .getfield 51, 3, [], 13, 0), (54, .iload_n 3, 1, [], 0, 0), (55, .dup2, 1, [], 0, 0), (56, .iaload, 1, [], 0, 0), (57, .iload 5, 2, [], 0, 0), (59, .iadd, 1, [], 0, 0), (60, .iastore, 1, [], 0, 0), (61, .iload_n 2, 1, [], 0, 0), (62, .iload 5, 2, [], 0, 0), (64, .isub, 1, [], 0, 0), (65, .istore_n 2, 1, [], 0, 0), (66, .iinc 3 1, 3, [], 0, 0), (69, .goto (-65), 3, [], 0, 0), (72, .return_, 1, [], 0, 0)])
def d_27 : MD := (⟨"ProRataBook", "applyLevel", "(I)V"⟩, prog_1_method_15_code, 5, none, 2, 1, 0, 1, 14, [(0, .iconst 0, 1, [], 0, 0), (1, .istore_n 2, 1, [], 0, 0), (2, .iload_n 2, 1, [false, false, false, true, true], 0, 0), (3, .aload_n 0, 1, [], 0, 0), (4, .getfield 74, 3, [], 20, 0), (7, .if_icmp .ge 143, 3, [], 0, 0), (10, .aload_n 0, 1, [], 0, 0), (11, .getfield 51, 3, [], 13, 0), (14, .iload_n 2, 1, [], 0, 0), (15, .iaload, 1, [], 0, 0), (16, .istore_n 3, 1, [], 0, 0), (17, .iload_n 3, 1, [], 0, 0), (18, .ifCond .gt 6, 3, [], 0, 0), (21, .goto 123, 3, [], 0, 0), (24, .aload_n 0, 1, [], 0, 0), (25, .getfield 45, 3, [], 11, 0), (28, .iload_n 2, 1, [], 0, 0), (29, .iaload, 1, [], 0, 0), (30, .istore 4, 2, [], 0, 0), (32, .aload_n 0, 1, [], 0, 0), (33, .getfield 71, 3, [], 19, 0), (36, .bipush 64, 2, [], 0, 0), (38, .if_icmp .ge 44, 3, [], 0, 0), (41, .aload_n 0, 1, [], 0, 0), (42, .getfield 36, 3, [], 8, 0), (45, .aload_n 0, 1, [], 0, 0), (46, .getfield 71, 3, [], 19, 0), (49, .iload 4, 2, [], 0, 0), (51, .iastore, 1, [], 0, 0), (52, .aload_n 0, 1, [], 0, 0), (53, .getfield 42, 3, [], 10, 0), (56, .aload_n 0, 1, [], 0, 0), (57, .getfield 71, 3, [], 19, 0), (60, .iload_n 1, 1, [], 0, 0), (61, .iastore, 1, [], 0, 0), (62, .aload_n 0, 1, [], 0, 0), (63, .getfield 39, 3, [], 9, 0), (66, .aload_n 0, 1, [], 0, 0), (67, .getfield 71, 3, [], 19, 0), (70, .iload_n 3, 1, [], 0, 0), (71, .iastore, 1, [], 0, 0), (72, .aload_n 0, 1, [], 0, 0), (73, .dup, 1, [], 0, 0), (74, .getfield 71, 3, [], 19, 0), (77, .iconst 1, 1, [], 0, 0), (78, .iadd, 1, [], 0, 0), (79, .putfield 71, 3, [], 19, 0), (82, .aload_n 0, 1, [], 0, 0), (83, .getfield 16, 3, [], 2, 0), (86, .iload 4, 2, [], 0, 0), (88, .dup2, 1, [], 0, 0), (89, .iaload, 1, [], 0, 0), (90, .iload_n 3, 1, [], 0, 0), (91, .isub, 1, [], 0, 0), (92, .iastore, 1, [], 0, 0), (93, .aload_n 0, 1, [], 0, 0), (94, .getfield 19, 3, [], 3, 0), (97, .iload 4, 2, [], 0, 0), (99, .dup2, 1, [], 0, 0), (100, .iaload, 1, [], 0, 0), (101, .iload_n 3, 1, [], 0, 0), (102, .iadd, 1, [], 0, 0), (103, .iastore, 1, [], 0, 0), (104, .aload_n 0, 1, [], 0, 0), (105, .getfield 16, 3, [], 2, 0), (108, .iload 4, 2, [], 0, 0), (110, .iaload, 1, [], 0, 0), (111, .ifCond .gt 33, 3, [], 0, 0), (114, .aload_n 0, 1, [], 0, 0), (115, .getfield 16, 3, [], 2, 0), (118, .iload 4, 2, [], 0, 0), (120, .iconst 0, 1, [], 0, 0), (121, .iastore, 1, [], 0, 0), (122, .aload_n 0, 1, [], 0, 0), (123, .getfield 22, 3, [], 4, 0), (126, .iload 4, 2, [], 0, 0), (128, .iconst 2, 1, [], 0, 0), (129, .iastore, 1, [], 0, 0), (130, .aload_n 0, 1, [], 0, 0), (131, .getfield 29, 3, [], 6, 0), (134, .iload 4, 2, [], 0, 0), (136, .iconst 0, 1, [], 0, 0), (137, .bastore, 1, [], 0, 0), (138, .aload_n 0, 1, [], 0, 0), (139, .iload 4, 2, [], 0, 0), (141, .invokevirtual 126, 3, [], 18, 0), (144, .iinc 2 1, 3, [], 0, 0), (147, .goto (-145), 3, [], 0, 0), (150, .return_, 1, [], 0, 0)])
def d_28 : MD := (⟨"ProRataBook", "proRataStep", "(I)I"⟩, prog_1_method_13_code, 9, some .int, 2, 1, 0, 0, 0, [(0, .lconst 0, 1, [], 0, 0), (1, .lstore_n 2, 1, [], 0, 0), (2, .iconst 0, 1, [], 0, 0), (3, .istore 4, 2, [], 0, 0), (5, .iload 4, 2, [false, false, false, false, false, true, true, true, true], 0, 0), (7, .aload_n 0, 1, [], 0, 0), (8, .getfield 74, 3, [], 20, 0), (11, .if_icmp .ge 28, 3, [], 0, 0), (14, .lload_n 2, 1, [], 0, 0), (15, .aload_n 0, 1, [], 0, 0), (16, .getfield 48, 3, [], 12, 0), (19, .iload 4, 2, [], 0, 0), (21, .iaload, 1, [], 0, 0), (22, .aload_n 0, 1, [], 0, 0), (23, .getfield 51, 3, [], 13, 0), (26, .iload 4, 2, [], 0, 0), (28, .iaload, 1, [], 0, 0), (29, .isub, 1, [], 0, 0), (30, .i2l, 1, [], 0, 0), (31, .ladd, 1, [], 0, 0), (32, .lstore_n 2, 1, [], 0, 0), (33, .iinc 4 1, 3, [], 0, 0), (36, .goto (-31), 3, [], 0, 0), (39, .lload_n 2, 1, [false, false, false, false, true, true, true, true, true], 0, 0), (40, .lconst 0, 1, [], 0, 0), (41, .lcmp, 1, [], 0, 0), (42, .ifCond .gt 5, 3, [], 0, 0), (45, .iconst 0, 1, [], 0, 0), (46, .ireturn, 1, [], 0, 0), (47, .iconst 0, 1, [], 0, 0), (48, .istore 4, 2, [], 0, 0), (50, .iconst 0, 1, [], 0, 0), (51, .istore 5, 2, [], 0, 0), (53, .iload 5, 2, [false, false, false, false, false, false, true, true, true], 0, 0), (55, .aload_n 0, 1, [], 0, 0), (56, .getfield 74, 3, [], 20, 0), (59, .if_icmp .ge 68, 3, [], 0, 0), (62, .aload_n 0, 1, [], 0, 0), (63, .getfield 48, 3, [], 12, 0), (66, .iload 5, 2, [], 0, 0), (68, .iaload, 1, [], 0, 0), (69, .aload_n 0, 1, [], 0, 0), (70, .getfield 51, 3, [], 13, 0), (73, .iload 5, 2, [], 0, 0), (75, .iaload, 1, [], 0, 0), (76, .isub, 1, [], 0, 0), (77, .i2l, 1, [], 0, 0), (78, .lstore 6, 2, [], 0, 0), (80, .iload_n 1, 1, [], 0, 0), (81, .i2l, 1, [], 0, 0), (82, .lload 6, 2, [], 0, 0), (84, .lmul, 1, [], 0, 0), (85, .lload_n 2, 1, [], 0, 0), (86, .ldiv, 1, [], 0, 0), (87, .l2i, 1, [], 0, 0), (88, .istore 8, 2, [], 0, 0), (90, .iload 8, 2, [], 0, 0), (92, .aload_n 0, 1, [], 0, 0), (93, .getfield 54, 3, [], 14, 0), (96, .if_icmp .ge 6, 3, [], 0, 0), (99, .iconst 0, 1, [], 0, 0), (100, .istore 8, 2, [], 0, 0), (102, .aload_n 0, 1, [false, false, false, false, false, false, true, true], 0, 0), (103, .getfield 51, 3, [], 13, 0), (106, .iload 5, 2, [], 0, 0), (108, .dup2, 1, [], 0, 0), (109, .iaload, 1, [], 0, 0), (110, .iload 8, 2, [], 0, 0), (112, .iadd, 1, [], 0, 0), (113, .iastore, 1, [], 0, 0), (114, .iload 4, 2, [], 0, 0), (116, .iload 8, 2, [], 0, 0), (118, .iadd, 1, [], 0, 0), (119, .istore 4, 2, [], 0, 0), (121, .iinc 5 1, 3, [], 0, 0), (124, .goto (-71), 3, [], 0, 0), (127, .iload 4, 2, [], 0, 0), (129, .ireturn, 1, [], 0, 0)])
def own_P : PD := ([("ProRataBook", 21, [("oSide", "[I", (.array .int), false), ("oPrice", "[I", (.array .int), false), ("oRem", "[I", (.array .int), false), ("oFilled", "[I", (.array .int), false), ("oStatus", "[I", (.array .int), false), ("oStamp", "[J", (.array .long), false), ("oTop", "[Z", (.array .boolean), false), ("restIds", "[I", (.array .int), false), ("fIds", "[I", (.array .int), false), ("fQty", "[I", (.array .int), false), ("fPrice", "[I", (.array .int), false), ("lvlIds", "[I", (.array .int), false), ("lvlR", "[I", (.array .int), false), ("lvlA", "[I", (.array .int), false), ("minAlloc", "I", .int, false), ("topCap", "I", .int, false), ("accepted", "I", .int, false), ("stampCounter", "J", .long, false), ("restN", "I", .int, false), ("fN", "I", .int, false), ("lvlN", "I", .int, false)])], [d_0, d_1, d_2, d_3, d_4, d_5, d_6, d_7, d_8, d_9, d_10, d_11, d_12, d_13, d_14, d_15, d_16, d_17, d_18, d_19, d_20, d_21, d_22, d_23, d_24, d_25, d_26, d_27, d_28], 1)
theorem hm_0 : own_P.mth[0]? = some d_0 := rfl
theorem hm_1 : own_P.mth[1]? = some d_1 := rfl
theorem hm_2 : own_P.mth[2]? = some d_2 := rfl
theorem hm_3 : own_P.mth[3]? = some d_3 := rfl
theorem hm_4 : own_P.mth[4]? = some d_4 := rfl
theorem hm_5 : own_P.mth[5]? = some d_5 := rfl
theorem hm_6 : own_P.mth[6]? = some d_6 := rfl
theorem hm_7 : own_P.mth[7]? = some d_7 := rfl
theorem hm_8 : own_P.mth[8]? = some d_8 := rfl
theorem hm_9 : own_P.mth[9]? = some d_9 := rfl
theorem hm_10 : own_P.mth[10]? = some d_10 := rfl
theorem hm_11 : own_P.mth[11]? = some d_11 := rfl
theorem hm_12 : own_P.mth[12]? = some d_12 := rfl
theorem hm_13 : own_P.mth[13]? = some d_13 := rfl
theorem hm_14 : own_P.mth[14]? = some d_14 := rfl
theorem hm_15 : own_P.mth[15]? = some d_15 := rfl
theorem hm_16 : own_P.mth[16]? = some d_16 := rfl
theorem hm_17 : own_P.mth[17]? = some d_17 := rfl
theorem hm_18 : own_P.mth[18]? = some d_18 := rfl
theorem hm_19 : own_P.mth[19]? = some d_19 := rfl
theorem hm_20 : own_P.mth[20]? = some d_20 := rfl
theorem hm_21 : own_P.mth[21]? = some d_21 := rfl
theorem hm_22 : own_P.mth[22]? = some d_22 := rfl
theorem hm_23 : own_P.mth[23]? = some d_23 := rfl
theorem hm_24 : own_P.mth[24]? = some d_24 := rfl
theorem hm_25 : own_P.mth[25]? = some d_25 := rfl
theorem hm_26 : own_P.mth[26]? = some d_26 := rfl
theorem hm_27 : own_P.mth[27]? = some d_27 := rfl
theorem hm_28 : own_P.mth[28]? = some d_28 := rfl
set_option maxRecDepth 100000 in
theorem own_chk : chk own_P = true := by decide +kernel
def own_ix : List Nat := [1, 2, 11, 13, 15, 17, 19, 22, 25, 27, 29, 31, 33, 35, 37, 39, 41, 43, 45, 47, 49, 51, 53, 5, 2, 4, 58, 2, 55, 57, 56, 62, 61, 60, 67, 2, 64, 66, 65, 71, 2, 69, 70, 76, 2, 73, 75, 74, 81, 2, 78, 80, 79, 85, 2, 83, 84, 90, 2, 87, 89, 88, 95, 2, 92, 94, 93, 100, 2, 97, 99, 98, 105, 2, 102, 104, 103, 110, 2, 107, 109, 108, 115, 2, 112, 114, 113, 119, 2, 117, 118, 123, 2, 121, 122, 127, 2, 125, 126, 131, 2, 129, 130, 135, 2, 133, 134, 139, 2, 137, 138, 143, 2, 141, 142, 147, 2, 145, 146, 151, 2, 149, 150, 155, 2, 153, 154, 159, 2, 157, 158, 163, 2, 161, 162, 167, 2, 165, 166, 171, 2, 169, 170, 0, 3, 111, 106, 54, 59, 59, 6, 7, 8, 9, 10, 9, 12, 9, 14, 9, 16, 9, 18, 20, 21, 23, 24, 9, 26, 9, 28, 9, 30, 9, 32, 9, 34, 9, 36, 9, 38, 40, 42, 44, 46, 48, 50, 52, 44, 44, 44, 44, 50, 10, 12, 14, 16, 24, 21, 116, 120, 63, 63, 72, 77, 86, 91, 96, 101, 68, 48, 26, 10, 12, 136, 44, 18, 82, 14, 44, 18, 82, 48, 26, 10, 10, 12, 12, 21, 21, 82, 24, 44, 16, 48, 82, 14, 14, 14, 14, 46, 46, 21, 46, 24, 82, 18, 14, 24, 128, 68, 132, 140, 16, 18, 14, 48, 18, 14, 68, 136, 124, 46, 46, 21, 46, 14, 18, 24, 26, 48, 48, 48, 48, 26, 10, 24, 48, 26, 26, 26, 48, 48, 48, 144, 148, 52, 34, 36, 14, 38, 152, 164, 52, 48, 26, 10, 12, 52, 34, 52, 52, 52, 52, 34, 21, 21, 34, 34, 34, 34, 52, 36, 156, 168, 160, 42, 52, 34, 24, 36, 36, 42, 42, 38, 52, 36, 38, 38, 52, 38, 34, 50, 28, 50, 32, 50, 30, 50, 50, 50, 14, 16, 14, 14, 18, 24, 128, 52, 36, 38, 52, 36, 38, 40, 38]
set_option maxRecDepth 100000 in
theorem own_words : (wordsOf own_P).map some = own_ix.map fun k => tables_1[k]? := rfl
theorem own_in : ∀ d ∈ wordsOf own_P, d ∈ tables_1 := fun d hd => by
  have h1 : some d ∈ (wordsOf own_P).map some := List.mem_map.mpr ⟨d, hd, rfl⟩
  rw [own_words] at h1
  obtain ⟨k, -, hk⟩ := List.mem_map.mp h1
  exact List.mem_of_getElem? hk
abbrev bk0 (s_oSide : List Int32) (s_oPrice : List Int32) (s_oRem : List Int32) (s_oFilled : List Int32) (s_oStatus : List Int32) (s_oStamp : List Int64) (s_oTop : List Int32) (s_restIds : List Int32) (s_fIds : List Int32) (s_fQty : List Int32) (s_fPrice : List Int32) (s_lvlIds : List Int32) (s_lvlR : List Int32) (s_lvlA : List Int32) (s_minAlloc : Int32) (s_topCap : Int32) (s_accepted : Int32) (s_stampCounter : Int64) (s_restN : Int32) (s_fN : Int32) (s_lvlN : Int32) (po : List ACell) : List ACell := .inl (0, [.ref 2, .ref 3, .ref 4, .ref 5, .ref 6, .ref 7, .ref 8, .ref 9, .ref 10, .ref 11, .ref 12, .ref 13, .ref 14, .ref 15, .int s_minAlloc, .int s_topCap, .int s_accepted, .long s_stampCounter, .int s_restN, .int s_fN, .int s_lvlN]) :: .inr (.inl (false, s_oSide)) :: .inr (.inl (false, s_oPrice)) :: .inr (.inl (false, s_oRem)) :: .inr (.inl (false, s_oFilled)) :: .inr (.inl (false, s_oStatus)) :: .inr (.inr s_oStamp) :: .inr (.inl (true, s_oTop)) :: .inr (.inl (false, s_restIds)) :: .inr (.inl (false, s_fIds)) :: .inr (.inl (false, s_fQty)) :: .inr (.inl (false, s_fPrice)) :: .inr (.inl (false, s_lvlIds)) :: .inr (.inl (false, s_lvlR)) :: .inr (.inl (false, s_lvlA)) :: po
def f_init_165 (o_oSide : List Int32) (o_oPrice : List Int32) (o_oRem : List Int32) (o_oFilled : List Int32) (o_oStatus : List Int32) (o_oStamp : List Int64) (o_oTop : List Int32) (o_restIds : List Int32) (o_fIds : List Int32) (o_fQty : List Int32) (o_fPrice : List Int32) (o_lvlIds : List Int32) (o_lvlR : List Int32) (o_lvlA : List Int32) (o_minAlloc : Int32) (o_topCap : Int32) (o_accepted : Int32) (o_stampCounter : Int64) (o_restN : Int32) (o_fN : Int32) (o_lvlN : Int32) (v3 : Int32) (v4 : Int32) : Option (List Int32 × List Int32 × List Int32 × List Int32 × List Int32 × List Int64 × List Int32 × List Int32 × List Int32 × List Int32 × List Int32 × List Int32 × List Int32 × List Int32 × Int32 × Int32 × Int32 × Int64 × Int32 × Int32 × Int32) :=
  some (o_oSide, o_oPrice, o_oRem, o_oFilled, o_oStatus, o_oStamp, o_oTop, o_restIds, o_fIds, o_fQty, o_fPrice, o_lvlIds, o_lvlR, o_lvlA, v3, v4, (0 : Int32), (0 : Int64), (0 : Int32), (0 : Int32), (0 : Int32))
def f_init_152 (o_oSide : List Int32) (o_oPrice : List Int32) (o_oRem : List Int32) (o_oFilled : List Int32) (o_oStatus : List Int32) (o_oStamp : List Int64) (o_oTop : List Int32) (o_restIds : List Int32) (o_fIds : List Int32) (o_fQty : List Int32) (o_fPrice : List Int32) (o_lvlIds : List Int32) (o_lvlR : List Int32) (o_lvlA : List Int32) (o_minAlloc : Int32) (o_topCap : Int32) (o_accepted : Int32) (o_stampCounter : Int64) (o_restN : Int32) (o_fN : Int32) (o_lvlN : Int32) (v3 : Int32) (v4 : Int32) : Option (List Int32 × List Int32 × List Int32 × List Int32 × List Int32 × List Int64 × List Int32 × List Int32 × List Int32 × List Int32 × List Int32 × List Int32 × List Int32 × List Int32 × Int32 × Int32 × Int32 × Int64 × Int32 × Int32 × Int32) :=
  f_init_165 o_oSide o_oPrice o_oRem o_oFilled o_oStatus o_oStamp o_oTop o_restIds o_fIds o_fQty o_fPrice o_lvlIds o_lvlR o_lvlA o_minAlloc o_topCap o_accepted o_stampCounter o_restN o_fN o_lvlN v3 (if (10000 : Int32) < v4 then (10000 : Int32) else v4)
def f_init_141 (o_oSide : List Int32) (o_oPrice : List Int32) (o_oRem : List Int32) (o_oFilled : List Int32) (o_oStatus : List Int32) (o_oStamp : List Int64) (o_oTop : List Int32) (o_restIds : List Int32) (o_fIds : List Int32) (o_fQty : List Int32) (o_fPrice : List Int32) (o_lvlIds : List Int32) (o_lvlR : List Int32) (o_lvlA : List Int32) (o_minAlloc : Int32) (o_topCap : Int32) (o_accepted : Int32) (o_stampCounter : Int64) (o_restN : Int32) (o_fN : Int32) (o_lvlN : Int32) (v2 : Int32) (v3 : Int32) : Option (List Int32 × List Int32 × List Int32 × List Int32 × List Int32 × List Int64 × List Int32 × List Int32 × List Int32 × List Int32 × List Int32 × List Int32 × List Int32 × List Int32 × Int32 × Int32 × Int32 × Int64 × Int32 × Int32 × Int32) :=
  f_init_152 o_oSide o_oPrice o_oRem o_oFilled o_oStatus o_oStamp o_oTop o_restIds o_fIds o_fQty o_fPrice o_lvlIds o_lvlR o_lvlA o_minAlloc o_topCap o_accepted o_stampCounter o_restN o_fN o_lvlN v3 (if v2 < (0 : Int32) then (0 : Int32) else v2)
def f_init_132 (o_oSide : List Int32) (o_oPrice : List Int32) (o_oRem : List Int32) (o_oFilled : List Int32) (o_oStatus : List Int32) (o_oStamp : List Int64) (o_oTop : List Int32) (o_restIds : List Int32) (o_fIds : List Int32) (o_fQty : List Int32) (o_fPrice : List Int32) (o_lvlIds : List Int32) (o_lvlR : List Int32) (o_lvlA : List Int32) (o_minAlloc : Int32) (o_topCap : Int32) (o_accepted : Int32) (o_stampCounter : Int64) (o_restN : Int32) (o_fN : Int32) (o_lvlN : Int32) (v2 : Int32) (v3 : Int32) : Option (List Int32 × List Int32 × List Int32 × List Int32 × List Int32 × List Int64 × List Int32 × List Int32 × List Int32 × List Int32 × List Int32 × List Int32 × List Int32 × List Int32 × Int32 × Int32 × Int32 × Int64 × Int32 × Int32 × Int32) :=
  f_init_141 o_oSide o_oPrice o_oRem o_oFilled o_oStatus o_oStamp o_oTop o_restIds o_fIds o_fQty o_fPrice o_lvlIds o_lvlR o_lvlA o_minAlloc o_topCap o_accepted o_stampCounter o_restN o_fN o_lvlN v2 (if (100 : Int32) < v3 then (100 : Int32) else v3)
def f_init (v1 : Int32) (v2 : Int32) : Option (List Int32 × List Int32 × List Int32 × List Int32 × List Int32 × List Int64 × List Int32 × List Int32 × List Int32 × List Int32 × List Int32 × List Int32 × List Int32 × List Int32 × Int32 × Int32 × Int32 × Int64 × Int32 × Int32 × Int32) :=
  f_init_132 (List.replicate 256 0) (List.replicate 256 0) (List.replicate 256 0) (List.replicate 256 0) (List.replicate 256 0) (List.replicate 256 0) (List.replicate 256 0) (List.replicate 64 0) (List.replicate 64 0) (List.replicate 64 0) (List.replicate 64 0) (List.replicate 64 0) (List.replicate 64 0) (List.replicate 64 0) (0 : Int32) (0 : Int32) (0 : Int32) (0 : Int64) (0 : Int32) (0 : Int32) (0 : Int32) v2 (if v1 < (1 : Int32) then (1 : Int32) else v1)
def f_isResting (o_oStatus : List Int32) (o_accepted : Int32) (v1 : Int32) : Option (Int32) :=
  if v1 < (1 : Int32) then
    some (0 : Int32)
  else
    if o_accepted < v1 then
      some (0 : Int32)
    else
      (rdA o_oStatus v1).bind fun x1 =>
      some (if x1 = (1 : Int32) then (1 : Int32) else (0 : Int32))
def f_removeResting_20 (o_restIds : List Int32) (o_restN : Int32) (v2 : Int32) : Option (List Int32 × Int32) :=
  (rdA o_restIds (o_restN - (1 : Int32))).bind fun x3 =>
  (wrA o_restIds v2 x3).bind fun A4 =>
  some (A4, (o_restN - (1 : Int32)))
def f_removeResting_2 (k20 : List Int32 → Int32 → Int32 → Option (List Int32 × Int32)) : Nat → List Int32 → Int32 → Int32 → Int32 → Option (List Int32 × Int32)
  | 0, _, _, _, _ => none
  | n + 1, o_restIds, o_restN, v1, v2 =>
    if v2 < o_restN then
      (rdA o_restIds v2).bind fun x2 =>
      if x2 = v1 then
        k20 o_restIds o_restN v2
      else
        f_removeResting_2 k20 n o_restIds o_restN v1 (v2 + (1 : Int32))
    else
      some (o_restIds, o_restN)
def f_removeResting (o_restIds : List Int32) (o_restN : Int32) (v1 : Int32) : Option (List Int32 × Int32) :=
  f_removeResting_2 f_removeResting_20 100000 o_restIds o_restN v1 (0 : Int32)
def f_cancel (o_accepted : Int32) (o_oRem : List Int32) (o_oStatus : List Int32) (o_oTop : List Int32) (o_restIds : List Int32) (o_restN : Int32) (v1 : Int32) : Option (Int32 × List Int32 × List Int32 × List Int32 × List Int32 × Int32) :=
  (f_isResting o_oStatus o_accepted v1).bind fun r5 =>
  if r5 = (0 : Int32) then
    some ((-6 : Int32), o_oRem, o_oStatus, o_oTop, o_restIds, o_restN)
  else
    (wrA o_oStatus v1 (3 : Int32)).bind fun A6 =>
    (wrA o_oRem v1 (0 : Int32)).bind fun A7 =>
    (wrA o_oTop v1 (0 : Int32)).bind fun A8 =>
    (f_removeResting o_restIds o_restN v1).bind fun (s9, s10) =>
    some ((0 : Int32), A7, A6, A8, s9, s10)
def f_amend (o_oStatus : List Int32) (o_accepted : Int32) (o_oRem : List Int32) (o_oStamp : List Int64) (o_oTop : List Int32) (o_stampCounter : Int64) (v1 : Int32) (v2 : Int32) : Option (Int32 × List Int32 × List Int64 × List Int32 × Int64) :=
  (f_isResting o_oStatus o_accepted v1).bind fun r11 =>
  if r11 = (0 : Int32) then
    some ((-6 : Int32), o_oRem, o_oStamp, o_oTop, o_stampCounter)
  else
    if v2 < (1 : Int32) then
      some ((-3 : Int32), o_oRem, o_oStamp, o_oTop, o_stampCounter)
    else
      if (10000 : Int32) < v2 then
        some ((-3 : Int32), o_oRem, o_oStamp, o_oTop, o_stampCounter)
      else
        (rdA o_oRem v1).bind fun x12 =>
        if v2 < x12 then
          (wrA o_oRem v1 v2).bind fun A17 =>
          some ((0 : Int32), A17, o_oStamp, o_oTop, o_stampCounter)
        else
          (rdA o_oRem v1).bind fun x13 =>
          if x13 < v2 then
            (wrA o_oRem v1 v2).bind fun A14 =>
            (wrA o_oStamp v1 (o_stampCounter + (1 : Int64))).bind fun A15 =>
            (wrA o_oTop v1 (0 : Int32)).bind fun A16 =>
            some ((0 : Int32), A14, A15, A16, (o_stampCounter + (1 : Int64)))
          else
            some ((0 : Int32), o_oRem, o_oStamp, o_oTop, o_stampCounter)
def f_better (v1 : Int32) (v2 : Int32) (v3 : Int32) : Option (Int32) :=
  some (if v1 = (0 : Int32) then (if v3 < v2 then (1 : Int32) else (0 : Int32)) else (if v2 < v3 then (1 : Int32) else (0 : Int32)))
def f_bestOf_4 (o_oSide : List Int32) (o_oPrice : List Int32) (o_restIds : List Int32) (o_restN : Int32) : Nat → Int32 → Int32 → Int32 → Option (Int32)
  | 0, _, _, _ => none
  | n + 1, v1, v2, v3 =>
    if v3 < o_restN then
      (rdA o_restIds v3).bind fun x18 =>
      (rdA o_oSide x18).bind fun x19 =>
      if x19 = v1 then
        (rdA o_oPrice x18).bind fun x20 =>
        if v2 = (0 : Int32) then
          f_bestOf_4 o_oSide o_oPrice o_restIds o_restN n v1 x20 (v3 + (1 : Int32))
        else
          (f_better v1 x20 v2).bind fun r21 =>
          f_bestOf_4 o_oSide o_oPrice o_restIds o_restN n v1 (if r21 = (0 : Int32) then v2 else x20) (v3 + (1 : Int32))
      else
        f_bestOf_4 o_oSide o_oPrice o_restIds o_restN n v1 v2 (v3 + (1 : Int32))
    else
      some v2
def f_bestOf (o_oSide : List Int32) (o_oPrice : List Int32) (o_restIds : List Int32) (o_restN : Int32) (v1 : Int32) : Option (Int32) :=
  f_bestOf_4 o_oSide o_oPrice o_restIds o_restN 100000 v1 (0 : Int32) (0 : Int32)
def f_crosses (v1 : Int32) (v2 : Int32) (v3 : Int32) : Option (Int32) :=
  some (if v1 = (0 : Int32) then (if v2 < v3 then (0 : Int32) else (1 : Int32)) else (if v3 < v2 then (0 : Int32) else (1 : Int32)))
def f_gatherLevel_7 (o_oSide : List Int32) (o_oPrice : List Int32) (o_restIds : List Int32) (o_restN : Int32) : Nat → List Int32 → Int32 → Int32 → Int32 → Int32 → Option (List Int32 × Int32)
  | 0, _, _, _, _, _ => none
  | n + 1, o_lvlIds, o_lvlN, v1, v2, v3 =>
    if v3 < o_restN then
      (rdA o_restIds v3).bind fun x22 =>
      (rdA o_oSide x22).bind fun x23 =>
      if x23 = v1 then
        (rdA o_oPrice x22).bind fun x24 =>
        if x24 = v2 then
          if o_lvlN < (64 : Int32) then
            (wrA o_lvlIds o_lvlN x22).bind fun A25 =>
            f_gatherLevel_7 o_oSide o_oPrice o_restIds o_restN n A25 (o_lvlN + (1 : Int32)) v1 v2 (v3 + (1 : Int32))
          else
            f_gatherLevel_7 o_oSide o_oPrice o_restIds o_restN n o_lvlIds o_lvlN v1 v2 (v3 + (1 : Int32))
        else
          f_gatherLevel_7 o_oSide o_oPrice o_restIds o_restN n o_lvlIds o_lvlN v1 v2 (v3 + (1 : Int32))
      else
        f_gatherLevel_7 o_oSide o_oPrice o_restIds o_restN n o_lvlIds o_lvlN v1 v2 (v3 + (1 : Int32))
    else
      some (o_lvlIds, o_lvlN)
def f_gatherLevel (o_oSide : List Int32) (o_oPrice : List Int32) (o_restIds : List Int32) (o_restN : Int32) (o_lvlIds : List Int32) (o_lvlN : Int32) (v1 : Int32) (v2 : Int32) : Option (List Int32 × Int32) :=
  f_gatherLevel_7 o_oSide o_oPrice o_restIds o_restN 100000 o_lvlIds (0 : Int32) v1 v2 (0 : Int32)
def f_sortLevel_73 (kb : List Int32 → Int32 → Option (List Int32)) (o_oStamp : List Int64) (o_lvlN : Int32) (o_lvlIds : List Int32) (v1 : Int32) (v2 : Int32) (v5 : Int32) : Option (List Int32) :=
  (wrA o_lvlIds v5 v2).bind fun A32 =>
  kb A32 (v1 + (1 : Int32))
def f_sortLevel_27 (k73 : List Int32 → Int32 → Int32 → Int32 → Option (List Int32)) (o_oStamp : List Int64) (o_lvlN : Int32) : Nat → List Int32 → Int32 → Int32 → Int64 → Int32 → Option (List Int32)
  | 0, _, _, _, _, _ => none
  | n + 1, o_lvlIds, v1, v2, v3, v5 =>
    if (0 : Int32) < v5 then
      (rdA o_lvlIds (v5 - (1 : Int32))).bind fun x28 =>
      (rdA o_oStamp x28).bind fun x29 =>
      if v3 < x29 then
        (rdA o_lvlIds (v5 - (1 : Int32))).bind fun x30 =>
        (wrA o_lvlIds v5 x30).bind fun A31 =>
        f_sortLevel_27 k73 o_oStamp o_lvlN n A31 v1 v2 v3 (v5 + (-1 : Int32))
      else
        k73 o_lvlIds v1 v2 v5
    else
      k73 o_lvlIds v1 v2 v5
def f_sortLevel_2 (o_oStamp : List Int64) (o_lvlN : Int32) : Nat → List Int32 → Int32 → Option (List Int32)
  | 0, _, _ => none
  | n + 1, o_lvlIds, v1 =>
    if v1 < o_lvlN then
      (rdA o_lvlIds v1).bind fun x26 =>
      (rdA o_oStamp x26).bind fun x27 =>
      f_sortLevel_27 (f_sortLevel_73 (f_sortLevel_2 o_oStamp o_lvlN n) o_oStamp o_lvlN) o_oStamp o_lvlN 100000 o_lvlIds v1 x26 x27 v1
    else
      some o_lvlIds
def f_sortLevel (o_oStamp : List Int64) (o_lvlN : Int32) (o_lvlIds : List Int32) : Option (List Int32) :=
  f_sortLevel_2 o_oStamp o_lvlN 100000 o_lvlIds (1 : Int32)
def f_topStep_80 (o_oTop : List Int32) (o_lvlIds : List Int32) (o_lvlR : List Int32) (o_topCap : Int32) (o_lvlN : Int32) (o_lvlA : List Int32) (v2 : Int32) (v4 : Int32) : Option (Int32 × List Int32) :=
  (rdA o_lvlA v2).bind fun x37 =>
  (wrA o_lvlA v2 (x37 + v4)).bind fun A38 =>
  some (v4, A38)
def f_topStep_72 (o_oTop : List Int32) (o_lvlIds : List Int32) (o_lvlR : List Int32) (o_topCap : Int32) (o_lvlN : Int32) (o_lvlA : List Int32) (v2 : Int32) (v4 : Int32) : Option (Int32 × List Int32) :=
  f_topStep_80 o_oTop o_lvlIds o_lvlR o_topCap o_lvlN o_lvlA v2 (if v4 < (0 : Int32) then (0 : Int32) else v4)
def f_topStep_57 (o_oTop : List Int32) (o_lvlIds : List Int32) (o_lvlR : List Int32) (o_topCap : Int32) (o_lvlN : Int32) (o_lvlA : List Int32) (v2 : Int32) (v4 : Int32) : Option (Int32 × List Int32) :=
  f_topStep_72 o_oTop o_lvlIds o_lvlR o_topCap o_lvlN o_lvlA v2 (if o_topCap < v4 then o_topCap else v4)
def f_topStep_35 (o_oTop : List Int32) (o_lvlIds : List Int32) (o_lvlR : List Int32) (o_topCap : Int32) (o_lvlN : Int32) (o_lvlA : List Int32) (v1 : Int32) (v2 : Int32) : Option (Int32 × List Int32) :=
  (rdA o_lvlR v2).bind fun x35 =>
  if x35 < v1 then
    (rdA o_lvlR v2).bind fun x36 =>
    f_topStep_57 o_oTop o_lvlIds o_lvlR o_topCap o_lvlN o_lvlA v2 x36
  else
    f_topStep_57 o_oTop o_lvlIds o_lvlR o_topCap o_lvlN o_lvlA v2 v1
def f_topStep_11 (k35 : List Int32 → Int32 → Int32 → Option (Int32 × List Int32)) (o_oTop : List Int32) (o_lvlIds : List Int32) (o_lvlR : List Int32) (o_topCap : Int32) (o_lvlN : Int32) : Nat → List Int32 → Int32 → Int32 → Option (Int32 × List Int32)
  | 0, _, _, _ => none
  | n + 1, o_lvlA, v1, v2 =>
    if v2 < o_lvlN then
      (rdA o_lvlIds v2).bind fun x33 =>
      (rdA o_oTop x33).bind fun x34 =>
      if x34 = (0 : Int32) then
        f_topStep_11 k35 o_oTop o_lvlIds o_lvlR o_topCap o_lvlN n o_lvlA v1 (v2 + (1 : Int32))
      else
        k35 o_lvlA v1 v2
    else
      some ((0 : Int32), o_lvlA)
def f_topStep (o_oTop : List Int32) (o_lvlIds : List Int32) (o_lvlR : List Int32) (o_topCap : Int32) (o_lvlN : Int32) (o_lvlA : List Int32) (v1 : Int32) : Option (Int32 × List Int32) :=
  if (0 : Int32) < o_topCap then
    f_topStep_11 (f_topStep_35 o_oTop o_lvlIds o_lvlR o_topCap o_lvlN) o_oTop o_lvlIds o_lvlR o_topCap o_lvlN 100000 o_lvlA v1 (0 : Int32)
  else
    some ((0 : Int32), o_lvlA)
def f_proRataStep_102 (kb : List Int32 → Int32 → Int64 → Int32 → Int32 → Option (Int32 × List Int32)) (o_lvlR : List Int32) (o_minAlloc : Int32) (o_lvlN : Int32) (o_lvlA : List Int32) (v1 : Int32) (v2 : Int64) (v4 : Int32) (v5 : Int32) (v8 : Int32) : Option (Int32 × List Int32) :=
  (rdA o_lvlA v5).bind fun x43 =>
  (wrA o_lvlA v5 (x43 + v8)).bind fun A44 =>
  kb A44 v1 v2 (v4 + v8) (v5 + (1 : Int32))
def f_proRataStep_53 (o_lvlR : List Int32) (o_minAlloc : Int32) (o_lvlN : Int32) : Nat → List Int32 → Int32 → Int64 → Int32 → Int32 → Option (Int32 × List Int32)
  | 0, _, _, _, _, _ => none
  | n + 1, o_lvlA, v1, v2, v4, v5 =>
    if v5 < o_lvlN then
      (rdA o_lvlR v5).bind fun x41 =>
      (rdA o_lvlA v5).bind fun x42 =>
      if v2 = 0 then none else
      f_proRataStep_102 (f_proRataStep_53 o_lvlR o_minAlloc o_lvlN n) o_lvlR o_minAlloc o_lvlN o_lvlA v1 v2 v4 v5 (if ((v1.toInt64 * (x41 - x42).toInt64) / v2).toInt32 < o_minAlloc then (0 : Int32) else ((v1.toInt64 * (x41 - x42).toInt64) / v2).toInt32)
    else
      some (v4, o_lvlA)
def f_proRataStep_39 (o_lvlR : List Int32) (o_minAlloc : Int32) (o_lvlN : Int32) (o_lvlA : List Int32) (v1 : Int32) (v2 : Int64) : Option (Int32 × List Int32) :=
  if (0 : Int64) < v2 then
    f_proRataStep_53 o_lvlR o_minAlloc o_lvlN 100000 o_lvlA v1 v2 (0 : Int32) (0 : Int32)
  else
    some ((0 : Int32), o_lvlA)
def f_proRataStep_5 (k39 : List Int32 → Int32 → Int64 → Option (Int32 × List Int32)) (o_lvlR : List Int32) (o_minAlloc : Int32) (o_lvlN : Int32) : Nat → List Int32 → Int32 → Int64 → Int32 → Option (Int32 × List Int32)
  | 0, _, _, _, _ => none
  | n + 1, o_lvlA, v1, v2, v4 =>
    if v4 < o_lvlN then
      (rdA o_lvlR v4).bind fun x39 =>
      (rdA o_lvlA v4).bind fun x40 =>
      f_proRataStep_5 k39 o_lvlR o_minAlloc o_lvlN n o_lvlA v1 (v2 + (x39 - x40).toInt64) (v4 + (1 : Int32))
    else
      k39 o_lvlA v1 v2
def f_proRataStep (o_lvlR : List Int32) (o_minAlloc : Int32) (o_lvlN : Int32) (o_lvlA : List Int32) (v1 : Int32) : Option (Int32 × List Int32) :=
  f_proRataStep_5 (f_proRataStep_39 o_lvlR o_minAlloc o_lvlN) o_lvlR o_minAlloc o_lvlN 100000 o_lvlA v1 (0 : Int64) (0 : Int32)
def f_timeStep_43 (kb : List Int32 → Int32 → Int32 → Option (List Int32)) (o_lvlR : List Int32) (o_lvlN : Int32) (o_lvlA : List Int32) (v2 : Int32) (v3 : Int32) (t0 : Int32) : Option (List Int32) :=
  if (0 : Int32) < t0 then
    (rdA o_lvlA v3).bind fun x47 =>
    (wrA o_lvlA v3 (x47 + t0)).bind fun A48 =>
    kb A48 (v2 - t0) (v3 + (1 : Int32))
  else
    kb o_lvlA v2 (v3 + (1 : Int32))
def f_timeStep_4 (o_lvlR : List Int32) (o_lvlN : Int32) : Nat → List Int32 → Int32 → Int32 → Option (List Int32)
  | 0, _, _, _ => none
  | n + 1, o_lvlA, v2, v3 =>
    if v3 < o_lvlN then
      if (0 : Int32) < v2 then
        (rdA o_lvlR v3).bind fun x45 =>
        (rdA o_lvlA v3).bind fun x46 =>
        f_timeStep_43 (f_timeStep_4 o_lvlR o_lvlN n) o_lvlR o_lvlN o_lvlA v2 v3 (if v2 < (x45 - x46) then v2 else (x45 - x46))
      else
        some o_lvlA
    else
      some o_lvlA
def f_timeStep (o_lvlR : List Int32) (o_lvlN : Int32) (o_lvlA : List Int32) (v1 : Int32) : Option (List Int32) :=
  f_timeStep_4 o_lvlR o_lvlN 100000 o_lvlA v1 (0 : Int32)
def f_allocate_67 (o_oTop : List Int32) (o_lvlIds : List Int32) (o_lvlR : List Int32) (o_minAlloc : Int32) (o_topCap : Int32) (o_lvlN : Int32) (o_lvlA : List Int32) (v3 : Int32) (v5 : Int32) (v6 : Int32) : Option (Int32 × List Int32) :=
  (f_timeStep o_lvlR o_lvlN o_lvlA (v5 - v6)).bind fun s54 =>
  some (v3, s54)
def f_allocate_37 (o_oTop : List Int32) (o_lvlIds : List Int32) (o_lvlR : List Int32) (o_minAlloc : Int32) (o_topCap : Int32) (o_lvlN : Int32) (o_lvlA : List Int32) (t0 : Int32) : Option (Int32 × List Int32) :=
  (f_topStep o_oTop o_lvlIds o_lvlR o_topCap o_lvlN o_lvlA t0).bind fun (r50, s51) =>
  if (0 : Int32) < (t0 - r50) then
    (f_proRataStep o_lvlR o_minAlloc o_lvlN s51 (t0 - r50)).bind fun (r52, s53) =>
    f_allocate_67 o_oTop o_lvlIds o_lvlR o_minAlloc o_topCap o_lvlN s53 t0 (t0 - r50) r52
  else
    f_allocate_67 o_oTop o_lvlIds o_lvlR o_minAlloc o_topCap o_lvlN s51 t0 (t0 - r50) (0 : Int32)
def f_allocate_27 (o_oTop : List Int32) (o_lvlIds : List Int32) (o_lvlR : List Int32) (o_minAlloc : Int32) (o_topCap : Int32) (o_lvlN : Int32) (o_lvlA : List Int32) (v1 : Int32) (v2 : Int32) : Option (Int32 × List Int32) :=
  f_allocate_37 o_oTop o_lvlIds o_lvlR o_minAlloc o_topCap o_lvlN o_lvlA (if v1 < v2 then v1 else v2)
def f_allocate_4 (k27 : List Int32 → Int32 → Int32 → Option (Int32 × List Int32)) (o_oTop : List Int32) (o_lvlIds : List Int32) (o_lvlR : List Int32) (o_minAlloc : Int32) (o_topCap : Int32) (o_lvlN : Int32) : Nat → List Int32 → Int32 → Int32 → Int32 → Option (Int32 × List Int32)
  | 0, _, _, _, _ => none
  | n + 1, o_lvlA, v1, v2, v3 =>
    if v3 < o_lvlN then
      (rdA o_lvlR v3).bind fun x49 =>
      f_allocate_4 k27 o_oTop o_lvlIds o_lvlR o_minAlloc o_topCap o_lvlN n o_lvlA v1 (v2 + x49) (v3 + (1 : Int32))
    else
      k27 o_lvlA v1 v2
def f_allocate (o_oTop : List Int32) (o_lvlIds : List Int32) (o_lvlR : List Int32) (o_minAlloc : Int32) (o_topCap : Int32) (o_lvlN : Int32) (o_lvlA : List Int32) (v1 : Int32) : Option (Int32 × List Int32) :=
  f_allocate_4 (f_allocate_27 o_oTop o_lvlIds o_lvlR o_minAlloc o_topCap o_lvlN) o_oTop o_lvlIds o_lvlR o_minAlloc o_topCap o_lvlN 100000 o_lvlA v1 (0 : Int32) (0 : Int32)
def f_applyLevel_82 (kb : List Int32 → List Int32 → List Int32 → List Int32 → List Int32 → List Int32 → List Int32 → List Int32 → Int32 → Int32 → Int32 → Int32 → Option (List Int32 × List Int32 × List Int32 × List Int32 × List Int32 × List Int32 × List Int32 × List Int32 × Int32 × Int32)) (o_lvlIds : List Int32) (o_lvlA : List Int32) (o_lvlN : Int32) (o_oRem : List Int32) (o_oFilled : List Int32) (o_oStatus : List Int32) (o_oTop : List Int32) (o_restIds : List Int32) (o_fIds : List Int32) (o_fQty : List Int32) (o_fPrice : List Int32) (o_restN : Int32) (o_fN : Int32) (v1 : Int32) (v2 : Int32) (v3 : Int32) (v4 : Int32) : Option (List Int32 × List Int32 × List Int32 × List Int32 × List Int32 × List Int32 × List Int32 × List Int32 × Int32 × Int32) :=
  (rdA o_oRem v4).bind fun x60 =>
  (wrA o_oRem v4 (x60 - v3)).bind fun A61 =>
  (rdA o_oFilled v4).bind fun x62 =>
  (wrA o_oFilled v4 (x62 + v3)).bind fun A63 =>
  (rdA A61 v4).bind fun x64 =>
  if (0 : Int32) < x64 then
    kb A61 A63 o_oStatus o_oTop o_restIds o_fIds o_fQty o_fPrice o_restN o_fN v1 (v2 + (1 : Int32))
  else
    (wrA A61 v4 (0 : Int32)).bind fun A65 =>
    (wrA o_oStatus v4 (2 : Int32)).bind fun A66 =>
    (wrA o_oTop v4 (0 : Int32)).bind fun A67 =>
    (f_removeResting o_restIds o_restN v4).bind fun (s68, s69) =>
    kb A65 A63 A66 A67 s68 o_fIds o_fQty o_fPrice s69 o_fN v1 (v2 + (1 : Int32))
def f_applyLevel_2 (o_lvlIds : List Int32) (o_lvlA : List Int32) (o_lvlN : Int32) : Nat → List Int32 → List Int32 → List Int32 → List Int32 → List Int32 → List Int32 → List Int32 → List Int32 → Int32 → Int32 → Int32 → Int32 → Option (List Int32 × List Int32 × List Int32 × List Int32 × List Int32 × List Int32 × List Int32 × List Int32 × Int32 × Int32)
  | 0, _, _, _, _, _, _, _, _, _, _, _, _ => none
  | n + 1, o_oRem, o_oFilled, o_oStatus, o_oTop, o_restIds, o_fIds, o_fQty, o_fPrice, o_restN, o_fN, v1, v2 =>
    if v2 < o_lvlN then
      (rdA o_lvlA v2).bind fun x55 =>
      if (0 : Int32) < x55 then
        (rdA o_lvlIds v2).bind fun x56 =>
        if o_fN < (64 : Int32) then
          (wrA o_fIds o_fN x56).bind fun A57 =>
          (wrA o_fPrice o_fN v1).bind fun A58 =>
          (wrA o_fQty o_fN x55).bind fun A59 =>
          f_applyLevel_82 (f_applyLevel_2 o_lvlIds o_lvlA o_lvlN n) o_lvlIds o_lvlA o_lvlN o_oRem o_oFilled o_oStatus o_oTop o_restIds A57 A59 A58 o_restN (o_fN + (1 : Int32)) v1 v2 x55 x56
        else
          f_applyLevel_82 (f_applyLevel_2 o_lvlIds o_lvlA o_lvlN n) o_lvlIds o_lvlA o_lvlN o_oRem o_oFilled o_oStatus o_oTop o_restIds o_fIds o_fQty o_fPrice o_restN o_fN v1 v2 x55 x56
      else
        f_applyLevel_2 o_lvlIds o_lvlA o_lvlN n o_oRem o_oFilled o_oStatus o_oTop o_restIds o_fIds o_fQty o_fPrice o_restN o_fN v1 (v2 + (1 : Int32))
    else
      some (o_oRem, o_oFilled, o_oStatus, o_oTop, o_restIds, o_fIds, o_fQty, o_fPrice, o_restN, o_fN)
def f_applyLevel (o_lvlIds : List Int32) (o_lvlA : List Int32) (o_lvlN : Int32) (o_oRem : List Int32) (o_oFilled : List Int32) (o_oStatus : List Int32) (o_oTop : List Int32) (o_restIds : List Int32) (o_fIds : List Int32) (o_fQty : List Int32) (o_fPrice : List Int32) (o_restN : Int32) (o_fN : Int32) (v1 : Int32) : Option (List Int32 × List Int32 × List Int32 × List Int32 × List Int32 × List Int32 × List Int32 × List Int32 × Int32 × Int32) :=
  f_applyLevel_2 o_lvlIds o_lvlA o_lvlN 100000 o_oRem o_oFilled o_oStatus o_oTop o_restIds o_fIds o_fQty o_fPrice o_restN o_fN v1 (0 : Int32)
def f_matchLevel_59 (o_oSide : List Int32) (o_oPrice : List Int32) (o_oStamp : List Int64) (o_minAlloc : Int32) (o_topCap : Int32) (o_oRem : List Int32) (o_oFilled : List Int32) (o_oStatus : List Int32) (o_oTop : List Int32) (o_restIds : List Int32) (o_fIds : List Int32) (o_fQty : List Int32) (o_fPrice : List Int32) (o_lvlIds : List Int32) (o_lvlR : List Int32) (o_lvlA : List Int32) (o_restN : Int32) (o_fN : Int32) (o_lvlN : Int32) (v2 : Int32) (v3 : Int32) : Option (Int32 × List Int32 × List Int32 × List Int32 × List Int32 × List Int32 × List Int32 × List Int32 × List Int32 × List Int32 × List Int32 × List Int32 × Int32 × Int32 × Int32) :=
  (f_allocate o_oTop o_lvlIds o_lvlR o_minAlloc o_topCap o_lvlN o_lvlA v3).bind fun (r77, s78) =>
  (f_applyLevel o_lvlIds s78 o_lvlN o_oRem o_oFilled o_oStatus o_oTop o_restIds o_fIds o_fQty o_fPrice o_restN o_fN v2).bind fun (s79, s80, s81, s82, s83, s84, s85, s86, s87, s88) =>
  some (r77, s79, s80, s81, s82, s83, s84, s85, s86, o_lvlIds, o_lvlR, s78, s87, s88, o_lvlN)
def f_matchLevel_13 (k59 : List Int32 → List Int32 → List Int32 → List Int32 → List Int32 → List Int32 → List Int32 → List Int32 → List Int32 → List Int32 → List Int32 → Int32 → Int32 → Int32 → Int32 → Int32 → Option (Int32 × List Int32 × List Int32 × List Int32 × List Int32 × List Int32 × List Int32 × List Int32 × List Int32 × List Int32 × List Int32 × List Int32 × Int32 × Int32 × Int32)) (o_oSide : List Int32) (o_oPrice : List Int32) (o_oStamp : List Int64) (o_minAlloc : Int32) (o_topCap : Int32) : Nat → List Int32 → List Int32 → List Int32 → List Int32 → List Int32 → List Int32 → List Int32 → List Int32 → List Int32 → List Int32 → List Int32 → Int32 → Int32 → Int32 → Int32 → Int32 → Int32 → Option (Int32 × List Int32 × List Int32 × List Int32 × List Int32 × List Int32 × List Int32 × List Int32 × List Int32 × List Int32 × List Int32 × List Int32 × Int32 × Int32 × Int32)
  | 0, _, _, _, _, _, _, _, _, _, _, _, _, _, _, _, _, _ => none
  | n + 1, o_oRem, o_oFilled, o_oStatus, o_oTop, o_restIds, o_fIds, o_fQty, o_fPrice, o_lvlIds, o_lvlR, o_lvlA, o_restN, o_fN, o_lvlN, v2, v3, v4 =>
    if v4 < o_lvlN then
      (rdA o_lvlIds v4).bind fun x73 =>
      (rdA o_oRem x73).bind fun x74 =>
      (wrA o_lvlR v4 x74).bind fun A75 =>
      (wrA o_lvlA v4 (0 : Int32)).bind fun A76 =>
      f_matchLevel_13 k59 o_oSide o_oPrice o_oStamp o_minAlloc o_topCap n o_oRem o_oFilled o_oStatus o_oTop o_restIds o_fIds o_fQty o_fPrice o_lvlIds A75 A76 o_restN o_fN o_lvlN v2 v3 (v4 + (1 : Int32))
    else
      k59 o_oRem o_oFilled o_oStatus o_oTop o_restIds o_fIds o_fQty o_fPrice o_lvlIds o_lvlR o_lvlA o_restN o_fN o_lvlN v2 v3
def f_matchLevel (o_oSide : List Int32) (o_oPrice : List Int32) (o_oStamp : List Int64) (o_minAlloc : Int32) (o_topCap : Int32) (o_oRem : List Int32) (o_oFilled : List Int32) (o_oStatus : List Int32) (o_oTop : List Int32) (o_restIds : List Int32) (o_fIds : List Int32) (o_fQty : List Int32) (o_fPrice : List Int32) (o_lvlIds : List Int32) (o_lvlR : List Int32) (o_lvlA : List Int32) (o_restN : Int32) (o_fN : Int32) (o_lvlN : Int32) (v1 : Int32) (v2 : Int32) (v3 : Int32) : Option (Int32 × List Int32 × List Int32 × List Int32 × List Int32 × List Int32 × List Int32 × List Int32 × List Int32 × List Int32 × List Int32 × List Int32 × Int32 × Int32 × Int32) :=
  (f_gatherLevel o_oSide o_oPrice o_restIds o_restN o_lvlIds o_lvlN v1 v2).bind fun (s70, s71) =>
  (f_sortLevel o_oStamp s71 s70).bind fun s72 =>
  f_matchLevel_13 (f_matchLevel_59 o_oSide o_oPrice o_oStamp o_minAlloc o_topCap) o_oSide o_oPrice o_oStamp o_minAlloc o_topCap 100000 o_oRem o_oFilled o_oStatus o_oTop o_restIds o_fIds o_fQty o_fPrice s72 o_lvlR o_lvlA o_restN o_fN s71 v2 v3 (0 : Int32)
def f_matchIncoming_12 (o_oSide : List Int32) (o_oPrice : List Int32) (o_oStamp : List Int64) (o_minAlloc : Int32) (o_topCap : Int32) : Nat → List Int32 → List Int32 → List Int32 → List Int32 → List Int32 → List Int32 → List Int32 → List Int32 → List Int32 → List Int32 → List Int32 → Int32 → Int32 → Int32 → Int32 → Int32 → Int32 → Int32 → Int32 → Int32 → Option (Int32 × List Int32 × List Int32 × List Int32 × List Int32 × List Int32 × List Int32 × List Int32 × List Int32 × List Int32 × List Int32 × List Int32 × Int32 × Int32 × Int32)
  | 0, _, _, _, _, _, _, _, _, _, _, _, _, _, _, _, _, _, _, _, _ => none
  | n + 1, o_oRem, o_oFilled, o_oStatus, o_oTop, o_restIds, o_fIds, o_fQty, o_fPrice, o_lvlIds, o_lvlR, o_lvlA, o_restN, o_fN, o_lvlN, v1, v2, v3, v5, v6, v7 =>
    if (64 : Int32) < v7 then
      some (v5, o_oRem, o_oFilled, o_oStatus, o_oTop, o_restIds, o_fIds, o_fQty, o_fPrice, o_lvlIds, o_lvlR, o_lvlA, o_restN, o_fN, o_lvlN)
    else
      if (0 : Int32) < v5 then
        (f_bestOf o_oSide o_oPrice o_restIds o_restN v6).bind fun r89 =>
        if r89 = (0 : Int32) then
          some (v5, o_oRem, o_oFilled, o_oStatus, o_oTop, o_restIds, o_fIds, o_fQty, o_fPrice, o_lvlIds, o_lvlR, o_lvlA, o_restN, o_fN, o_lvlN)
        else
          (f_crosses v2 v3 r89).bind fun r90 =>
          if r90 = (0 : Int32) then
            some (v5, o_oRem, o_oFilled, o_oStatus, o_oTop, o_restIds, o_fIds, o_fQty, o_fPrice, o_lvlIds, o_lvlR, o_lvlA, o_restN, o_fN, o_lvlN)
          else
            (f_matchLevel o_oSide o_oPrice o_oStamp o_minAlloc o_topCap o_oRem o_oFilled o_oStatus o_oTop o_restIds o_fIds o_fQty o_fPrice o_lvlIds o_lvlR o_lvlA o_restN o_fN o_lvlN v6 r89 v5).bind fun (r91, s92, s93, s94, s95, s96, s97, s98, s99, s100, s101, s102, s103, s104, s105) =>
            if (0 : Int32) < r91 then
              (rdA s93 v1).bind fun x106 =>
              (wrA s93 v1 (x106 + r91)).bind fun A107 =>
              f_matchIncoming_12 o_oSide o_oPrice o_oStamp o_minAlloc o_topCap n s92 A107 s94 s95 s96 s97 s98 s99 s100 s101 s102 s103 s104 s105 v1 v2 v3 (v5 - r91) v6 (v7 + (1 : Int32))
            else
              some (v5, s92, s93, s94, s95, s96, s97, s98, s99, s100, s101, s102, s103, s104, s105)
      else
        some (v5, o_oRem, o_oFilled, o_oStatus, o_oTop, o_restIds, o_fIds, o_fQty, o_fPrice, o_lvlIds, o_lvlR, o_lvlA, o_restN, o_fN, o_lvlN)
def f_matchIncoming (o_oSide : List Int32) (o_oPrice : List Int32) (o_oStamp : List Int64) (o_minAlloc : Int32) (o_topCap : Int32) (o_oRem : List Int32) (o_oFilled : List Int32) (o_oStatus : List Int32) (o_oTop : List Int32) (o_restIds : List Int32) (o_fIds : List Int32) (o_fQty : List Int32) (o_fPrice : List Int32) (o_lvlIds : List Int32) (o_lvlR : List Int32) (o_lvlA : List Int32) (o_restN : Int32) (o_fN : Int32) (o_lvlN : Int32) (v1 : Int32) (v2 : Int32) (v3 : Int32) (v4 : Int32) : Option (Int32 × List Int32 × List Int32 × List Int32 × List Int32 × List Int32 × List Int32 × List Int32 × List Int32 × List Int32 × List Int32 × List Int32 × Int32 × Int32 × Int32) :=
  f_matchIncoming_12 o_oSide o_oPrice o_oStamp o_minAlloc o_topCap 100000 o_oRem o_oFilled o_oStatus o_oTop o_restIds o_fIds o_fQty o_fPrice o_lvlIds o_lvlR o_lvlA o_restN o_fN o_lvlN v1 v2 v3 v4 ((1 : Int32) - v2) (0 : Int32)
def f_clearFlags_2 (o_oSide : List Int32) (o_restIds : List Int32) (o_restN : Int32) : Nat → List Int32 → Int32 → Int32 → Option (List Int32)
  | 0, _, _, _ => none
  | n + 1, o_oTop, v1, v2 =>
    if v2 < o_restN then
      (rdA o_restIds v2).bind fun x108 =>
      (rdA o_oSide x108).bind fun x109 =>
      if x109 = v1 then
        (wrA o_oTop x108 (0 : Int32)).bind fun A110 =>
        f_clearFlags_2 o_oSide o_restIds o_restN n A110 v1 (v2 + (1 : Int32))
      else
        f_clearFlags_2 o_oSide o_restIds o_restN n o_oTop v1 (v2 + (1 : Int32))
    else
      some o_oTop
def f_clearFlags (o_oSide : List Int32) (o_restIds : List Int32) (o_restN : Int32) (o_oTop : List Int32) (v1 : Int32) : Option (List Int32) :=
  f_clearFlags_2 o_oSide o_restIds o_restN 100000 o_oTop v1 (0 : Int32)
def f_finishIncoming_90 (o_oSide : List Int32) (o_oPrice : List Int32) (o_oRem : List Int32) (o_oStatus : List Int32) (o_oStamp : List Int64) (o_oTop : List Int32) (o_restIds : List Int32) (o_stampCounter : Int64) (o_restN : Int32) (v1 : Int32) (v4 : Int32) (v7 : Int32) : Option (List Int32 × List Int32 × List Int64 × List Int32 × List Int32 × Int64 × Int32) :=
  (wrA o_oStamp v1 (o_stampCounter + (1 : Int64))).bind fun A116 =>
  (wrA o_oRem v1 v4).bind fun A117 =>
  (wrA o_oStatus v1 (1 : Int32)).bind fun A118 =>
  (wrA o_oTop v1 (v7 &&& 1)).bind fun A119 =>
  (wrA o_restIds o_restN v1).bind fun A120 =>
  some (A117, A118, A116, A119, A120, (o_stampCounter + (1 : Int64)), (o_restN + (1 : Int32)))
def f_finishIncoming_78 (o_oSide : List Int32) (o_oPrice : List Int32) (o_oRem : List Int32) (o_oStatus : List Int32) (o_oStamp : List Int64) (o_oTop : List Int32) (o_restIds : List Int32) (o_stampCounter : Int64) (o_restN : Int32) (v1 : Int32) (v2 : Int32) (v4 : Int32) (t0 : Int32) : Option (List Int32 × List Int32 × List Int64 × List Int32 × List Int32 × Int64 × Int32) :=
  if t0 = (0 : Int32) then
    f_finishIncoming_90 o_oSide o_oPrice o_oRem o_oStatus o_oStamp o_oTop o_restIds o_stampCounter o_restN v1 v4 t0
  else
    (f_clearFlags o_oSide o_restIds o_restN o_oTop v2).bind fun s115 =>
    f_finishIncoming_90 o_oSide o_oPrice o_oRem o_oStatus o_oStamp s115 o_restIds o_stampCounter o_restN v1 v4 t0
def f_finishIncoming_35 (o_oSide : List Int32) (o_oPrice : List Int32) (o_oRem : List Int32) (o_oStatus : List Int32) (o_oStamp : List Int64) (o_oTop : List Int32) (o_restIds : List Int32) (o_stampCounter : Int64) (o_restN : Int32) (v1 : Int32) : Option (List Int32 × List Int32 × List Int64 × List Int32 × List Int32 × Int64 × Int32) :=
  (wrA o_oStatus v1 (4 : Int32)).bind fun A121 =>
  (wrA o_oRem v1 (0 : Int32)).bind fun A122 =>
  some (A122, A121, o_oStamp, o_oTop, o_restIds, o_stampCounter, o_restN)
def f_finishIncoming (o_oSide : List Int32) (o_oPrice : List Int32) (o_oRem : List Int32) (o_oStatus : List Int32) (o_oStamp : List Int64) (o_oTop : List Int32) (o_restIds : List Int32) (o_stampCounter : Int64) (o_restN : Int32) (v1 : Int32) (v2 : Int32) (v3 : Int32) (v4 : Int32) (v5 : Int32) : Option (List Int32 × List Int32 × List Int64 × List Int32 × List Int32 × Int64 × Int32) :=
  if v4 = (0 : Int32) then
    (wrA o_oStatus v1 (2 : Int32)).bind fun A113 =>
    (wrA o_oRem v1 (0 : Int32)).bind fun A114 =>
    some (A114, A113, o_oStamp, o_oTop, o_restIds, o_stampCounter, o_restN)
  else
    if v5 = (1 : Int32) then
      f_finishIncoming_35 o_oSide o_oPrice o_oRem o_oStatus o_oStamp o_oTop o_restIds o_stampCounter o_restN v1
    else
      if o_restN < (64 : Int32) then
        (f_bestOf o_oSide o_oPrice o_restIds o_restN v2).bind fun r111 =>
        if r111 = (0 : Int32) then
          f_finishIncoming_78 o_oSide o_oPrice o_oRem o_oStatus o_oStamp o_oTop o_restIds o_stampCounter o_restN v1 v2 v4 (1 : Int32)
        else
          (f_better v2 v3 r111).bind fun r112 =>
          f_finishIncoming_78 o_oSide o_oPrice o_oRem o_oStatus o_oStamp o_oTop o_restIds o_stampCounter o_restN v1 v2 v4 (if r112 = (0 : Int32) then (0 : Int32) else (1 : Int32))
      else
        f_finishIncoming_35 o_oSide o_oPrice o_oRem o_oStatus o_oStamp o_oTop o_restIds o_stampCounter o_restN v1
def f_submit_55 (o_minAlloc : Int32) (o_topCap : Int32) (o_oSide : List Int32) (o_oPrice : List Int32) (o_oRem : List Int32) (o_oFilled : List Int32) (o_oStatus : List Int32) (o_oStamp : List Int64) (o_oTop : List Int32) (o_restIds : List Int32) (o_fIds : List Int32) (o_fQty : List Int32) (o_fPrice : List Int32) (o_lvlIds : List Int32) (o_lvlR : List Int32) (o_lvlA : List Int32) (o_accepted : Int32) (o_stampCounter : Int64) (o_restN : Int32) (o_fN : Int32) (o_lvlN : Int32) (v1 : Int32) (v2 : Int32) (v3 : Int32) (v4 : Int32) : Option (Int32 × List Int32 × List Int32 × List Int32 × List Int32 × List Int32 × List Int64 × List Int32 × List Int32 × List Int32 × List Int32 × List Int32 × List Int32 × List Int32 × List Int32 × Int32 × Int64 × Int32 × Int32 × Int32) :=
  if o_accepted < (255 : Int32) then
    (wrA o_oSide (o_accepted + (1 : Int32)) v1).bind fun A123 =>
    (wrA o_oPrice (o_accepted + (1 : Int32)) v2).bind fun A124 =>
    (wrA o_oRem (o_accepted + (1 : Int32)) (0 : Int32)).bind fun A125 =>
    (wrA o_oFilled (o_accepted + (1 : Int32)) (0 : Int32)).bind fun A126 =>
    (wrA o_oTop (o_accepted + (1 : Int32)) (0 : Int32)).bind fun A127 =>
    (wrA o_oStamp (o_accepted + (1 : Int32)) (0 : Int64)).bind fun A128 =>
    (f_matchIncoming A123 A124 A128 o_minAlloc o_topCap A125 A126 o_oStatus A127 o_restIds o_fIds o_fQty o_fPrice o_lvlIds o_lvlR o_lvlA o_restN (0 : Int32) o_lvlN (o_accepted + (1 : Int32)) v1 v2 v3).bind fun (r129, s130, s131, s132, s133, s134, s135, s136, s137, s138, s139, s140, s141, s142, s143) =>
    (f_finishIncoming A123 A124 s130 s132 A128 s133 s134 o_stampCounter s141 (o_accepted + (1 : Int32)) v1 v2 r129 v4).bind fun (s144, s145, s146, s147, s148, s149, s150) =>
    some ((o_accepted + (1 : Int32)), A123, A124, s144, s131, s145, s146, s147, s148, s135, s136, s137, s138, s139, s140, (o_accepted + (1 : Int32)), s149, s150, s142, s143)
  else
    some ((-5 : Int32), o_oSide, o_oPrice, o_oRem, o_oFilled, o_oStatus, o_oStamp, o_oTop, o_restIds, o_fIds, o_fQty, o_fPrice, o_lvlIds, o_lvlR, o_lvlA, o_accepted, o_stampCounter, o_restN, o_fN, o_lvlN)
def f_submit_11 (o_minAlloc : Int32) (o_topCap : Int32) (o_oSide : List Int32) (o_oPrice : List Int32) (o_oRem : List Int32) (o_oFilled : List Int32) (o_oStatus : List Int32) (o_oStamp : List Int64) (o_oTop : List Int32) (o_restIds : List Int32) (o_fIds : List Int32) (o_fQty : List Int32) (o_fPrice : List Int32) (o_lvlIds : List Int32) (o_lvlR : List Int32) (o_lvlA : List Int32) (o_accepted : Int32) (o_stampCounter : Int64) (o_restN : Int32) (o_fN : Int32) (o_lvlN : Int32) (v1 : Int32) (v2 : Int32) (v3 : Int32) (v4 : Int32) : Option (Int32 × List Int32 × List Int32 × List Int32 × List Int32 × List Int32 × List Int64 × List Int32 × List Int32 × List Int32 × List Int32 × List Int32 × List Int32 × List Int32 × List Int32 × Int32 × Int64 × Int32 × Int32 × Int32) :=
  if v2 < (1 : Int32) then
    some ((-2 : Int32), o_oSide, o_oPrice, o_oRem, o_oFilled, o_oStatus, o_oStamp, o_oTop, o_restIds, o_fIds, o_fQty, o_fPrice, o_lvlIds, o_lvlR, o_lvlA, o_accepted, o_stampCounter, o_restN, o_fN, o_lvlN)
  else
    if (1000 : Int32) < v2 then
      some ((-2 : Int32), o_oSide, o_oPrice, o_oRem, o_oFilled, o_oStatus, o_oStamp, o_oTop, o_restIds, o_fIds, o_fQty, o_fPrice, o_lvlIds, o_lvlR, o_lvlA, o_accepted, o_stampCounter, o_restN, o_fN, o_lvlN)
    else
      if v3 < (1 : Int32) then
        some ((-3 : Int32), o_oSide, o_oPrice, o_oRem, o_oFilled, o_oStatus, o_oStamp, o_oTop, o_restIds, o_fIds, o_fQty, o_fPrice, o_lvlIds, o_lvlR, o_lvlA, o_accepted, o_stampCounter, o_restN, o_fN, o_lvlN)
      else
        if (10000 : Int32) < v3 then
          some ((-3 : Int32), o_oSide, o_oPrice, o_oRem, o_oFilled, o_oStatus, o_oStamp, o_oTop, o_restIds, o_fIds, o_fQty, o_fPrice, o_lvlIds, o_lvlR, o_lvlA, o_accepted, o_stampCounter, o_restN, o_fN, o_lvlN)
        else
          if v4 = (0 : Int32) then
            f_submit_55 o_minAlloc o_topCap o_oSide o_oPrice o_oRem o_oFilled o_oStatus o_oStamp o_oTop o_restIds o_fIds o_fQty o_fPrice o_lvlIds o_lvlR o_lvlA o_accepted o_stampCounter o_restN o_fN o_lvlN v1 v2 v3 v4
          else
            if v4 = (1 : Int32) then
              f_submit_55 o_minAlloc o_topCap o_oSide o_oPrice o_oRem o_oFilled o_oStatus o_oStamp o_oTop o_restIds o_fIds o_fQty o_fPrice o_lvlIds o_lvlR o_lvlA o_accepted o_stampCounter o_restN o_fN o_lvlN v1 v2 v3 v4
            else
              some ((-4 : Int32), o_oSide, o_oPrice, o_oRem, o_oFilled, o_oStatus, o_oStamp, o_oTop, o_restIds, o_fIds, o_fQty, o_fPrice, o_lvlIds, o_lvlR, o_lvlA, o_accepted, o_stampCounter, o_restN, o_fN, o_lvlN)
def f_submit (o_minAlloc : Int32) (o_topCap : Int32) (o_oSide : List Int32) (o_oPrice : List Int32) (o_oRem : List Int32) (o_oFilled : List Int32) (o_oStatus : List Int32) (o_oStamp : List Int64) (o_oTop : List Int32) (o_restIds : List Int32) (o_fIds : List Int32) (o_fQty : List Int32) (o_fPrice : List Int32) (o_lvlIds : List Int32) (o_lvlR : List Int32) (o_lvlA : List Int32) (o_accepted : Int32) (o_stampCounter : Int64) (o_restN : Int32) (o_fN : Int32) (o_lvlN : Int32) (v1 : Int32) (v2 : Int32) (v3 : Int32) (v4 : Int32) : Option (Int32 × List Int32 × List Int32 × List Int32 × List Int32 × List Int32 × List Int64 × List Int32 × List Int32 × List Int32 × List Int32 × List Int32 × List Int32 × List Int32 × List Int32 × Int32 × Int64 × Int32 × Int32 × Int32) :=
  if v1 = (0 : Int32) then
    f_submit_11 o_minAlloc o_topCap o_oSide o_oPrice o_oRem o_oFilled o_oStatus o_oStamp o_oTop o_restIds o_fIds o_fQty o_fPrice o_lvlIds o_lvlR o_lvlA o_accepted o_stampCounter o_restN o_fN o_lvlN v1 v2 v3 v4
  else
    if v1 = (1 : Int32) then
      f_submit_11 o_minAlloc o_topCap o_oSide o_oPrice o_oRem o_oFilled o_oStatus o_oStamp o_oTop o_restIds o_fIds o_fQty o_fPrice o_lvlIds o_lvlR o_lvlA o_accepted o_stampCounter o_restN o_fN o_lvlN v1 v2 v3 v4
    else
      some ((-1 : Int32), o_oSide, o_oPrice, o_oRem, o_oFilled, o_oStatus, o_oStamp, o_oTop, o_restIds, o_fIds, o_fQty, o_fPrice, o_lvlIds, o_lvlR, o_lvlA, o_accepted, o_stampCounter, o_restN, o_fN, o_lvlN)
def f_bestPrice_11 (o_oSide : List Int32) (o_oPrice : List Int32) (o_restIds : List Int32) (o_restN : Int32) (v1 : Int32) : Option (Int32) :=
  (f_bestOf o_oSide o_oPrice o_restIds o_restN v1).bind fun r151 =>
  some r151
def f_bestPrice (o_oSide : List Int32) (o_oPrice : List Int32) (o_restIds : List Int32) (o_restN : Int32) (v1 : Int32) : Option (Int32) :=
  if v1 = (0 : Int32) then
    f_bestPrice_11 o_oSide o_oPrice o_restIds o_restN v1
  else
    if v1 = (1 : Int32) then
      f_bestPrice_11 o_oSide o_oPrice o_restIds o_restN v1
    else
      some (0 : Int32)
def f_status (o_oStatus : List Int32) (o_accepted : Int32) (v1 : Int32) : Option (Int32) :=
  if v1 < (1 : Int32) then
    some (0 : Int32)
  else
    if o_accepted < v1 then
      some (0 : Int32)
    else
      (rdA o_oStatus v1).bind fun x152 =>
      some x152
def f_remaining (o_oRem : List Int32) (o_oStatus : List Int32) (o_accepted : Int32) (v1 : Int32) : Option (Int32) :=
  (f_isResting o_oStatus o_accepted v1).bind fun r153 =>
  if r153 = (0 : Int32) then
    some (0 : Int32)
  else
    (rdA o_oRem v1).bind fun x154 =>
    some x154
def f_priorityRank_14 (o_oSide : List Int32) (o_oPrice : List Int32) (o_oStatus : List Int32) (o_oStamp : List Int64) (o_restIds : List Int32) (o_accepted : Int32) (o_restN : Int32) : Nat → Int32 → Int32 → Int32 → Option (Int32)
  | 0, _, _, _ => none
  | n + 1, v1, v2, v3 =>
    if v3 < o_restN then
      (rdA o_restIds v3).bind fun x156 =>
      (rdA o_oSide x156).bind fun x157 =>
      (rdA o_oSide v1).bind fun x158 =>
      if x157 = x158 then
        (rdA o_oPrice x156).bind fun x159 =>
        (rdA o_oPrice v1).bind fun x160 =>
        if x159 = x160 then
          (rdA o_oStamp x156).bind fun x161 =>
          (rdA o_oStamp v1).bind fun x162 =>
          f_priorityRank_14 o_oSide o_oPrice o_oStatus o_oStamp o_restIds o_accepted o_restN n v1 (if x161 < x162 then (v2 + (1 : Int32)) else v2) (v3 + (1 : Int32))
        else
          f_priorityRank_14 o_oSide o_oPrice o_oStatus o_oStamp o_restIds o_accepted o_restN n v1 v2 (v3 + (1 : Int32))
      else
        f_priorityRank_14 o_oSide o_oPrice o_oStatus o_oStamp o_restIds o_accepted o_restN n v1 v2 (v3 + (1 : Int32))
    else
      some v2
def f_priorityRank (o_oSide : List Int32) (o_oPrice : List Int32) (o_oStatus : List Int32) (o_oStamp : List Int64) (o_restIds : List Int32) (o_accepted : Int32) (o_restN : Int32) (v1 : Int32) : Option (Int32) :=
  (f_isResting o_oStatus o_accepted v1).bind fun r155 =>
  if r155 = (0 : Int32) then
    some (-1 : Int32)
  else
    f_priorityRank_14 o_oSide o_oPrice o_oStatus o_oStamp o_restIds o_accepted o_restN 100000 v1 (0 : Int32) (0 : Int32)
def f_isTop (o_oStatus : List Int32) (o_oTop : List Int32) (o_accepted : Int32) (v1 : Int32) : Option (Int32) :=
  (f_isResting o_oStatus o_accepted v1).bind fun r163 =>
  if r163 = (0 : Int32) then
    some (0 : Int32)
  else
    (rdA o_oTop v1).bind fun x164 =>
    some (if x164 = (0 : Int32) then (0 : Int32) else (1 : Int32))
def f_filled (o_oFilled : List Int32) (o_accepted : Int32) (v1 : Int32) : Option (Int32) :=
  if v1 < (1 : Int32) then
    some (0 : Int32)
  else
    if o_accepted < v1 then
      some (0 : Int32)
    else
      (rdA o_oFilled v1).bind fun x165 =>
      some x165
def f_restingCount (o_restN : Int32) : Option (Int32) :=
  some o_restN
def f_L_ok_154 (p0_oSide : List Int32) (p0_oPrice : List Int32) (p0_oRem : List Int32) (p0_oFilled : List Int32) (p0_oStatus : List Int32) (p0_oStamp : List Int64) (p0_oTop : List Int32) (p0_restIds : List Int32) (p0_accepted : Int32) (p0_restN : Int32) (v3 : Int32) (v4 : Int32) (v5 : Int32) : Option (Int32) :=
  (f_restingCount p0_restN).bind fun r173 =>
  some (if v3 = r173 then (if (64 : Int32) < v3 then (0 : Int32) else (if (2 : Int32) < v4 then (0 : Int32) else (if (v5 &&& (1 : Int32)) = (0 : Int32) then (1 : Int32) else (0 : Int32)))) else (0 : Int32))
def f_L_ok_137 (kb : Int32 → Int32 → Int32 → Int32 → Option (Int32)) (k154 : Int32 → Int32 → Int32 → Option (Int32)) (p0_oSide : List Int32) (p0_oPrice : List Int32) (p0_oRem : List Int32) (p0_oFilled : List Int32) (p0_oStatus : List Int32) (p0_oStamp : List Int64) (p0_oTop : List Int32) (p0_restIds : List Int32) (p0_accepted : Int32) (p0_restN : Int32) (v3 : Int32) (v4 : Int32) (v5 : Int32) (v6 : Int32) : Option (Int32) :=
  (f_filled p0_oFilled p0_accepted v6).bind fun r172 =>
  kb v3 v4 (v5 + r172) (v6 + (1 : Int32))
def f_L_ok_38 (k154 : Int32 → Int32 → Int32 → Option (Int32)) (p0_oSide : List Int32) (p0_oPrice : List Int32) (p0_oRem : List Int32) (p0_oFilled : List Int32) (p0_oStatus : List Int32) (p0_oStamp : List Int64) (p0_oTop : List Int32) (p0_restIds : List Int32) (p0_accepted : Int32) (p0_restN : Int32) : Nat → Int32 → Int32 → Int32 → Int32 → Option (Int32)
  | 0, _, _, _, _ => none
  | n + 1, v3, v4, v5, v6 =>
    if (255 : Int32) < v6 then
      k154 v3 v4 v5
    else
      (f_status p0_oStatus p0_accepted v6).bind fun r168 =>
      (f_remaining p0_oRem p0_oStatus p0_accepted v6).bind fun r169 =>
      (f_priorityRank p0_oSide p0_oPrice p0_oStatus p0_oStamp p0_restIds p0_accepted p0_restN v6).bind fun r170 =>
      (f_isTop p0_oStatus p0_oTop p0_accepted v6).bind fun r171 =>
      if r168 = (1 : Int32) then
        if r169 < (1 : Int32) then
          some (0 : Int32)
        else
          if (10000 : Int32) < r169 then
            some (0 : Int32)
          else
            if r170 < (0 : Int32) then
              some (0 : Int32)
            else
              f_L_ok_137 (f_L_ok_38 k154 p0_oSide p0_oPrice p0_oRem p0_oFilled p0_oStatus p0_oStamp p0_oTop p0_restIds p0_accepted p0_restN n) k154 p0_oSide p0_oPrice p0_oRem p0_oFilled p0_oStatus p0_oStamp p0_oTop p0_restIds p0_accepted p0_restN (v3 + (1 : Int32)) (if r171 = (0 : Int32) then v4 else (v4 + (1 : Int32))) v5 v6
      else
        if r169 = (0 : Int32) then
          if r170 = (-1 : Int32) then
            if r171 = (0 : Int32) then
              f_L_ok_137 (f_L_ok_38 k154 p0_oSide p0_oPrice p0_oRem p0_oFilled p0_oStatus p0_oStamp p0_oTop p0_restIds p0_accepted p0_restN n) k154 p0_oSide p0_oPrice p0_oRem p0_oFilled p0_oStatus p0_oStamp p0_oTop p0_restIds p0_accepted p0_restN v3 v4 v5 v6
            else
              some (0 : Int32)
          else
            some (0 : Int32)
        else
          some (0 : Int32)
def f_L_ok_27 (p0_oSide : List Int32) (p0_oPrice : List Int32) (p0_oRem : List Int32) (p0_oFilled : List Int32) (p0_oStatus : List Int32) (p0_oStamp : List Int64) (p0_oTop : List Int32) (p0_restIds : List Int32) (p0_accepted : Int32) (p0_restN : Int32) : Option (Int32) :=
  f_L_ok_38 (f_L_ok_154 p0_oSide p0_oPrice p0_oRem p0_oFilled p0_oStatus p0_oStamp p0_oTop p0_restIds p0_accepted p0_restN) p0_oSide p0_oPrice p0_oRem p0_oFilled p0_oStatus p0_oStamp p0_oTop p0_restIds p0_accepted p0_restN 100000 (0 : Int32) (0 : Int32) (0 : Int32) (1 : Int32)
def f_L_ok (p0_oSide : List Int32) (p0_oPrice : List Int32) (p0_oRem : List Int32) (p0_oFilled : List Int32) (p0_oStatus : List Int32) (p0_oStamp : List Int64) (p0_oTop : List Int32) (p0_restIds : List Int32) (p0_accepted : Int32) (p0_restN : Int32) : Option (Int32) :=
  (f_bestPrice p0_oSide p0_oPrice p0_restIds p0_restN (0 : Int32)).bind fun r166 =>
  (f_bestPrice p0_oSide p0_oPrice p0_restIds p0_restN (1 : Int32)).bind fun r167 =>
  if r166 = (0 : Int32) then
    f_L_ok_27 p0_oSide p0_oPrice p0_oRem p0_oFilled p0_oStatus p0_oStamp p0_oTop p0_restIds p0_accepted p0_restN
  else
    if r167 = (0 : Int32) then
      f_L_ok_27 p0_oSide p0_oPrice p0_oRem p0_oFilled p0_oStatus p0_oStamp p0_oTop p0_restIds p0_accepted p0_restN
    else
      if r166 < r167 then
        f_L_ok_27 p0_oSide p0_oPrice p0_oRem p0_oFilled p0_oStatus p0_oStamp p0_oTop p0_restIds p0_accepted p0_restN
      else
        some (0 : Int32)
def f_L_law_130 (scr : List Int32) (n0_oSide : List Int32) (n0_oPrice : List Int32) (n0_oRem : List Int32) (n0_oFilled : List Int32) (n0_oStatus : List Int32) (n0_oStamp : List Int64) (n0_oTop : List Int32) (n0_restIds : List Int32) (n0_accepted : Int32) (n0_restN : Int32) : Option (Int32) :=
  (f_L_ok n0_oSide n0_oPrice n0_oRem n0_oFilled n0_oStatus n0_oStamp n0_oTop n0_restIds n0_accepted n0_restN).bind fun r232 =>
  some (r232 &&& 1)
def f_L_law_115 (kb : List Int32 → List Int32 → List Int32 → List Int32 → List Int32 → List Int64 → List Int32 → List Int32 → List Int32 → List Int32 → List Int32 → List Int32 → List Int32 → List Int32 → Int32 → Int32 → Int32 → Int64 → Int32 → Int32 → Int32 → Int32 → Int32 → Option (Int32)) (k130 : List Int32 → List Int32 → List Int32 → List Int32 → List Int32 → List Int64 → List Int32 → List Int32 → Int32 → Int32 → Option (Int32)) (scr : List Int32) (n0_oSide : List Int32) (n0_oPrice : List Int32) (n0_oRem : List Int32) (n0_oFilled : List Int32) (n0_oStatus : List Int32) (n0_oStamp : List Int64) (n0_oTop : List Int32) (n0_restIds : List Int32) (n0_fIds : List Int32) (n0_fQty : List Int32) (n0_fPrice : List Int32) (n0_lvlIds : List Int32) (n0_lvlR : List Int32) (n0_lvlA : List Int32) (n0_minAlloc : Int32) (n0_topCap : Int32) (n0_accepted : Int32) (n0_stampCounter : Int64) (n0_restN : Int32) (n0_fN : Int32) (n0_lvlN : Int32) (v2 : Int32) (v3 : Int32) : Option (Int32) :=
  (f_L_ok n0_oSide n0_oPrice n0_oRem n0_oFilled n0_oStatus n0_oStamp n0_oTop n0_restIds n0_accepted n0_restN).bind fun r231 =>
  if r231 = (0 : Int32) then
    some (0 : Int32)
  else
    kb n0_oSide n0_oPrice n0_oRem n0_oFilled n0_oStatus n0_oStamp n0_oTop n0_restIds n0_fIds n0_fQty n0_fPrice n0_lvlIds n0_lvlR n0_lvlA n0_minAlloc n0_topCap n0_accepted n0_stampCounter n0_restN n0_fN n0_lvlN v2 (v3 + (1 : Int32))
def f_L_law_18 (k130 : List Int32 → List Int32 → List Int32 → List Int32 → List Int32 → List Int64 → List Int32 → List Int32 → Int32 → Int32 → Option (Int32)) (scr : List Int32) : Nat → List Int32 → List Int32 → List Int32 → List Int32 → List Int32 → List Int64 → List Int32 → List Int32 → List Int32 → List Int32 → List Int32 → List Int32 → List Int32 → List Int32 → Int32 → Int32 → Int32 → Int64 → Int32 → Int32 → Int32 → Int32 → Int32 → Option (Int32)
  | 0, _, _, _, _, _, _, _, _, _, _, _, _, _, _, _, _, _, _, _, _, _, _, _ => none
  | n + 1, n0_oSide, n0_oPrice, n0_oRem, n0_oFilled, n0_oStatus, n0_oStamp, n0_oTop, n0_restIds, n0_fIds, n0_fQty, n0_fPrice, n0_lvlIds, n0_lvlR, n0_lvlA, n0_minAlloc, n0_topCap, n0_accepted, n0_stampCounter, n0_restN, n0_fN, n0_lvlN, v2, v3 =>
    if v3 < v2 then
      (rdA scr ((5 : Int32) * v3)).bind fun x195 =>
      (rdA scr (((5 : Int32) * v3) + (1 : Int32))).bind fun x196 =>
      (rdA scr (((5 : Int32) * v3) + (2 : Int32))).bind fun x197 =>
      (rdA scr (((5 : Int32) * v3) + (3 : Int32))).bind fun x198 =>
      (rdA scr (((5 : Int32) * v3) + (4 : Int32))).bind fun x199 =>
      if (x195 &&& (3 : Int32)) = (1 : Int32) then
        (f_cancel n0_accepted n0_oRem n0_oStatus n0_oTop n0_restIds n0_restN x196).bind fun (r225, s226, s227, s228, s229, s230) =>
        f_L_law_115 (f_L_law_18 k130 scr n) k130 scr n0_oSide n0_oPrice s226 n0_oFilled s227 n0_oStamp s228 s229 n0_fIds n0_fQty n0_fPrice n0_lvlIds n0_lvlR n0_lvlA n0_minAlloc n0_topCap n0_accepted n0_stampCounter s230 n0_fN n0_lvlN v2 v3
      else
        if (x195 &&& (3 : Int32)) = (2 : Int32) then
          (f_amend n0_oStatus n0_accepted n0_oRem n0_oStamp n0_oTop n0_stampCounter x196 x197).bind fun (r220, s221, s222, s223, s224) =>
          f_L_law_115 (f_L_law_18 k130 scr n) k130 scr n0_oSide n0_oPrice s221 n0_oFilled n0_oStatus s222 s223 n0_restIds n0_fIds n0_fQty n0_fPrice n0_lvlIds n0_lvlR n0_lvlA n0_minAlloc n0_topCap n0_accepted s224 n0_restN n0_fN n0_lvlN v2 v3
        else
          (f_submit n0_minAlloc n0_topCap n0_oSide n0_oPrice n0_oRem n0_oFilled n0_oStatus n0_oStamp n0_oTop n0_restIds n0_fIds n0_fQty n0_fPrice n0_lvlIds n0_lvlR n0_lvlA n0_accepted n0_stampCounter n0_restN n0_fN n0_lvlN x196 x197 x198 x199).bind fun (r200, s201, s202, s203, s204, s205, s206, s207, s208, s209, s210, s211, s212, s213, s214, s215, s216, s217, s218, s219) =>
          f_L_law_115 (f_L_law_18 k130 scr n) k130 scr s201 s202 s203 s204 s205 s206 s207 s208 s209 s210 s211 s212 s213 s214 n0_minAlloc n0_topCap s215 s216 s217 s218 s219 v2 v3
    else
      k130 n0_oSide n0_oPrice n0_oRem n0_oFilled n0_oStatus n0_oStamp n0_oTop n0_restIds n0_accepted n0_restN
def f_L_law (scr : List Int32) : Option (Int32) :=
  (f_init (5 : Int32) (50 : Int32)).bind fun (s174, s175, s176, s177, s178, s179, s180, s181, s182, s183, s184, s185, s186, s187, s188, s189, s190, s191, s192, s193, s194) =>
  f_L_law_18 (f_L_law_130 scr) scr 100000 s174 s175 s176 s177 s178 s179 s180 s181 s182 s183 s184 s185 s186 s187 s188 s189 s190 s191 s192 s193 s194 (scr.length.toInt32 / (5 : Int32)) (0 : Int32)
set_option maxHeartbeats 4000000
set_option maxRecDepth 10000
theorem ok_init_165 {c0 : ACell} : ∀ {o_oSide : List Int32} {o_oPrice : List Int32} {o_oRem : List Int32} {o_oFilled : List Int32} {o_oStatus : List Int32} {o_oStamp : List Int64} {o_oTop : List Int32} {o_restIds : List Int32} {o_fIds : List Int32} {o_fQty : List Int32} {o_fPrice : List Int32} {o_lvlIds : List Int32} {o_lvlR : List Int32} {o_lvlA : List Int32} {o_minAlloc : Int32} {o_topCap : Int32} {o_accepted : Int32} {o_stampCounter : Int64} {o_restN : Int32} {o_fN : Int32} {o_lvlN : Int32} {v3 : Int32} {v4 : Int32} {d1 d2 : Slot} {w_o_oSide : List Int32} {w_o_oPrice : List Int32} {w_o_oRem : List Int32} {w_o_oFilled : List Int32} {w_o_oStatus : List Int32} {w_o_oStamp : List Int64} {w_o_oTop : List Int32} {w_o_restIds : List Int32} {w_o_fIds : List Int32} {w_o_fQty : List Int32} {w_o_fPrice : List Int32} {w_o_lvlIds : List Int32} {w_o_lvlR : List Int32} {w_o_lvlA : List Int32} {w_o_minAlloc : Int32} {w_o_topCap : Int32} {w_o_accepted : Int32} {w_o_stampCounter : Int64} {w_o_restN : Int32} {w_o_fN : Int32} {w_o_lvlN : Int32}, f_init_165 o_oSide o_oPrice o_oRem o_oFilled o_oStatus o_oStamp o_oTop o_restIds o_fIds o_fQty o_fPrice o_lvlIds o_lvlR o_lvlA o_minAlloc o_topCap o_accepted o_stampCounter o_restN o_fN o_lvlN v3 v4 = some (w_o_oSide, w_o_oPrice, w_o_oRem, w_o_oFilled, w_o_oStatus, w_o_oStamp, w_o_oTop, w_o_restIds, w_o_fIds, w_o_fQty, w_o_fPrice, w_o_lvlIds, w_o_lvlR, w_o_lvlA, w_o_minAlloc, w_o_topCap, w_o_accepted, w_o_stampCounter, w_o_restN, w_o_fN, w_o_lvlN) → OEnds own_P 1 165 [.val (.ref 1), d1, d2, .val (.int v3), .val (.int v4)] [] (c0 :: bk0 o_oSide o_oPrice o_oRem o_oFilled o_oStatus o_oStamp o_oTop o_restIds o_fIds o_fQty o_fPrice o_lvlIds o_lvlR o_lvlA o_minAlloc o_topCap o_accepted o_stampCounter o_restN o_fN o_lvlN []) (none, (c0 :: bk0 w_o_oSide w_o_oPrice w_o_oRem w_o_oFilled w_o_oStatus w_o_oStamp w_o_oTop w_o_restIds w_o_fIds w_o_fQty w_o_fPrice w_o_lvlIds w_o_lvlR w_o_lvlA w_o_minAlloc w_o_topCap w_o_accepted w_o_stampCounter w_o_restN w_o_fN w_o_lvlN []), 0, 0) := by
  intro o_oSide o_oPrice o_oRem o_oFilled o_oStatus o_oStamp o_oTop o_restIds o_fIds o_fQty o_fPrice o_lvlIds o_lvlR o_lvlA o_minAlloc o_topCap o_accepted o_stampCounter o_restN o_fN o_lvlN v3 v4 d1 d2 w_o_oSide w_o_oPrice w_o_oRem w_o_oFilled w_o_oStatus w_o_oStamp w_o_oTop w_o_restIds w_o_fIds w_o_fQty w_o_fPrice w_o_lvlIds w_o_lvlR w_o_lvlA w_o_minAlloc w_o_topCap w_o_accepted w_o_stampCounter w_o_restN w_o_fN w_o_lvlN h
  unfold f_init_165 at h
  refine OEnds.adv hm_1 21 (pc' := 201) (L' := [.val (.ref 1), .unset, .unset, .val (.int v3), .val (.int v4)]) (S' := []) (H' := (c0 :: bk0 o_oSide o_oPrice o_oRem o_oFilled o_oStatus o_oStamp o_oTop o_restIds o_fIds o_fQty o_fPrice o_lvlIds o_lvlR o_lvlA v3 v4 0 0 0 0 0 [])) rfl ?_
  cases h
  exact OEnds.vret hm_1 rfl rfl
theorem ok_init_152 {c0 : ACell} : ∀ {o_oSide : List Int32} {o_oPrice : List Int32} {o_oRem : List Int32} {o_oFilled : List Int32} {o_oStatus : List Int32} {o_oStamp : List Int64} {o_oTop : List Int32} {o_restIds : List Int32} {o_fIds : List Int32} {o_fQty : List Int32} {o_fPrice : List Int32} {o_lvlIds : List Int32} {o_lvlR : List Int32} {o_lvlA : List Int32} {o_minAlloc : Int32} {o_topCap : Int32} {o_accepted : Int32} {o_stampCounter : Int64} {o_restN : Int32} {o_fN : Int32} {o_lvlN : Int32} {v3 : Int32} {v4 : Int32} {d1 d2 : Slot} {w_o_oSide : List Int32} {w_o_oPrice : List Int32} {w_o_oRem : List Int32} {w_o_oFilled : List Int32} {w_o_oStatus : List Int32} {w_o_oStamp : List Int64} {w_o_oTop : List Int32} {w_o_restIds : List Int32} {w_o_fIds : List Int32} {w_o_fQty : List Int32} {w_o_fPrice : List Int32} {w_o_lvlIds : List Int32} {w_o_lvlR : List Int32} {w_o_lvlA : List Int32} {w_o_minAlloc : Int32} {w_o_topCap : Int32} {w_o_accepted : Int32} {w_o_stampCounter : Int64} {w_o_restN : Int32} {w_o_fN : Int32} {w_o_lvlN : Int32}, f_init_152 o_oSide o_oPrice o_oRem o_oFilled o_oStatus o_oStamp o_oTop o_restIds o_fIds o_fQty o_fPrice o_lvlIds o_lvlR o_lvlA o_minAlloc o_topCap o_accepted o_stampCounter o_restN o_fN o_lvlN v3 v4 = some (w_o_oSide, w_o_oPrice, w_o_oRem, w_o_oFilled, w_o_oStatus, w_o_oStamp, w_o_oTop, w_o_restIds, w_o_fIds, w_o_fQty, w_o_fPrice, w_o_lvlIds, w_o_lvlR, w_o_lvlA, w_o_minAlloc, w_o_topCap, w_o_accepted, w_o_stampCounter, w_o_restN, w_o_fN, w_o_lvlN) → OEnds own_P 1 152 [.val (.ref 1), d1, d2, .val (.int v3), .val (.int v4)] [] (c0 :: bk0 o_oSide o_oPrice o_oRem o_oFilled o_oStatus o_oStamp o_oTop o_restIds o_fIds o_fQty o_fPrice o_lvlIds o_lvlR o_lvlA o_minAlloc o_topCap o_accepted o_stampCounter o_restN o_fN o_lvlN []) (none, (c0 :: bk0 w_o_oSide w_o_oPrice w_o_oRem w_o_oFilled w_o_oStatus w_o_oStamp w_o_oTop w_o_restIds w_o_fIds w_o_fQty w_o_fPrice w_o_lvlIds w_o_lvlR w_o_lvlA w_o_minAlloc w_o_topCap w_o_accepted w_o_stampCounter w_o_restN w_o_fN w_o_lvlN []), 0, 0) := by
  intro o_oSide o_oPrice o_oRem o_oFilled o_oStatus o_oStamp o_oTop o_restIds o_fIds o_fQty o_fPrice o_lvlIds o_lvlR o_lvlA o_minAlloc o_topCap o_accepted o_stampCounter o_restN o_fN o_lvlN v3 v4 d1 d2 w_o_oSide w_o_oPrice w_o_oRem w_o_oFilled w_o_oStatus w_o_oStamp w_o_oTop w_o_restIds w_o_fIds w_o_fQty w_o_fPrice w_o_lvlIds w_o_lvlR w_o_lvlA w_o_minAlloc w_o_topCap w_o_accepted w_o_stampCounter w_o_restN w_o_fN w_o_lvlN h
  unfold f_init_152 at h
  refine OEnds.adv hm_1 2 (pc' := 157) (L' := [.val (.ref 1), .unset, .unset, .val (.int v3), .val (.int v4)]) (S' := [.int 10000, .int v4]) (H' := (c0 :: bk0 o_oSide o_oPrice o_oRem o_oFilled o_oStatus o_oStamp o_oTop o_restIds o_fIds o_fQty o_fPrice o_lvlIds o_lvlR o_lvlA o_minAlloc o_topCap o_accepted o_stampCounter o_restN o_fN o_lvlN [])) rfl ?_
  by_cases hc1 : (10000 : Int32) < v4
  · simp only [if_pos hc1] at h
    refine OEnds.icmpF hm_1 rfl ((tlt hc1).2.2.2) ?_
    refine OEnds.adv hm_1 2 (pc' := 165) (L' := [.val (.ref 1), .unset, .unset, .val (.int v3), .val (.int 10000)]) (S' := []) (H' := (c0 :: bk0 o_oSide o_oPrice o_oRem o_oFilled o_oStatus o_oStamp o_oTop o_restIds o_fIds o_fQty o_fPrice o_lvlIds o_lvlR o_lvlA o_minAlloc o_topCap o_accepted o_stampCounter o_restN o_fN o_lvlN [])) rfl ?_
    exact ok_init_165 h
  · simp only [if_neg hc1] at h
    refine OEnds.icmpT hm_1 rfl (q := 165) rfl ((flt hc1).2.2.2) ?_
    show OEnds own_P 1 165 [.val (.ref 1), .unset, .unset, .val (.int v3), .val (.int v4)] [] (c0 :: bk0 o_oSide o_oPrice o_oRem o_oFilled o_oStatus o_oStamp o_oTop o_restIds o_fIds o_fQty o_fPrice o_lvlIds o_lvlR o_lvlA o_minAlloc o_topCap o_accepted o_stampCounter o_restN o_fN o_lvlN []) _
    exact ok_init_165 h
theorem ok_init_141 {c0 : ACell} : ∀ {o_oSide : List Int32} {o_oPrice : List Int32} {o_oRem : List Int32} {o_oFilled : List Int32} {o_oStatus : List Int32} {o_oStamp : List Int64} {o_oTop : List Int32} {o_restIds : List Int32} {o_fIds : List Int32} {o_fQty : List Int32} {o_fPrice : List Int32} {o_lvlIds : List Int32} {o_lvlR : List Int32} {o_lvlA : List Int32} {o_minAlloc : Int32} {o_topCap : Int32} {o_accepted : Int32} {o_stampCounter : Int64} {o_restN : Int32} {o_fN : Int32} {o_lvlN : Int32} {v2 : Int32} {v3 : Int32} {d1 d4 : Slot} {w_o_oSide : List Int32} {w_o_oPrice : List Int32} {w_o_oRem : List Int32} {w_o_oFilled : List Int32} {w_o_oStatus : List Int32} {w_o_oStamp : List Int64} {w_o_oTop : List Int32} {w_o_restIds : List Int32} {w_o_fIds : List Int32} {w_o_fQty : List Int32} {w_o_fPrice : List Int32} {w_o_lvlIds : List Int32} {w_o_lvlR : List Int32} {w_o_lvlA : List Int32} {w_o_minAlloc : Int32} {w_o_topCap : Int32} {w_o_accepted : Int32} {w_o_stampCounter : Int64} {w_o_restN : Int32} {w_o_fN : Int32} {w_o_lvlN : Int32}, f_init_141 o_oSide o_oPrice o_oRem o_oFilled o_oStatus o_oStamp o_oTop o_restIds o_fIds o_fQty o_fPrice o_lvlIds o_lvlR o_lvlA o_minAlloc o_topCap o_accepted o_stampCounter o_restN o_fN o_lvlN v2 v3 = some (w_o_oSide, w_o_oPrice, w_o_oRem, w_o_oFilled, w_o_oStatus, w_o_oStamp, w_o_oTop, w_o_restIds, w_o_fIds, w_o_fQty, w_o_fPrice, w_o_lvlIds, w_o_lvlR, w_o_lvlA, w_o_minAlloc, w_o_topCap, w_o_accepted, w_o_stampCounter, w_o_restN, w_o_fN, w_o_lvlN) → OEnds own_P 1 141 [.val (.ref 1), d1, .val (.int v2), .val (.int v3), d4] [] (c0 :: bk0 o_oSide o_oPrice o_oRem o_oFilled o_oStatus o_oStamp o_oTop o_restIds o_fIds o_fQty o_fPrice o_lvlIds o_lvlR o_lvlA o_minAlloc o_topCap o_accepted o_stampCounter o_restN o_fN o_lvlN []) (none, (c0 :: bk0 w_o_oSide w_o_oPrice w_o_oRem w_o_oFilled w_o_oStatus w_o_oStamp w_o_oTop w_o_restIds w_o_fIds w_o_fQty w_o_fPrice w_o_lvlIds w_o_lvlR w_o_lvlA w_o_minAlloc w_o_topCap w_o_accepted w_o_stampCounter w_o_restN w_o_fN w_o_lvlN []), 0, 0) := by
  intro o_oSide o_oPrice o_oRem o_oFilled o_oStatus o_oStamp o_oTop o_restIds o_fIds o_fQty o_fPrice o_lvlIds o_lvlR o_lvlA o_minAlloc o_topCap o_accepted o_stampCounter o_restN o_fN o_lvlN v2 v3 d1 d4 w_o_oSide w_o_oPrice w_o_oRem w_o_oFilled w_o_oStatus w_o_oStamp w_o_oTop w_o_restIds w_o_fIds w_o_fQty w_o_fPrice w_o_lvlIds w_o_lvlR w_o_lvlA w_o_minAlloc w_o_topCap w_o_accepted w_o_stampCounter w_o_restN w_o_fN w_o_lvlN h
  unfold f_init_141 at h
  refine OEnds.adv hm_1 3 (pc' := 146) (L' := [.val (.ref 1), .unset, .val (.int v2), .val (.int v3), .val (.int v2)]) (S' := [.int v2]) (H' := (c0 :: bk0 o_oSide o_oPrice o_oRem o_oFilled o_oStatus o_oStamp o_oTop o_restIds o_fIds o_fQty o_fPrice o_lvlIds o_lvlR o_lvlA o_minAlloc o_topCap o_accepted o_stampCounter o_restN o_fN o_lvlN [])) rfl ?_
  by_cases hc2 : v2 < (0 : Int32)
  · simp only [if_pos hc2] at h
    refine OEnds.ifF hm_1 rfl ((tlt hc2).2.1) ?_
    refine OEnds.adv hm_1 2 (pc' := 152) (L' := [.val (.ref 1), .unset, .val (.int v2), .val (.int v3), .val (.int 0)]) (S' := []) (H' := (c0 :: bk0 o_oSide o_oPrice o_oRem o_oFilled o_oStatus o_oStamp o_oTop o_restIds o_fIds o_fQty o_fPrice o_lvlIds o_lvlR o_lvlA o_minAlloc o_topCap o_accepted o_stampCounter o_restN o_fN o_lvlN [])) rfl ?_
    exact ok_init_152 h
  · simp only [if_neg hc2] at h
    refine OEnds.ifT hm_1 rfl (q := 152) rfl ((flt hc2).2.1) ?_
    show OEnds own_P 1 152 [.val (.ref 1), .unset, .val (.int v2), .val (.int v3), .val (.int v2)] [] (c0 :: bk0 o_oSide o_oPrice o_oRem o_oFilled o_oStatus o_oStamp o_oTop o_restIds o_fIds o_fQty o_fPrice o_lvlIds o_lvlR o_lvlA o_minAlloc o_topCap o_accepted o_stampCounter o_restN o_fN o_lvlN []) _
    exact ok_init_152 h
theorem ok_init_132 {c0 : ACell} : ∀ {o_oSide : List Int32} {o_oPrice : List Int32} {o_oRem : List Int32} {o_oFilled : List Int32} {o_oStatus : List Int32} {o_oStamp : List Int64} {o_oTop : List Int32} {o_restIds : List Int32} {o_fIds : List Int32} {o_fQty : List Int32} {o_fPrice : List Int32} {o_lvlIds : List Int32} {o_lvlR : List Int32} {o_lvlA : List Int32} {o_minAlloc : Int32} {o_topCap : Int32} {o_accepted : Int32} {o_stampCounter : Int64} {o_restN : Int32} {o_fN : Int32} {o_lvlN : Int32} {v2 : Int32} {v3 : Int32} {d1 d4 : Slot} {w_o_oSide : List Int32} {w_o_oPrice : List Int32} {w_o_oRem : List Int32} {w_o_oFilled : List Int32} {w_o_oStatus : List Int32} {w_o_oStamp : List Int64} {w_o_oTop : List Int32} {w_o_restIds : List Int32} {w_o_fIds : List Int32} {w_o_fQty : List Int32} {w_o_fPrice : List Int32} {w_o_lvlIds : List Int32} {w_o_lvlR : List Int32} {w_o_lvlA : List Int32} {w_o_minAlloc : Int32} {w_o_topCap : Int32} {w_o_accepted : Int32} {w_o_stampCounter : Int64} {w_o_restN : Int32} {w_o_fN : Int32} {w_o_lvlN : Int32}, f_init_132 o_oSide o_oPrice o_oRem o_oFilled o_oStatus o_oStamp o_oTop o_restIds o_fIds o_fQty o_fPrice o_lvlIds o_lvlR o_lvlA o_minAlloc o_topCap o_accepted o_stampCounter o_restN o_fN o_lvlN v2 v3 = some (w_o_oSide, w_o_oPrice, w_o_oRem, w_o_oFilled, w_o_oStatus, w_o_oStamp, w_o_oTop, w_o_restIds, w_o_fIds, w_o_fQty, w_o_fPrice, w_o_lvlIds, w_o_lvlR, w_o_lvlA, w_o_minAlloc, w_o_topCap, w_o_accepted, w_o_stampCounter, w_o_restN, w_o_fN, w_o_lvlN) → OEnds own_P 1 132 [.val (.ref 1), d1, .val (.int v2), .val (.int v3), d4] [] (c0 :: bk0 o_oSide o_oPrice o_oRem o_oFilled o_oStatus o_oStamp o_oTop o_restIds o_fIds o_fQty o_fPrice o_lvlIds o_lvlR o_lvlA o_minAlloc o_topCap o_accepted o_stampCounter o_restN o_fN o_lvlN []) (none, (c0 :: bk0 w_o_oSide w_o_oPrice w_o_oRem w_o_oFilled w_o_oStatus w_o_oStamp w_o_oTop w_o_restIds w_o_fIds w_o_fQty w_o_fPrice w_o_lvlIds w_o_lvlR w_o_lvlA w_o_minAlloc w_o_topCap w_o_accepted w_o_stampCounter w_o_restN w_o_fN w_o_lvlN []), 0, 0) := by
  intro o_oSide o_oPrice o_oRem o_oFilled o_oStatus o_oStamp o_oTop o_restIds o_fIds o_fQty o_fPrice o_lvlIds o_lvlR o_lvlA o_minAlloc o_topCap o_accepted o_stampCounter o_restN o_fN o_lvlN v2 v3 d1 d4 w_o_oSide w_o_oPrice w_o_oRem w_o_oFilled w_o_oStatus w_o_oStamp w_o_oTop w_o_restIds w_o_fIds w_o_fQty w_o_fPrice w_o_lvlIds w_o_lvlR w_o_lvlA w_o_minAlloc w_o_topCap w_o_accepted w_o_stampCounter w_o_restN w_o_fN w_o_lvlN h
  unfold f_init_132 at h
  refine OEnds.adv hm_1 2 (pc' := 135) (L' := [.val (.ref 1), .unset, .val (.int v2), .val (.int v3), .unset]) (S' := [.int 100, .int v3]) (H' := (c0 :: bk0 o_oSide o_oPrice o_oRem o_oFilled o_oStatus o_oStamp o_oTop o_restIds o_fIds o_fQty o_fPrice o_lvlIds o_lvlR o_lvlA o_minAlloc o_topCap o_accepted o_stampCounter o_restN o_fN o_lvlN [])) rfl ?_
  by_cases hc3 : (100 : Int32) < v3
  · simp only [if_pos hc3] at h
    refine OEnds.icmpF hm_1 rfl ((tlt hc3).2.2.2) ?_
    refine OEnds.adv hm_1 2 (pc' := 141) (L' := [.val (.ref 1), .unset, .val (.int v2), .val (.int 100), .unset]) (S' := []) (H' := (c0 :: bk0 o_oSide o_oPrice o_oRem o_oFilled o_oStatus o_oStamp o_oTop o_restIds o_fIds o_fQty o_fPrice o_lvlIds o_lvlR o_lvlA o_minAlloc o_topCap o_accepted o_stampCounter o_restN o_fN o_lvlN [])) rfl ?_
    exact ok_init_141 h
  · simp only [if_neg hc3] at h
    refine OEnds.icmpT hm_1 rfl (q := 141) rfl ((flt hc3).2.2.2) ?_
    show OEnds own_P 1 141 [.val (.ref 1), .unset, .val (.int v2), .val (.int v3), .unset] [] (c0 :: bk0 o_oSide o_oPrice o_oRem o_oFilled o_oStatus o_oStamp o_oTop o_restIds o_fIds o_fQty o_fPrice o_lvlIds o_lvlR o_lvlA o_minAlloc o_topCap o_accepted o_stampCounter o_restN o_fN o_lvlN []) _
    exact ok_init_141 h
theorem ok_init {c0 : ACell} {v1 : Int32} {v2 : Int32} {w_o_oSide : List Int32} {w_o_oPrice : List Int32} {w_o_oRem : List Int32} {w_o_oFilled : List Int32} {w_o_oStatus : List Int32} {w_o_oStamp : List Int64} {w_o_oTop : List Int32} {w_o_restIds : List Int32} {w_o_fIds : List Int32} {w_o_fQty : List Int32} {w_o_fPrice : List Int32} {w_o_lvlIds : List Int32} {w_o_lvlR : List Int32} {w_o_lvlA : List Int32} {w_o_minAlloc : Int32} {w_o_topCap : Int32} {w_o_accepted : Int32} {w_o_stampCounter : Int64} {w_o_restN : Int32} {w_o_fN : Int32} {w_o_lvlN : Int32} (h : f_init v1 v2 = some (w_o_oSide, w_o_oPrice, w_o_oRem, w_o_oFilled, w_o_oStatus, w_o_oStamp, w_o_oTop, w_o_restIds, w_o_fIds, w_o_fQty, w_o_fPrice, w_o_lvlIds, w_o_lvlR, w_o_lvlA, w_o_minAlloc, w_o_topCap, w_o_accepted, w_o_stampCounter, w_o_restN, w_o_fN, w_o_lvlN)) : OEnds own_P 1 0 [.val (.ref 1), .val (.int v1), .val (.int v2), .unset, .unset] [] (c0 :: (.inl (0, [.null, .null, .null, .null, .null, .null, .null, .null, .null, .null, .null, .null, .null, .null, .int 0, .int 0, .int 0, .long 0, .int 0, .int 0, .int 0]) : ACell) :: []) (none, (c0 :: bk0 w_o_oSide w_o_oPrice w_o_oRem w_o_oFilled w_o_oStatus w_o_oStamp w_o_oTop w_o_restIds w_o_fIds w_o_fQty w_o_fPrice w_o_lvlIds w_o_lvlR w_o_lvlA w_o_minAlloc w_o_topCap w_o_accepted w_o_stampCounter w_o_restN w_o_fN w_o_lvlN []), 14, 2240) := by
  unfold f_init at h
  refine OEnds.adv hm_1 1 (pc' := 1) (L' := [.val (.ref 1), .val (.int v1), .val (.int v2), .unset, .unset]) (S' := [.ref 1]) (H' := (c0 :: (.inl (0, [.null, .null, .null, .null, .null, .null, .null, .null, .null, .null, .null, .null, .null, .null, .int 0, .int 0, .int 0, .long 0, .int 0, .int 0, .int 0]) : ACell) :: [])) rfl ?_
  refine OEnds.oinit hm_1 rfl ⟨Nat.le_of_ble_eq_true rfl, Nat.le_of_ble_eq_true rfl⟩ ?_
  refine OEnds.adv hm_1 2 (pc' := 8) (L' := [.val (.ref 1), .val (.int v1), .val (.int v2), .unset, .unset]) (S' := [.int 256, .ref 1]) (H' := (c0 :: (.inl (0, [.null, .null, .null, .null, .null, .null, .null, .null, .null, .null, .null, .null, .null, .null, .int 0, .int 0, .int 0, .long 0, .int 0, .int 0, .int 0]) : ACell) :: [])) rfl ?_
  refine OEnds.made1 hm_1 rfl rfl (ks := 256) rfl rfl ?_
  refine OEnds.adv hm_1 3 (pc' := 17) (L' := [.val (.ref 1), .val (.int v1), .val (.int v2), .unset, .unset]) (S' := [.int 256, .ref 1]) (H' := (c0 :: (.inl (0, [.ref 2, .null, .null, .null, .null, .null, .null, .null, .null, .null, .null, .null, .null, .null, .int 0, .int 0, .int 0, .long 0, .int 0, .int 0, .int 0]) : ACell) :: .inr (.inl (false, (List.replicate 256 0))) :: [])) rfl ?_
  refine OEnds.made1 hm_1 rfl rfl (ks := 256) rfl rfl ?_
  refine OEnds.adv hm_1 3 (pc' := 26) (L' := [.val (.ref 1), .val (.int v1), .val (.int v2), .unset, .unset]) (S' := [.int 256, .ref 1]) (H' := (c0 :: (.inl (0, [.ref 2, .ref 3, .null, .null, .null, .null, .null, .null, .null, .null, .null, .null, .null, .null, .int 0, .int 0, .int 0, .long 0, .int 0, .int 0, .int 0]) : ACell) :: .inr (.inl (false, (List.replicate 256 0))) :: .inr (.inl (false, (List.replicate 256 0))) :: [])) rfl ?_
  refine OEnds.made1 hm_1 rfl rfl (ks := 256) rfl rfl ?_
  refine OEnds.adv hm_1 3 (pc' := 35) (L' := [.val (.ref 1), .val (.int v1), .val (.int v2), .unset, .unset]) (S' := [.int 256, .ref 1]) (H' := (c0 :: (.inl (0, [.ref 2, .ref 3, .ref 4, .null, .null, .null, .null, .null, .null, .null, .null, .null, .null, .null, .int 0, .int 0, .int 0, .long 0, .int 0, .int 0, .int 0]) : ACell) :: .inr (.inl (false, (List.replicate 256 0))) :: .inr (.inl (false, (List.replicate 256 0))) :: .inr (.inl (false, (List.replicate 256 0))) :: [])) rfl ?_
  refine OEnds.made1 hm_1 rfl rfl (ks := 256) rfl rfl ?_
  refine OEnds.adv hm_1 3 (pc' := 44) (L' := [.val (.ref 1), .val (.int v1), .val (.int v2), .unset, .unset]) (S' := [.int 256, .ref 1]) (H' := (c0 :: (.inl (0, [.ref 2, .ref 3, .ref 4, .ref 5, .null, .null, .null, .null, .null, .null, .null, .null, .null, .null, .int 0, .int 0, .int 0, .long 0, .int 0, .int 0, .int 0]) : ACell) :: .inr (.inl (false, (List.replicate 256 0))) :: .inr (.inl (false, (List.replicate 256 0))) :: .inr (.inl (false, (List.replicate 256 0))) :: .inr (.inl (false, (List.replicate 256 0))) :: [])) rfl ?_
  refine OEnds.made1 hm_1 rfl rfl (ks := 256) rfl rfl ?_
  refine OEnds.adv hm_1 3 (pc' := 53) (L' := [.val (.ref 1), .val (.int v1), .val (.int v2), .unset, .unset]) (S' := [.int 256, .ref 1]) (H' := (c0 :: (.inl (0, [.ref 2, .ref 3, .ref 4, .ref 5, .ref 6, .null, .null, .null, .null, .null, .null, .null, .null, .null, .int 0, .int 0, .int 0, .long 0, .int 0, .int 0, .int 0]) : ACell) :: .inr (.inl (false, (List.replicate 256 0))) :: .inr (.inl (false, (List.replicate 256 0))) :: .inr (.inl (false, (List.replicate 256 0))) :: .inr (.inl (false, (List.replicate 256 0))) :: .inr (.inl (false, (List.replicate 256 0))) :: [])) rfl ?_
  refine OEnds.made1 hm_1 rfl rfl (ks := 256) rfl rfl ?_
  refine OEnds.adv hm_1 3 (pc' := 62) (L' := [.val (.ref 1), .val (.int v1), .val (.int v2), .unset, .unset]) (S' := [.int 256, .ref 1]) (H' := (c0 :: (.inl (0, [.ref 2, .ref 3, .ref 4, .ref 5, .ref 6, .ref 7, .null, .null, .null, .null, .null, .null, .null, .null, .int 0, .int 0, .int 0, .long 0, .int 0, .int 0, .int 0]) : ACell) :: .inr (.inl (false, (List.replicate 256 0))) :: .inr (.inl (false, (List.replicate 256 0))) :: .inr (.inl (false, (List.replicate 256 0))) :: .inr (.inl (false, (List.replicate 256 0))) :: .inr (.inl (false, (List.replicate 256 0))) :: .inr (.inr (List.replicate 256 0)) :: [])) rfl ?_
  refine OEnds.made1 hm_1 rfl rfl (ks := 256) rfl rfl ?_
  refine OEnds.adv hm_1 3 (pc' := 70) (L' := [.val (.ref 1), .val (.int v1), .val (.int v2), .unset, .unset]) (S' := [.int 64, .ref 1]) (H' := (c0 :: (.inl (0, [.ref 2, .ref 3, .ref 4, .ref 5, .ref 6, .ref 7, .ref 8, .null, .null, .null, .null, .null, .null, .null, .int 0, .int 0, .int 0, .long 0, .int 0, .int 0, .int 0]) : ACell) :: .inr (.inl (false, (List.replicate 256 0))) :: .inr (.inl (false, (List.replicate 256 0))) :: .inr (.inl (false, (List.replicate 256 0))) :: .inr (.inl (false, (List.replicate 256 0))) :: .inr (.inl (false, (List.replicate 256 0))) :: .inr (.inr (List.replicate 256 0)) :: .inr (.inl (true, (List.replicate 256 0))) :: [])) rfl ?_
  refine OEnds.made1 hm_1 rfl rfl (ks := 64) rfl rfl ?_
  refine OEnds.adv hm_1 3 (pc' := 78) (L' := [.val (.ref 1), .val (.int v1), .val (.int v2), .unset, .unset]) (S' := [.int 64, .ref 1]) (H' := (c0 :: (.inl (0, [.ref 2, .ref 3, .ref 4, .ref 5, .ref 6, .ref 7, .ref 8, .ref 9, .null, .null, .null, .null, .null, .null, .int 0, .int 0, .int 0, .long 0, .int 0, .int 0, .int 0]) : ACell) :: .inr (.inl (false, (List.replicate 256 0))) :: .inr (.inl (false, (List.replicate 256 0))) :: .inr (.inl (false, (List.replicate 256 0))) :: .inr (.inl (false, (List.replicate 256 0))) :: .inr (.inl (false, (List.replicate 256 0))) :: .inr (.inr (List.replicate 256 0)) :: .inr (.inl (true, (List.replicate 256 0))) :: .inr (.inl (false, (List.replicate 64 0))) :: [])) rfl ?_
  refine OEnds.made1 hm_1 rfl rfl (ks := 64) rfl rfl ?_
  refine OEnds.adv hm_1 3 (pc' := 86) (L' := [.val (.ref 1), .val (.int v1), .val (.int v2), .unset, .unset]) (S' := [.int 64, .ref 1]) (H' := (c0 :: (.inl (0, [.ref 2, .ref 3, .ref 4, .ref 5, .ref 6, .ref 7, .ref 8, .ref 9, .ref 10, .null, .null, .null, .null, .null, .int 0, .int 0, .int 0, .long 0, .int 0, .int 0, .int 0]) : ACell) :: .inr (.inl (false, (List.replicate 256 0))) :: .inr (.inl (false, (List.replicate 256 0))) :: .inr (.inl (false, (List.replicate 256 0))) :: .inr (.inl (false, (List.replicate 256 0))) :: .inr (.inl (false, (List.replicate 256 0))) :: .inr (.inr (List.replicate 256 0)) :: .inr (.inl (true, (List.replicate 256 0))) :: .inr (.inl (false, (List.replicate 64 0))) :: .inr (.inl (false, (List.replicate 64 0))) :: [])) rfl ?_
  refine OEnds.made1 hm_1 rfl rfl (ks := 64) rfl rfl ?_
  refine OEnds.adv hm_1 3 (pc' := 94) (L' := [.val (.ref 1), .val (.int v1), .val (.int v2), .unset, .unset]) (S' := [.int 64, .ref 1]) (H' := (c0 :: (.inl (0, [.ref 2, .ref 3, .ref 4, .ref 5, .ref 6, .ref 7, .ref 8, .ref 9, .ref 10, .ref 11, .null, .null, .null, .null, .int 0, .int 0, .int 0, .long 0, .int 0, .int 0, .int 0]) : ACell) :: .inr (.inl (false, (List.replicate 256 0))) :: .inr (.inl (false, (List.replicate 256 0))) :: .inr (.inl (false, (List.replicate 256 0))) :: .inr (.inl (false, (List.replicate 256 0))) :: .inr (.inl (false, (List.replicate 256 0))) :: .inr (.inr (List.replicate 256 0)) :: .inr (.inl (true, (List.replicate 256 0))) :: .inr (.inl (false, (List.replicate 64 0))) :: .inr (.inl (false, (List.replicate 64 0))) :: .inr (.inl (false, (List.replicate 64 0))) :: [])) rfl ?_
  refine OEnds.made1 hm_1 rfl rfl (ks := 64) rfl rfl ?_
  refine OEnds.adv hm_1 3 (pc' := 102) (L' := [.val (.ref 1), .val (.int v1), .val (.int v2), .unset, .unset]) (S' := [.int 64, .ref 1]) (H' := (c0 :: (.inl (0, [.ref 2, .ref 3, .ref 4, .ref 5, .ref 6, .ref 7, .ref 8, .ref 9, .ref 10, .ref 11, .ref 12, .null, .null, .null, .int 0, .int 0, .int 0, .long 0, .int 0, .int 0, .int 0]) : ACell) :: .inr (.inl (false, (List.replicate 256 0))) :: .inr (.inl (false, (List.replicate 256 0))) :: .inr (.inl (false, (List.replicate 256 0))) :: .inr (.inl (false, (List.replicate 256 0))) :: .inr (.inl (false, (List.replicate 256 0))) :: .inr (.inr (List.replicate 256 0)) :: .inr (.inl (true, (List.replicate 256 0))) :: .inr (.inl (false, (List.replicate 64 0))) :: .inr (.inl (false, (List.replicate 64 0))) :: .inr (.inl (false, (List.replicate 64 0))) :: .inr (.inl (false, (List.replicate 64 0))) :: [])) rfl ?_
  refine OEnds.made1 hm_1 rfl rfl (ks := 64) rfl rfl ?_
  refine OEnds.adv hm_1 3 (pc' := 110) (L' := [.val (.ref 1), .val (.int v1), .val (.int v2), .unset, .unset]) (S' := [.int 64, .ref 1]) (H' := (c0 :: (.inl (0, [.ref 2, .ref 3, .ref 4, .ref 5, .ref 6, .ref 7, .ref 8, .ref 9, .ref 10, .ref 11, .ref 12, .ref 13, .null, .null, .int 0, .int 0, .int 0, .long 0, .int 0, .int 0, .int 0]) : ACell) :: .inr (.inl (false, (List.replicate 256 0))) :: .inr (.inl (false, (List.replicate 256 0))) :: .inr (.inl (false, (List.replicate 256 0))) :: .inr (.inl (false, (List.replicate 256 0))) :: .inr (.inl (false, (List.replicate 256 0))) :: .inr (.inr (List.replicate 256 0)) :: .inr (.inl (true, (List.replicate 256 0))) :: .inr (.inl (false, (List.replicate 64 0))) :: .inr (.inl (false, (List.replicate 64 0))) :: .inr (.inl (false, (List.replicate 64 0))) :: .inr (.inl (false, (List.replicate 64 0))) :: .inr (.inl (false, (List.replicate 64 0))) :: [])) rfl ?_
  refine OEnds.made1 hm_1 rfl rfl (ks := 64) rfl rfl ?_
  refine OEnds.adv hm_1 3 (pc' := 118) (L' := [.val (.ref 1), .val (.int v1), .val (.int v2), .unset, .unset]) (S' := [.int 64, .ref 1]) (H' := (c0 :: (.inl (0, [.ref 2, .ref 3, .ref 4, .ref 5, .ref 6, .ref 7, .ref 8, .ref 9, .ref 10, .ref 11, .ref 12, .ref 13, .ref 14, .null, .int 0, .int 0, .int 0, .long 0, .int 0, .int 0, .int 0]) : ACell) :: .inr (.inl (false, (List.replicate 256 0))) :: .inr (.inl (false, (List.replicate 256 0))) :: .inr (.inl (false, (List.replicate 256 0))) :: .inr (.inl (false, (List.replicate 256 0))) :: .inr (.inl (false, (List.replicate 256 0))) :: .inr (.inr (List.replicate 256 0)) :: .inr (.inl (true, (List.replicate 256 0))) :: .inr (.inl (false, (List.replicate 64 0))) :: .inr (.inl (false, (List.replicate 64 0))) :: .inr (.inl (false, (List.replicate 64 0))) :: .inr (.inl (false, (List.replicate 64 0))) :: .inr (.inl (false, (List.replicate 64 0))) :: .inr (.inl (false, (List.replicate 64 0))) :: [])) rfl ?_
  refine OEnds.made1 hm_1 rfl rfl (ks := 64) rfl rfl ?_
  refine OEnds.adv hm_1 5 (pc' := 127) (L' := [.val (.ref 1), .val (.int v1), .val (.int v2), .val (.int v1), .unset]) (S' := [.int 1, .int v1]) (H' := (c0 :: bk0 (List.replicate 256 0) (List.replicate 256 0) (List.replicate 256 0) (List.replicate 256 0) (List.replicate 256 0) (List.replicate 256 0) (List.replicate 256 0) (List.replicate 64 0) (List.replicate 64 0) (List.replicate 64 0) (List.replicate 64 0) (List.replicate 64 0) (List.replicate 64 0) (List.replicate 64 0) 0 0 0 0 0 0 0 [])) rfl ?_
  by_cases hc4 : v1 < (1 : Int32)
  · simp only [if_pos hc4] at h
    refine OEnds.icmpF hm_1 rfl ((tlt hc4).2.1) ?_
    refine OEnds.adv hm_1 2 (pc' := 132) (L' := [.val (.ref 1), .val (.int v1), .val (.int v2), .val (.int 1), .unset]) (S' := []) (H' := (c0 :: bk0 (List.replicate 256 0) (List.replicate 256 0) (List.replicate 256 0) (List.replicate 256 0) (List.replicate 256 0) (List.replicate 256 0) (List.replicate 256 0) (List.replicate 64 0) (List.replicate 64 0) (List.replicate 64 0) (List.replicate 64 0) (List.replicate 64 0) (List.replicate 64 0) (List.replicate 64 0) 0 0 0 0 0 0 0 [])) rfl ?_
    exact ok_init_132 h
  · simp only [if_neg hc4] at h
    refine OEnds.icmpT hm_1 rfl (q := 132) rfl ((flt hc4).2.1) ?_
    show OEnds own_P 1 132 [.val (.ref 1), .val (.int v1), .val (.int v2), .val (.int v1), .unset] [] (c0 :: bk0 (List.replicate 256 0) (List.replicate 256 0) (List.replicate 256 0) (List.replicate 256 0) (List.replicate 256 0) (List.replicate 256 0) (List.replicate 256 0) (List.replicate 64 0) (List.replicate 64 0) (List.replicate 64 0) (List.replicate 64 0) (List.replicate 64 0) (List.replicate 64 0) (List.replicate 64 0) 0 0 0 0 0 0 0 []) _
    exact ok_init_132 h
theorem ok_isResting {o_oSide : List Int32} {o_oPrice : List Int32} {o_oRem : List Int32} {o_oFilled : List Int32} {o_oStatus : List Int32} {o_oStamp : List Int64} {o_oTop : List Int32} {o_restIds : List Int32} {o_fIds : List Int32} {o_fQty : List Int32} {o_fPrice : List Int32} {o_lvlIds : List Int32} {o_lvlR : List Int32} {o_lvlA : List Int32} {o_minAlloc : Int32} {o_topCap : Int32} {o_accepted : Int32} {o_stampCounter : Int64} {o_restN : Int32} {o_fN : Int32} {o_lvlN : Int32} {c0 : ACell} {po : List ACell} {v1 : Int32} {res : Int32} (h : f_isResting o_oStatus o_accepted v1 = some res) : OEnds own_P 8 0 [.val (.ref 1), .val (.int v1)] [] (c0 :: bk0 o_oSide o_oPrice o_oRem o_oFilled o_oStatus o_oStamp o_oTop o_restIds o_fIds o_fQty o_fPrice o_lvlIds o_lvlR o_lvlA o_minAlloc o_topCap o_accepted o_stampCounter o_restN o_fN o_lvlN po) (some (.int res), (c0 :: bk0 o_oSide o_oPrice o_oRem o_oFilled o_oStatus o_oStamp o_oTop o_restIds o_fIds o_fQty o_fPrice o_lvlIds o_lvlR o_lvlA o_minAlloc o_topCap o_accepted o_stampCounter o_restN o_fN o_lvlN po), 0, 0) := by
  unfold f_isResting at h
  refine OEnds.adv hm_8 2 (pc' := 2) (L' := [.val (.ref 1), .val (.int v1)]) (S' := [.int 1, .int v1]) (H' := (c0 :: bk0 o_oSide o_oPrice o_oRem o_oFilled o_oStatus o_oStamp o_oTop o_restIds o_fIds o_fQty o_fPrice o_lvlIds o_lvlR o_lvlA o_minAlloc o_topCap o_accepted o_stampCounter o_restN o_fN o_lvlN po)) rfl ?_
  by_cases hc5 : v1 < (1 : Int32)
  · simp only [if_pos hc5] at h
    refine OEnds.icmpT hm_8 rfl (q := 27) rfl ((tlt hc5).1) ?_
    refine OEnds.adv hm_8 1 (pc' := 28) (L' := [.val (.ref 1), .val (.int v1)]) (S' := [.int 0]) (H' := (c0 :: bk0 o_oSide o_oPrice o_oRem o_oFilled o_oStatus o_oStamp o_oTop o_restIds o_fIds o_fQty o_fPrice o_lvlIds o_lvlR o_lvlA o_minAlloc o_topCap o_accepted o_stampCounter o_restN o_fN o_lvlN po)) rfl ?_
    cases h
    exact OEnds.iret hm_8 rfl rfl
  · simp only [if_neg hc5] at h
    refine OEnds.icmpF hm_8 rfl ((flt hc5).1) ?_
    refine OEnds.adv hm_8 3 (pc' := 10) (L' := [.val (.ref 1), .val (.int v1)]) (S' := [.int o_accepted, .int v1]) (H' := (c0 :: bk0 o_oSide o_oPrice o_oRem o_oFilled o_oStatus o_oStamp o_oTop o_restIds o_fIds o_fQty o_fPrice o_lvlIds o_lvlR o_lvlA o_minAlloc o_topCap o_accepted o_stampCounter o_restN o_fN o_lvlN po)) rfl ?_
    by_cases hc6 : o_accepted < v1
    · simp only [if_pos hc6] at h
      refine OEnds.icmpT hm_8 rfl (q := 27) rfl ((tlt hc6).2.2.1) ?_
      refine OEnds.adv hm_8 1 (pc' := 28) (L' := [.val (.ref 1), .val (.int v1)]) (S' := [.int 0]) (H' := (c0 :: bk0 o_oSide o_oPrice o_oRem o_oFilled o_oStatus o_oStamp o_oTop o_restIds o_fIds o_fQty o_fPrice o_lvlIds o_lvlR o_lvlA o_minAlloc o_topCap o_accepted o_stampCounter o_restN o_fN o_lvlN po)) rfl ?_
      cases h
      exact OEnds.iret hm_8 rfl rfl
    · simp only [if_neg hc6] at h
      refine OEnds.icmpF hm_8 rfl ((flt hc6).2.2.1) ?_
      refine OEnds.adv hm_8 3 (pc' := 18) (L' := [.val (.ref 1), .val (.int v1)]) (S' := [.int v1, .ref 6]) (H' := (c0 :: bk0 o_oSide o_oPrice o_oRem o_oFilled o_oStatus o_oStamp o_oTop o_restIds o_fIds o_fQty o_fPrice o_lvlIds o_lvlR o_lvlA o_minAlloc o_topCap o_accepted o_stampCounter o_restN o_fN o_lvlN po)) rfl ?_
      obtain ⟨x1, hx1, h⟩ := bnd h
      refine OEnds.plain hm_8 rfl rfl (x_iaload rfl hx1) ?_
      refine OEnds.adv hm_8 1 (pc' := 20) (L' := [.val (.ref 1), .val (.int v1)]) (S' := [.int 1, .int x1]) (H' := (c0 :: bk0 o_oSide o_oPrice o_oRem o_oFilled o_oStatus o_oStamp o_oTop o_restIds o_fIds o_fQty o_fPrice o_lvlIds o_lvlR o_lvlA o_minAlloc o_topCap o_accepted o_stampCounter o_restN o_fN o_lvlN po)) rfl ?_
      by_cases hc7 : x1 = (1 : Int32)
      · simp only [if_pos hc7] at h
        refine OEnds.icmpF hm_8 rfl ((teq hc7).2) ?_
        refine OEnds.adv hm_8 2 (pc' := 28) (L' := [.val (.ref 1), .val (.int v1)]) (S' := [.int 1]) (H' := (c0 :: bk0 o_oSide o_oPrice o_oRem o_oFilled o_oStatus o_oStamp o_oTop o_restIds o_fIds o_fQty o_fPrice o_lvlIds o_lvlR o_lvlA o_minAlloc o_topCap o_accepted o_stampCounter o_restN o_fN o_lvlN po)) rfl ?_
        cases h
        exact OEnds.iret hm_8 rfl rfl
      · simp only [if_neg hc7] at h
        refine OEnds.icmpT hm_8 rfl (q := 27) rfl ((feq hc7).2) ?_
        refine OEnds.adv hm_8 1 (pc' := 28) (L' := [.val (.ref 1), .val (.int v1)]) (S' := [.int 0]) (H' := (c0 :: bk0 o_oSide o_oPrice o_oRem o_oFilled o_oStatus o_oStamp o_oTop o_restIds o_fIds o_fQty o_fPrice o_lvlIds o_lvlR o_lvlA o_minAlloc o_topCap o_accepted o_stampCounter o_restN o_fN o_lvlN po)) rfl ?_
        cases h
        exact OEnds.iret hm_8 rfl rfl
theorem ok_removeResting_20 {o_oSide : List Int32} {o_oPrice : List Int32} {o_oRem : List Int32} {o_oFilled : List Int32} {o_oStatus : List Int32} {o_oStamp : List Int64} {o_oTop : List Int32} {o_fIds : List Int32} {o_fQty : List Int32} {o_fPrice : List Int32} {o_lvlIds : List Int32} {o_lvlR : List Int32} {o_lvlA : List Int32} {o_minAlloc : Int32} {o_topCap : Int32} {o_accepted : Int32} {o_stampCounter : Int64} {o_fN : Int32} {o_lvlN : Int32} {c0 : ACell} {po : List ACell} : ∀ {o_restIds : List Int32} {o_restN : Int32} {v2 : Int32} {d1 : Slot} {w_o_restIds : List Int32} {w_o_restN : Int32}, f_removeResting_20 o_restIds o_restN v2 = some (w_o_restIds, w_o_restN) → OEnds own_P 18 20 [.val (.ref 1), d1, .val (.int v2)] [] (c0 :: bk0 o_oSide o_oPrice o_oRem o_oFilled o_oStatus o_oStamp o_oTop o_restIds o_fIds o_fQty o_fPrice o_lvlIds o_lvlR o_lvlA o_minAlloc o_topCap o_accepted o_stampCounter o_restN o_fN o_lvlN po) (none, (c0 :: bk0 o_oSide o_oPrice o_oRem o_oFilled o_oStatus o_oStamp o_oTop w_o_restIds o_fIds o_fQty o_fPrice o_lvlIds o_lvlR o_lvlA o_minAlloc o_topCap o_accepted o_stampCounter w_o_restN o_fN o_lvlN po), 0, 0) := by
  intro o_restIds o_restN v2 d1 w_o_restIds w_o_restN h
  unfold f_removeResting_20 at h
  refine OEnds.adv hm_18 9 (pc' := 35) (L' := [.val (.ref 1), .unset, .val (.int v2)]) (S' := [.int (o_restN - (1 : Int32)), .ref 9, .int v2, .ref 9]) (H' := (c0 :: bk0 o_oSide o_oPrice o_oRem o_oFilled o_oStatus o_oStamp o_oTop o_restIds o_fIds o_fQty o_fPrice o_lvlIds o_lvlR o_lvlA o_minAlloc o_topCap o_accepted o_stampCounter o_restN o_fN o_lvlN po)) rfl ?_
  obtain ⟨x3, hx3, h⟩ := bnd h
  refine OEnds.plain hm_18 rfl rfl (x_iaload rfl hx3) ?_
  show OEnds own_P 18 36 [.val (.ref 1), .unset, .val (.int v2)] [.int x3, .int v2, .ref 9] (c0 :: bk0 o_oSide o_oPrice o_oRem o_oFilled o_oStatus o_oStamp o_oTop o_restIds o_fIds o_fQty o_fPrice o_lvlIds o_lvlR o_lvlA o_minAlloc o_topCap o_accepted o_stampCounter o_restN o_fN o_lvlN po) _
  obtain ⟨A4, hA4, h⟩ := bnd h
  refine OEnds.plain hm_18 rfl rfl (x_iastore rfl (Nat.le_of_ble_eq_true rfl) hA4) ?_
  refine OEnds.adv hm_18 6 (pc' := 47) (L' := [.val (.ref 1), .unset, .val (.int v2)]) (S' := []) (H' := (c0 :: bk0 o_oSide o_oPrice o_oRem o_oFilled o_oStatus o_oStamp o_oTop A4 o_fIds o_fQty o_fPrice o_lvlIds o_lvlR o_lvlA o_minAlloc o_topCap o_accepted o_stampCounter (o_restN - (1 : Int32)) o_fN o_lvlN po)) rfl ?_
  cases h
  exact OEnds.vret hm_18 rfl rfl
theorem ok_removeResting_2 {o_oSide : List Int32} {o_oPrice : List Int32} {o_oRem : List Int32} {o_oFilled : List Int32} {o_oStatus : List Int32} {o_oStamp : List Int64} {o_oTop : List Int32} {o_fIds : List Int32} {o_fQty : List Int32} {o_fPrice : List Int32} {o_lvlIds : List Int32} {o_lvlR : List Int32} {o_lvlA : List Int32} {o_minAlloc : Int32} {o_topCap : Int32} {o_accepted : Int32} {o_stampCounter : Int64} {o_fN : Int32} {o_lvlN : Int32} {c0 : ACell} {po : List ACell} {k20 : List Int32 → Int32 → Int32 → Option (List Int32 × Int32)} (hk20 : ∀ {o_restIds : List Int32} {o_restN : Int32} {v2 : Int32} {d1 : Slot} {w_o_restIds : List Int32} {w_o_restN : Int32}, k20 o_restIds o_restN v2 = some (w_o_restIds, w_o_restN) → OEnds own_P 18 20 [.val (.ref 1), d1, .val (.int v2)] [] (c0 :: bk0 o_oSide o_oPrice o_oRem o_oFilled o_oStatus o_oStamp o_oTop o_restIds o_fIds o_fQty o_fPrice o_lvlIds o_lvlR o_lvlA o_minAlloc o_topCap o_accepted o_stampCounter o_restN o_fN o_lvlN po) (none, (c0 :: bk0 o_oSide o_oPrice o_oRem o_oFilled o_oStatus o_oStamp o_oTop w_o_restIds o_fIds o_fQty o_fPrice o_lvlIds o_lvlR o_lvlA o_minAlloc o_topCap o_accepted o_stampCounter w_o_restN o_fN o_lvlN po), 0, 0)) : ∀ (n : Nat), ∀ {o_restIds : List Int32} {o_restN : Int32} {v1 : Int32} {v2 : Int32} {w_o_restIds : List Int32} {w_o_restN : Int32}, f_removeResting_2 k20 n o_restIds o_restN v1 v2 = some (w_o_restIds, w_o_restN) → OEnds own_P 18 2 [.val (.ref 1), .val (.int v1), .val (.int v2)] [] (c0 :: bk0 o_oSide o_oPrice o_oRem o_oFilled o_oStatus o_oStamp o_oTop o_restIds o_fIds o_fQty o_fPrice o_lvlIds o_lvlR o_lvlA o_minAlloc o_topCap o_accepted o_stampCounter o_restN o_fN o_lvlN po) (none, (c0 :: bk0 o_oSide o_oPrice o_oRem o_oFilled o_oStatus o_oStamp o_oTop w_o_restIds o_fIds o_fQty o_fPrice o_lvlIds o_lvlR o_lvlA o_minAlloc o_topCap o_accepted o_stampCounter w_o_restN o_fN o_lvlN po), 0, 0) := by
  intro n
  induction n with
  | zero => intro o_restIds o_restN v1 v2 w_o_restIds w_o_restN h; cases h
  | succ n ih =>
    intro o_restIds o_restN v1 v2 w_o_restIds w_o_restN h
    unfold f_removeResting_2 at h
    refine OEnds.adv hm_18 3 (pc' := 7) (L' := [.val (.ref 1), .val (.int v1), .val (.int v2)]) (S' := [.int o_restN, .int v2]) (H' := (c0 :: bk0 o_oSide o_oPrice o_oRem o_oFilled o_oStatus o_oStamp o_oTop o_restIds o_fIds o_fQty o_fPrice o_lvlIds o_lvlR o_lvlA o_minAlloc o_topCap o_accepted o_stampCounter o_restN o_fN o_lvlN po)) rfl ?_
    by_cases hc8 : v2 < o_restN
    · simp only [if_pos hc8] at h
      refine OEnds.icmpF hm_18 rfl ((tlt hc8).2.1) ?_
      refine OEnds.adv hm_18 3 (pc' := 15) (L' := [.val (.ref 1), .val (.int v1), .val (.int v2)]) (S' := [.int v2, .ref 9]) (H' := (c0 :: bk0 o_oSide o_oPrice o_oRem o_oFilled o_oStatus o_oStamp o_oTop o_restIds o_fIds o_fQty o_fPrice o_lvlIds o_lvlR o_lvlA o_minAlloc o_topCap o_accepted o_stampCounter o_restN o_fN o_lvlN po)) rfl ?_
      obtain ⟨x2, hx2, h⟩ := bnd h
      refine OEnds.plain hm_18 rfl rfl (x_iaload rfl hx2) ?_
      refine OEnds.adv hm_18 1 (pc' := 17) (L' := [.val (.ref 1), .val (.int v1), .val (.int v2)]) (S' := [.int v1, .int x2]) (H' := (c0 :: bk0 o_oSide o_oPrice o_oRem o_oFilled o_oStatus o_oStamp o_oTop o_restIds o_fIds o_fQty o_fPrice o_lvlIds o_lvlR o_lvlA o_minAlloc o_topCap o_accepted o_stampCounter o_restN o_fN o_lvlN po)) rfl ?_
      by_cases hc9 : x2 = v1
      · simp only [if_pos hc9] at h
        refine OEnds.icmpF hm_18 rfl ((teq hc9).2) ?_
        show OEnds own_P 18 20 [.val (.ref 1), .val (.int v1), .val (.int v2)] [] (c0 :: bk0 o_oSide o_oPrice o_oRem o_oFilled o_oStatus o_oStamp o_oTop o_restIds o_fIds o_fQty o_fPrice o_lvlIds o_lvlR o_lvlA o_minAlloc o_topCap o_accepted o_stampCounter o_restN o_fN o_lvlN po) _
        exact hk20 h
      · simp only [if_neg hc9] at h
        refine OEnds.icmpT hm_18 rfl (q := 48) rfl ((feq hc9).2) ?_
        refine OEnds.adv hm_18 2 (pc' := 2) (L' := [.val (.ref 1), .val (.int v1), .val (.int (v2 + (1 : Int32)))]) (S' := []) (H' := (c0 :: bk0 o_oSide o_oPrice o_oRem o_oFilled o_oStatus o_oStamp o_oTop o_restIds o_fIds o_fQty o_fPrice o_lvlIds o_lvlR o_lvlA o_minAlloc o_topCap o_accepted o_stampCounter o_restN o_fN o_lvlN po)) rfl ?_
        exact ih h
    · simp only [if_neg hc8] at h
      refine OEnds.icmpT hm_18 rfl (q := 54) rfl ((flt hc8).2.1) ?_
      show OEnds own_P 18 54 [.val (.ref 1), .val (.int v1), .val (.int v2)] [] (c0 :: bk0 o_oSide o_oPrice o_oRem o_oFilled o_oStatus o_oStamp o_oTop o_restIds o_fIds o_fQty o_fPrice o_lvlIds o_lvlR o_lvlA o_minAlloc o_topCap o_accepted o_stampCounter o_restN o_fN o_lvlN po) _
      cases h
      exact OEnds.vret hm_18 rfl rfl
theorem ok_removeResting {o_oSide : List Int32} {o_oPrice : List Int32} {o_oRem : List Int32} {o_oFilled : List Int32} {o_oStatus : List Int32} {o_oStamp : List Int64} {o_oTop : List Int32} {o_fIds : List Int32} {o_fQty : List Int32} {o_fPrice : List Int32} {o_lvlIds : List Int32} {o_lvlR : List Int32} {o_lvlA : List Int32} {o_minAlloc : Int32} {o_topCap : Int32} {o_accepted : Int32} {o_stampCounter : Int64} {o_fN : Int32} {o_lvlN : Int32} {c0 : ACell} {po : List ACell} {o_restIds : List Int32} {o_restN : Int32} {v1 : Int32} {w_o_restIds : List Int32} {w_o_restN : Int32} (h : f_removeResting o_restIds o_restN v1 = some (w_o_restIds, w_o_restN)) : OEnds own_P 18 0 [.val (.ref 1), .val (.int v1), .unset] [] (c0 :: bk0 o_oSide o_oPrice o_oRem o_oFilled o_oStatus o_oStamp o_oTop o_restIds o_fIds o_fQty o_fPrice o_lvlIds o_lvlR o_lvlA o_minAlloc o_topCap o_accepted o_stampCounter o_restN o_fN o_lvlN po) (none, (c0 :: bk0 o_oSide o_oPrice o_oRem o_oFilled o_oStatus o_oStamp o_oTop w_o_restIds o_fIds o_fQty o_fPrice o_lvlIds o_lvlR o_lvlA o_minAlloc o_topCap o_accepted o_stampCounter w_o_restN o_fN o_lvlN po), 0, 0) := by
  unfold f_removeResting at h
  refine OEnds.adv hm_18 2 (pc' := 2) (L' := [.val (.ref 1), .val (.int v1), .val (.int 0)]) (S' := []) (H' := (c0 :: bk0 o_oSide o_oPrice o_oRem o_oFilled o_oStatus o_oStamp o_oTop o_restIds o_fIds o_fQty o_fPrice o_lvlIds o_lvlR o_lvlA o_minAlloc o_topCap o_accepted o_stampCounter o_restN o_fN o_lvlN po)) rfl ?_
  exact ok_removeResting_2 (k20 := f_removeResting_20) ok_removeResting_20 100000 h
theorem ok_cancel {o_oSide : List Int32} {o_oPrice : List Int32} {o_oFilled : List Int32} {o_oStamp : List Int64} {o_fIds : List Int32} {o_fQty : List Int32} {o_fPrice : List Int32} {o_lvlIds : List Int32} {o_lvlR : List Int32} {o_lvlA : List Int32} {o_minAlloc : Int32} {o_topCap : Int32} {o_accepted : Int32} {o_stampCounter : Int64} {o_fN : Int32} {o_lvlN : Int32} {c0 : ACell} {po : List ACell} {o_oRem : List Int32} {o_oStatus : List Int32} {o_oTop : List Int32} {o_restIds : List Int32} {o_restN : Int32} {v1 : Int32} {res : Int32} {w_o_oRem : List Int32} {w_o_oStatus : List Int32} {w_o_oTop : List Int32} {w_o_restIds : List Int32} {w_o_restN : Int32} (h : f_cancel o_accepted o_oRem o_oStatus o_oTop o_restIds o_restN v1 = some (res, w_o_oRem, w_o_oStatus, w_o_oTop, w_o_restIds, w_o_restN)) : OEnds own_P 14 0 [.val (.ref 1), .val (.int v1)] [] (c0 :: bk0 o_oSide o_oPrice o_oRem o_oFilled o_oStatus o_oStamp o_oTop o_restIds o_fIds o_fQty o_fPrice o_lvlIds o_lvlR o_lvlA o_minAlloc o_topCap o_accepted o_stampCounter o_restN o_fN o_lvlN po) (some (.int res), (c0 :: bk0 o_oSide o_oPrice w_o_oRem o_oFilled w_o_oStatus o_oStamp w_o_oTop w_o_restIds o_fIds o_fQty o_fPrice o_lvlIds o_lvlR o_lvlA o_minAlloc o_topCap o_accepted o_stampCounter w_o_restN o_fN o_lvlN po), 0, 0) := by
  unfold f_cancel at h
  refine OEnds.adv hm_14 2 (pc' := 2) (L' := [.val (.ref 1), .val (.int v1)]) (S' := [.int v1, .ref 1]) (H' := (c0 :: bk0 o_oSide o_oPrice o_oRem o_oFilled o_oStatus o_oStamp o_oTop o_restIds o_fIds o_fQty o_fPrice o_lvlIds o_lvlR o_lvlA o_minAlloc o_topCap o_accepted o_stampCounter o_restN o_fN o_lvlN po)) rfl ?_
  obtain ⟨r5, hq10, h⟩ := bnd h
  refine OEnds.call0 hm_14 rfl rfl (by decide) rfl (as := [.ref 1, .int v1]) (rest := []) rfl rfl (ok_isResting hq10) ?_
  show OEnds own_P 14 5 [.val (.ref 1), .val (.int v1)] [.int r5] (c0 :: bk0 o_oSide o_oPrice o_oRem o_oFilled o_oStatus o_oStamp o_oTop o_restIds o_fIds o_fQty o_fPrice o_lvlIds o_lvlR o_lvlA o_minAlloc o_topCap o_accepted o_stampCounter o_restN o_fN o_lvlN po) _
  by_cases hc11 : r5 = (0 : Int32)
  · simp only [if_pos hc11] at h
    refine OEnds.ifF hm_14 rfl ((teq hc11).2) ?_
    refine OEnds.adv hm_14 1 (pc' := 10) (L' := [.val (.ref 1), .val (.int v1)]) (S' := [.int (-6)]) (H' := (c0 :: bk0 o_oSide o_oPrice o_oRem o_oFilled o_oStatus o_oStamp o_oTop o_restIds o_fIds o_fQty o_fPrice o_lvlIds o_lvlR o_lvlA o_minAlloc o_topCap o_accepted o_stampCounter o_restN o_fN o_lvlN po)) rfl ?_
    cases h
    exact OEnds.iret hm_14 rfl rfl
  · simp only [if_neg hc11] at h
    refine OEnds.ifT hm_14 rfl (q := 11) rfl ((feq hc11).2) ?_
    refine OEnds.adv hm_14 4 (pc' := 17) (L' := [.val (.ref 1), .val (.int v1)]) (S' := [.int 3, .int v1, .ref 6]) (H' := (c0 :: bk0 o_oSide o_oPrice o_oRem o_oFilled o_oStatus o_oStamp o_oTop o_restIds o_fIds o_fQty o_fPrice o_lvlIds o_lvlR o_lvlA o_minAlloc o_topCap o_accepted o_stampCounter o_restN o_fN o_lvlN po)) rfl ?_
    obtain ⟨A6, hA6, h⟩ := bnd h
    refine OEnds.plain hm_14 rfl rfl (x_iastore rfl (Nat.le_of_ble_eq_true rfl) hA6) ?_
    refine OEnds.adv hm_14 4 (pc' := 24) (L' := [.val (.ref 1), .val (.int v1)]) (S' := [.int 0, .int v1, .ref 4]) (H' := (c0 :: bk0 o_oSide o_oPrice o_oRem o_oFilled A6 o_oStamp o_oTop o_restIds o_fIds o_fQty o_fPrice o_lvlIds o_lvlR o_lvlA o_minAlloc o_topCap o_accepted o_stampCounter o_restN o_fN o_lvlN po)) rfl ?_
    obtain ⟨A7, hA7, h⟩ := bnd h
    refine OEnds.plain hm_14 rfl rfl (x_iastore rfl (Nat.le_of_ble_eq_true rfl) hA7) ?_
    refine OEnds.adv hm_14 4 (pc' := 31) (L' := [.val (.ref 1), .val (.int v1)]) (S' := [.int 0, .int v1, .ref 8]) (H' := (c0 :: bk0 o_oSide o_oPrice A7 o_oFilled A6 o_oStamp o_oTop o_restIds o_fIds o_fQty o_fPrice o_lvlIds o_lvlR o_lvlA o_minAlloc o_topCap o_accepted o_stampCounter o_restN o_fN o_lvlN po)) rfl ?_
    obtain ⟨A8, hA8, h⟩ := bnd h
    refine OEnds.plain hm_14 rfl rfl (x_bastore rfl (Nat.le_of_ble_eq_true rfl) hA8) ?_
    refine OEnds.adv hm_14 2 (pc' := 34) (L' := [.val (.ref 1), .val (.int v1)]) (S' := [.int v1, .ref 1]) (H' := (c0 :: bk0 o_oSide o_oPrice A7 o_oFilled A6 o_oStamp A8 o_restIds o_fIds o_fQty o_fPrice o_lvlIds o_lvlR o_lvlA o_minAlloc o_topCap o_accepted o_stampCounter o_restN o_fN o_lvlN po)) rfl ?_
    obtain ⟨⟨s9, s10⟩, hq12, h⟩ := bnd h
    refine OEnds.call0 hm_14 rfl rfl (by decide) rfl (as := [.ref 1, .int v1]) (rest := []) rfl rfl (ok_removeResting hq12) ?_
    refine OEnds.adv hm_14 1 (pc' := 38) (L' := [.val (.ref 1), .val (.int v1)]) (S' := [.int 0]) (H' := (c0 :: bk0 o_oSide o_oPrice A7 o_oFilled A6 o_oStamp A8 s9 o_fIds o_fQty o_fPrice o_lvlIds o_lvlR o_lvlA o_minAlloc o_topCap o_accepted o_stampCounter s10 o_fN o_lvlN po)) rfl ?_
    cases h
    exact OEnds.iret hm_14 rfl rfl
theorem ok_amend {o_oSide : List Int32} {o_oPrice : List Int32} {o_oFilled : List Int32} {o_oStatus : List Int32} {o_restIds : List Int32} {o_fIds : List Int32} {o_fQty : List Int32} {o_fPrice : List Int32} {o_lvlIds : List Int32} {o_lvlR : List Int32} {o_lvlA : List Int32} {o_minAlloc : Int32} {o_topCap : Int32} {o_accepted : Int32} {o_restN : Int32} {o_fN : Int32} {o_lvlN : Int32} {c0 : ACell} {po : List ACell} {o_oRem : List Int32} {o_oStamp : List Int64} {o_oTop : List Int32} {o_stampCounter : Int64} {v1 : Int32} {v2 : Int32} {res : Int32} {w_o_oRem : List Int32} {w_o_oStamp : List Int64} {w_o_oTop : List Int32} {w_o_stampCounter : Int64} (h : f_amend o_oStatus o_accepted o_oRem o_oStamp o_oTop o_stampCounter v1 v2 = some (res, w_o_oRem, w_o_oStamp, w_o_oTop, w_o_stampCounter)) : OEnds own_P 13 0 [.val (.ref 1), .val (.int v1), .val (.int v2)] [] (c0 :: bk0 o_oSide o_oPrice o_oRem o_oFilled o_oStatus o_oStamp o_oTop o_restIds o_fIds o_fQty o_fPrice o_lvlIds o_lvlR o_lvlA o_minAlloc o_topCap o_accepted o_stampCounter o_restN o_fN o_lvlN po) (some (.int res), (c0 :: bk0 o_oSide o_oPrice w_o_oRem o_oFilled o_oStatus w_o_oStamp w_o_oTop o_restIds o_fIds o_fQty o_fPrice o_lvlIds o_lvlR o_lvlA o_minAlloc o_topCap o_accepted w_o_stampCounter o_restN o_fN o_lvlN po), 0, 0) := by
  unfold f_amend at h
  refine OEnds.adv hm_13 2 (pc' := 2) (L' := [.val (.ref 1), .val (.int v1), .val (.int v2)]) (S' := [.int v1, .ref 1]) (H' := (c0 :: bk0 o_oSide o_oPrice o_oRem o_oFilled o_oStatus o_oStamp o_oTop o_restIds o_fIds o_fQty o_fPrice o_lvlIds o_lvlR o_lvlA o_minAlloc o_topCap o_accepted o_stampCounter o_restN o_fN o_lvlN po)) rfl ?_
  obtain ⟨r11, hq13, h⟩ := bnd h
  refine OEnds.call0 hm_13 rfl rfl (by decide) rfl (as := [.ref 1, .int v1]) (rest := []) rfl rfl (ok_isResting hq13) ?_
  show OEnds own_P 13 5 [.val (.ref 1), .val (.int v1), .val (.int v2)] [.int r11] (c0 :: bk0 o_oSide o_oPrice o_oRem o_oFilled o_oStatus o_oStamp o_oTop o_restIds o_fIds o_fQty o_fPrice o_lvlIds o_lvlR o_lvlA o_minAlloc o_topCap o_accepted o_stampCounter o_restN o_fN o_lvlN po) _
  by_cases hc14 : r11 = (0 : Int32)
  · simp only [if_pos hc14] at h
    refine OEnds.ifF hm_13 rfl ((teq hc14).2) ?_
    refine OEnds.adv hm_13 1 (pc' := 10) (L' := [.val (.ref 1), .val (.int v1), .val (.int v2)]) (S' := [.int (-6)]) (H' := (c0 :: bk0 o_oSide o_oPrice o_oRem o_oFilled o_oStatus o_oStamp o_oTop o_restIds o_fIds o_fQty o_fPrice o_lvlIds o_lvlR o_lvlA o_minAlloc o_topCap o_accepted o_stampCounter o_restN o_fN o_lvlN po)) rfl ?_
    cases h
    exact OEnds.iret hm_13 rfl rfl
  · simp only [if_neg hc14] at h
    refine OEnds.ifT hm_13 rfl (q := 11) rfl ((feq hc14).2) ?_
    refine OEnds.adv hm_13 2 (pc' := 13) (L' := [.val (.ref 1), .val (.int v1), .val (.int v2)]) (S' := [.int 1, .int v2]) (H' := (c0 :: bk0 o_oSide o_oPrice o_oRem o_oFilled o_oStatus o_oStamp o_oTop o_restIds o_fIds o_fQty o_fPrice o_lvlIds o_lvlR o_lvlA o_minAlloc o_topCap o_accepted o_stampCounter o_restN o_fN o_lvlN po)) rfl ?_
    by_cases hc15 : v2 < (1 : Int32)
    · simp only [if_pos hc15] at h
      refine OEnds.icmpT hm_13 rfl (q := 23) rfl ((tlt hc15).1) ?_
      refine OEnds.adv hm_13 1 (pc' := 25) (L' := [.val (.ref 1), .val (.int v1), .val (.int v2)]) (S' := [.int (-3)]) (H' := (c0 :: bk0 o_oSide o_oPrice o_oRem o_oFilled o_oStatus o_oStamp o_oTop o_restIds o_fIds o_fQty o_fPrice o_lvlIds o_lvlR o_lvlA o_minAlloc o_topCap o_accepted o_stampCounter o_restN o_fN o_lvlN po)) rfl ?_
      cases h
      exact OEnds.iret hm_13 rfl rfl
    · simp only [if_neg hc15] at h
      refine OEnds.icmpF hm_13 rfl ((flt hc15).1) ?_
      refine OEnds.adv hm_13 2 (pc' := 20) (L' := [.val (.ref 1), .val (.int v1), .val (.int v2)]) (S' := [.int 10000, .int v2]) (H' := (c0 :: bk0 o_oSide o_oPrice o_oRem o_oFilled o_oStatus o_oStamp o_oTop o_restIds o_fIds o_fQty o_fPrice o_lvlIds o_lvlR o_lvlA o_minAlloc o_topCap o_accepted o_stampCounter o_restN o_fN o_lvlN po)) rfl ?_
      by_cases hc16 : (10000 : Int32) < v2
      · simp only [if_pos hc16] at h
        refine OEnds.icmpF hm_13 rfl ((tlt hc16).2.2.2) ?_
        refine OEnds.adv hm_13 1 (pc' := 25) (L' := [.val (.ref 1), .val (.int v1), .val (.int v2)]) (S' := [.int (-3)]) (H' := (c0 :: bk0 o_oSide o_oPrice o_oRem o_oFilled o_oStatus o_oStamp o_oTop o_restIds o_fIds o_fQty o_fPrice o_lvlIds o_lvlR o_lvlA o_minAlloc o_topCap o_accepted o_stampCounter o_restN o_fN o_lvlN po)) rfl ?_
        cases h
        exact OEnds.iret hm_13 rfl rfl
      · simp only [if_neg hc16] at h
        refine OEnds.icmpT hm_13 rfl (q := 26) rfl ((flt hc16).2.2.2) ?_
        refine OEnds.adv hm_13 4 (pc' := 32) (L' := [.val (.ref 1), .val (.int v1), .val (.int v2)]) (S' := [.int v1, .ref 4, .int v2]) (H' := (c0 :: bk0 o_oSide o_oPrice o_oRem o_oFilled o_oStatus o_oStamp o_oTop o_restIds o_fIds o_fQty o_fPrice o_lvlIds o_lvlR o_lvlA o_minAlloc o_topCap o_accepted o_stampCounter o_restN o_fN o_lvlN po)) rfl ?_
        obtain ⟨x12, hx12, h⟩ := bnd h
        refine OEnds.plain hm_13 rfl rfl (x_iaload rfl hx12) ?_
        show OEnds own_P 13 33 [.val (.ref 1), .val (.int v1), .val (.int v2)] [.int x12, .int v2] (c0 :: bk0 o_oSide o_oPrice o_oRem o_oFilled o_oStatus o_oStamp o_oTop o_restIds o_fIds o_fQty o_fPrice o_lvlIds o_lvlR o_lvlA o_minAlloc o_topCap o_accepted o_stampCounter o_restN o_fN o_lvlN po) _
        by_cases hc17 : v2 < x12
        · simp only [if_pos hc17] at h
          refine OEnds.icmpF hm_13 rfl ((tlt hc17).2.1) ?_
          refine OEnds.adv hm_13 4 (pc' := 42) (L' := [.val (.ref 1), .val (.int v1), .val (.int v2)]) (S' := [.int v2, .int v1, .ref 4]) (H' := (c0 :: bk0 o_oSide o_oPrice o_oRem o_oFilled o_oStatus o_oStamp o_oTop o_restIds o_fIds o_fQty o_fPrice o_lvlIds o_lvlR o_lvlA o_minAlloc o_topCap o_accepted o_stampCounter o_restN o_fN o_lvlN po)) rfl ?_
          obtain ⟨A17, hA17, h⟩ := bnd h
          refine OEnds.plain hm_13 rfl rfl (x_iastore rfl (Nat.le_of_ble_eq_true rfl) hA17) ?_
          refine OEnds.adv hm_13 2 (pc' := 91) (L' := [.val (.ref 1), .val (.int v1), .val (.int v2)]) (S' := [.int 0]) (H' := (c0 :: bk0 o_oSide o_oPrice A17 o_oFilled o_oStatus o_oStamp o_oTop o_restIds o_fIds o_fQty o_fPrice o_lvlIds o_lvlR o_lvlA o_minAlloc o_topCap o_accepted o_stampCounter o_restN o_fN o_lvlN po)) rfl ?_
          cases h
          exact OEnds.iret hm_13 rfl rfl
        · simp only [if_neg hc17] at h
          refine OEnds.icmpT hm_13 rfl (q := 46) rfl ((flt hc17).2.1) ?_
          refine OEnds.adv hm_13 4 (pc' := 52) (L' := [.val (.ref 1), .val (.int v1), .val (.int v2)]) (S' := [.int v1, .ref 4, .int v2]) (H' := (c0 :: bk0 o_oSide o_oPrice o_oRem o_oFilled o_oStatus o_oStamp o_oTop o_restIds o_fIds o_fQty o_fPrice o_lvlIds o_lvlR o_lvlA o_minAlloc o_topCap o_accepted o_stampCounter o_restN o_fN o_lvlN po)) rfl ?_
          obtain ⟨x13, hx13, h⟩ := bnd h
          refine OEnds.plain hm_13 rfl rfl (x_iaload rfl hx13) ?_
          show OEnds own_P 13 53 [.val (.ref 1), .val (.int v1), .val (.int v2)] [.int x13, .int v2] (c0 :: bk0 o_oSide o_oPrice o_oRem o_oFilled o_oStatus o_oStamp o_oTop o_restIds o_fIds o_fQty o_fPrice o_lvlIds o_lvlR o_lvlA o_minAlloc o_topCap o_accepted o_stampCounter o_restN o_fN o_lvlN po) _
          by_cases hc18 : x13 < v2
          · simp only [if_pos hc18] at h
            refine OEnds.icmpF hm_13 rfl ((tlt hc18).2.2.2) ?_
            refine OEnds.adv hm_13 4 (pc' := 62) (L' := [.val (.ref 1), .val (.int v1), .val (.int v2)]) (S' := [.int v2, .int v1, .ref 4]) (H' := (c0 :: bk0 o_oSide o_oPrice o_oRem o_oFilled o_oStatus o_oStamp o_oTop o_restIds o_fIds o_fQty o_fPrice o_lvlIds o_lvlR o_lvlA o_minAlloc o_topCap o_accepted o_stampCounter o_restN o_fN o_lvlN po)) rfl ?_
            obtain ⟨A14, hA14, h⟩ := bnd h
            refine OEnds.plain hm_13 rfl rfl (x_iastore rfl (Nat.le_of_ble_eq_true rfl) hA14) ?_
            refine OEnds.adv hm_13 11 (pc' := 82) (L' := [.val (.ref 1), .val (.int v1), .val (.int v2)]) (S' := [.long (o_stampCounter + (1 : Int64)), .int v1, .ref 7]) (H' := (c0 :: bk0 o_oSide o_oPrice A14 o_oFilled o_oStatus o_oStamp o_oTop o_restIds o_fIds o_fQty o_fPrice o_lvlIds o_lvlR o_lvlA o_minAlloc o_topCap o_accepted (o_stampCounter + (1 : Int64)) o_restN o_fN o_lvlN po)) rfl ?_
            obtain ⟨A15, hA15, h⟩ := bnd h
            refine OEnds.plain hm_13 rfl rfl (x_lastore rfl (Nat.le_of_ble_eq_true rfl) hA15) ?_
            refine OEnds.adv hm_13 4 (pc' := 89) (L' := [.val (.ref 1), .val (.int v1), .val (.int v2)]) (S' := [.int 0, .int v1, .ref 8]) (H' := (c0 :: bk0 o_oSide o_oPrice A14 o_oFilled o_oStatus A15 o_oTop o_restIds o_fIds o_fQty o_fPrice o_lvlIds o_lvlR o_lvlA o_minAlloc o_topCap o_accepted (o_stampCounter + (1 : Int64)) o_restN o_fN o_lvlN po)) rfl ?_
            obtain ⟨A16, hA16, h⟩ := bnd h
            refine OEnds.plain hm_13 rfl rfl (x_bastore rfl (Nat.le_of_ble_eq_true rfl) hA16) ?_
            refine OEnds.adv hm_13 1 (pc' := 91) (L' := [.val (.ref 1), .val (.int v1), .val (.int v2)]) (S' := [.int 0]) (H' := (c0 :: bk0 o_oSide o_oPrice A14 o_oFilled o_oStatus A15 A16 o_restIds o_fIds o_fQty o_fPrice o_lvlIds o_lvlR o_lvlA o_minAlloc o_topCap o_accepted (o_stampCounter + (1 : Int64)) o_restN o_fN o_lvlN po)) rfl ?_
            cases h
            exact OEnds.iret hm_13 rfl rfl
          · simp only [if_neg hc18] at h
            refine OEnds.icmpT hm_13 rfl (q := 90) rfl ((flt hc18).2.2.2) ?_
            refine OEnds.adv hm_13 1 (pc' := 91) (L' := [.val (.ref 1), .val (.int v1), .val (.int v2)]) (S' := [.int 0]) (H' := (c0 :: bk0 o_oSide o_oPrice o_oRem o_oFilled o_oStatus o_oStamp o_oTop o_restIds o_fIds o_fQty o_fPrice o_lvlIds o_lvlR o_lvlA o_minAlloc o_topCap o_accepted o_stampCounter o_restN o_fN o_lvlN po)) rfl ?_
            cases h
            exact OEnds.iret hm_13 rfl rfl
theorem ok_better {o_oSide : List Int32} {o_oPrice : List Int32} {o_oRem : List Int32} {o_oFilled : List Int32} {o_oStatus : List Int32} {o_oStamp : List Int64} {o_oTop : List Int32} {o_restIds : List Int32} {o_fIds : List Int32} {o_fQty : List Int32} {o_fPrice : List Int32} {o_lvlIds : List Int32} {o_lvlR : List Int32} {o_lvlA : List Int32} {o_minAlloc : Int32} {o_topCap : Int32} {o_accepted : Int32} {o_stampCounter : Int64} {o_restN : Int32} {o_fN : Int32} {o_lvlN : Int32} {c0 : ACell} {po : List ACell} {v1 : Int32} {v2 : Int32} {v3 : Int32} {res : Int32} (h : f_better v1 v2 v3 = some res) : OEnds own_P 20 0 [.val (.ref 1), .val (.int v1), .val (.int v2), .val (.int v3)] [] (c0 :: bk0 o_oSide o_oPrice o_oRem o_oFilled o_oStatus o_oStamp o_oTop o_restIds o_fIds o_fQty o_fPrice o_lvlIds o_lvlR o_lvlA o_minAlloc o_topCap o_accepted o_stampCounter o_restN o_fN o_lvlN po) (some (.int res), (c0 :: bk0 o_oSide o_oPrice o_oRem o_oFilled o_oStatus o_oStamp o_oTop o_restIds o_fIds o_fQty o_fPrice o_lvlIds o_lvlR o_lvlA o_minAlloc o_topCap o_accepted o_stampCounter o_restN o_fN o_lvlN po), 0, 0) := by
  unfold f_better at h
  refine OEnds.adv hm_20 1 (pc' := 1) (L' := [.val (.ref 1), .val (.int v1), .val (.int v2), .val (.int v3)]) (S' := [.int v1]) (H' := (c0 :: bk0 o_oSide o_oPrice o_oRem o_oFilled o_oStatus o_oStamp o_oTop o_restIds o_fIds o_fQty o_fPrice o_lvlIds o_lvlR o_lvlA o_minAlloc o_topCap o_accepted o_stampCounter o_restN o_fN o_lvlN po)) rfl ?_
  by_cases hc19 : v1 = (0 : Int32)
  · simp only [if_pos hc19] at h
    refine OEnds.ifF hm_20 rfl ((teq hc19).2) ?_
    refine OEnds.adv hm_20 2 (pc' := 6) (L' := [.val (.ref 1), .val (.int v1), .val (.int v2), .val (.int v3)]) (S' := [.int v3, .int v2]) (H' := (c0 :: bk0 o_oSide o_oPrice o_oRem o_oFilled o_oStatus o_oStamp o_oTop o_restIds o_fIds o_fQty o_fPrice o_lvlIds o_lvlR o_lvlA o_minAlloc o_topCap o_accepted o_stampCounter o_restN o_fN o_lvlN po)) rfl ?_
    by_cases hc20 : v3 < v2
    · simp only [if_pos hc20] at h
      refine OEnds.icmpF hm_20 rfl ((tlt hc20).2.2.2) ?_
      refine OEnds.adv hm_20 2 (pc' := 14) (L' := [.val (.ref 1), .val (.int v1), .val (.int v2), .val (.int v3)]) (S' := [.int 1]) (H' := (c0 :: bk0 o_oSide o_oPrice o_oRem o_oFilled o_oStatus o_oStamp o_oTop o_restIds o_fIds o_fQty o_fPrice o_lvlIds o_lvlR o_lvlA o_minAlloc o_topCap o_accepted o_stampCounter o_restN o_fN o_lvlN po)) rfl ?_
      cases h
      exact OEnds.iret hm_20 rfl rfl
    · simp only [if_neg hc20] at h
      refine OEnds.icmpT hm_20 rfl (q := 13) rfl ((flt hc20).2.2.2) ?_
      refine OEnds.adv hm_20 1 (pc' := 14) (L' := [.val (.ref 1), .val (.int v1), .val (.int v2), .val (.int v3)]) (S' := [.int 0]) (H' := (c0 :: bk0 o_oSide o_oPrice o_oRem o_oFilled o_oStatus o_oStamp o_oTop o_restIds o_fIds o_fQty o_fPrice o_lvlIds o_lvlR o_lvlA o_minAlloc o_topCap o_accepted o_stampCounter o_restN o_fN o_lvlN po)) rfl ?_
      cases h
      exact OEnds.iret hm_20 rfl rfl
  · simp only [if_neg hc19] at h
    refine OEnds.ifT hm_20 rfl (q := 15) rfl ((feq hc19).2) ?_
    refine OEnds.adv hm_20 2 (pc' := 17) (L' := [.val (.ref 1), .val (.int v1), .val (.int v2), .val (.int v3)]) (S' := [.int v3, .int v2]) (H' := (c0 :: bk0 o_oSide o_oPrice o_oRem o_oFilled o_oStatus o_oStamp o_oTop o_restIds o_fIds o_fQty o_fPrice o_lvlIds o_lvlR o_lvlA o_minAlloc o_topCap o_accepted o_stampCounter o_restN o_fN o_lvlN po)) rfl ?_
    by_cases hc21 : v2 < v3
    · simp only [if_pos hc21] at h
      refine OEnds.icmpF hm_20 rfl ((tlt hc21).2.1) ?_
      refine OEnds.adv hm_20 2 (pc' := 25) (L' := [.val (.ref 1), .val (.int v1), .val (.int v2), .val (.int v3)]) (S' := [.int 1]) (H' := (c0 :: bk0 o_oSide o_oPrice o_oRem o_oFilled o_oStatus o_oStamp o_oTop o_restIds o_fIds o_fQty o_fPrice o_lvlIds o_lvlR o_lvlA o_minAlloc o_topCap o_accepted o_stampCounter o_restN o_fN o_lvlN po)) rfl ?_
      cases h
      exact OEnds.iret hm_20 rfl rfl
    · simp only [if_neg hc21] at h
      refine OEnds.icmpT hm_20 rfl (q := 24) rfl ((flt hc21).2.1) ?_
      refine OEnds.adv hm_20 1 (pc' := 25) (L' := [.val (.ref 1), .val (.int v1), .val (.int v2), .val (.int v3)]) (S' := [.int 0]) (H' := (c0 :: bk0 o_oSide o_oPrice o_oRem o_oFilled o_oStatus o_oStamp o_oTop o_restIds o_fIds o_fQty o_fPrice o_lvlIds o_lvlR o_lvlA o_minAlloc o_topCap o_accepted o_stampCounter o_restN o_fN o_lvlN po)) rfl ?_
      cases h
      exact OEnds.iret hm_20 rfl rfl
theorem ok_bestOf_4 {o_oSide : List Int32} {o_oPrice : List Int32} {o_oRem : List Int32} {o_oFilled : List Int32} {o_oStatus : List Int32} {o_oStamp : List Int64} {o_oTop : List Int32} {o_restIds : List Int32} {o_fIds : List Int32} {o_fQty : List Int32} {o_fPrice : List Int32} {o_lvlIds : List Int32} {o_lvlR : List Int32} {o_lvlA : List Int32} {o_minAlloc : Int32} {o_topCap : Int32} {o_accepted : Int32} {o_stampCounter : Int64} {o_restN : Int32} {o_fN : Int32} {o_lvlN : Int32} {c0 : ACell} {po : List ACell} : ∀ (n : Nat), ∀ {v1 : Int32} {v2 : Int32} {v3 : Int32} {d4 d5 : Slot} {res : Int32}, f_bestOf_4 o_oSide o_oPrice o_restIds o_restN n v1 v2 v3 = some res → OEnds own_P 5 4 [.val (.ref 1), .val (.int v1), .val (.int v2), .val (.int v3), d4, d5] [] (c0 :: bk0 o_oSide o_oPrice o_oRem o_oFilled o_oStatus o_oStamp o_oTop o_restIds o_fIds o_fQty o_fPrice o_lvlIds o_lvlR o_lvlA o_minAlloc o_topCap o_accepted o_stampCounter o_restN o_fN o_lvlN po) (some (.int res), (c0 :: bk0 o_oSide o_oPrice o_oRem o_oFilled o_oStatus o_oStamp o_oTop o_restIds o_fIds o_fQty o_fPrice o_lvlIds o_lvlR o_lvlA o_minAlloc o_topCap o_accepted o_stampCounter o_restN o_fN o_lvlN po), 0, 0) := by
  intro n
  induction n with
  | zero => intro v1 v2 v3 d4 d5 res h; cases h
  | succ n ih =>
    intro v1 v2 v3 d4 d5 res h
    unfold f_bestOf_4 at h
    refine OEnds.adv hm_5 3 (pc' := 9) (L' := [.val (.ref 1), .val (.int v1), .val (.int v2), .val (.int v3), .unset, .unset]) (S' := [.int o_restN, .int v3]) (H' := (c0 :: bk0 o_oSide o_oPrice o_oRem o_oFilled o_oStatus o_oStamp o_oTop o_restIds o_fIds o_fQty o_fPrice o_lvlIds o_lvlR o_lvlA o_minAlloc o_topCap o_accepted o_stampCounter o_restN o_fN o_lvlN po)) rfl ?_
    by_cases hc22 : v3 < o_restN
    · simp only [if_pos hc22] at h
      refine OEnds.icmpF hm_5 rfl ((tlt hc22).2.1) ?_
      refine OEnds.adv hm_5 3 (pc' := 17) (L' := [.val (.ref 1), .val (.int v1), .val (.int v2), .val (.int v3), .unset, .unset]) (S' := [.int v3, .ref 9]) (H' := (c0 :: bk0 o_oSide o_oPrice o_oRem o_oFilled o_oStatus o_oStamp o_oTop o_restIds o_fIds o_fQty o_fPrice o_lvlIds o_lvlR o_lvlA o_minAlloc o_topCap o_accepted o_stampCounter o_restN o_fN o_lvlN po)) rfl ?_
      obtain ⟨x18, hx18, h⟩ := bnd h
      refine OEnds.plain hm_5 rfl rfl (x_iaload rfl hx18) ?_
      refine OEnds.adv hm_5 4 (pc' := 26) (L' := [.val (.ref 1), .val (.int v1), .val (.int v2), .val (.int v3), .val (.int x18), .unset]) (S' := [.int x18, .ref 2]) (H' := (c0 :: bk0 o_oSide o_oPrice o_oRem o_oFilled o_oStatus o_oStamp o_oTop o_restIds o_fIds o_fQty o_fPrice o_lvlIds o_lvlR o_lvlA o_minAlloc o_topCap o_accepted o_stampCounter o_restN o_fN o_lvlN po)) rfl ?_
      obtain ⟨x19, hx19, h⟩ := bnd h
      refine OEnds.plain hm_5 rfl rfl (x_iaload rfl hx19) ?_
      refine OEnds.adv hm_5 1 (pc' := 28) (L' := [.val (.ref 1), .val (.int v1), .val (.int v2), .val (.int v3), .val (.int x18), .unset]) (S' := [.int v1, .int x19]) (H' := (c0 :: bk0 o_oSide o_oPrice o_oRem o_oFilled o_oStatus o_oStamp o_oTop o_restIds o_fIds o_fQty o_fPrice o_lvlIds o_lvlR o_lvlA o_minAlloc o_topCap o_accepted o_stampCounter o_restN o_fN o_lvlN po)) rfl ?_
      by_cases hc23 : x19 = v1
      · simp only [if_pos hc23] at h
        refine OEnds.icmpT hm_5 rfl (q := 34) rfl ((teq hc23).1) ?_
        refine OEnds.adv hm_5 3 (pc' := 40) (L' := [.val (.ref 1), .val (.int v1), .val (.int v2), .val (.int v3), .val (.int x18), .unset]) (S' := [.int x18, .ref 3]) (H' := (c0 :: bk0 o_oSide o_oPrice o_oRem o_oFilled o_oStatus o_oStamp o_oTop o_restIds o_fIds o_fQty o_fPrice o_lvlIds o_lvlR o_lvlA o_minAlloc o_topCap o_accepted o_stampCounter o_restN o_fN o_lvlN po)) rfl ?_
        obtain ⟨x20, hx20, h⟩ := bnd h
        refine OEnds.plain hm_5 rfl rfl (x_iaload rfl hx20) ?_
        refine OEnds.adv hm_5 2 (pc' := 44) (L' := [.val (.ref 1), .val (.int v1), .val (.int v2), .val (.int v3), .val (.int x18), .val (.int x20)]) (S' := [.int v2]) (H' := (c0 :: bk0 o_oSide o_oPrice o_oRem o_oFilled o_oStatus o_oStamp o_oTop o_restIds o_fIds o_fQty o_fPrice o_lvlIds o_lvlR o_lvlA o_minAlloc o_topCap o_accepted o_stampCounter o_restN o_fN o_lvlN po)) rfl ?_
        by_cases hc24 : v2 = (0 : Int32)
        · simp only [if_pos hc24] at h
          refine OEnds.ifT hm_5 rfl (q := 58) rfl ((teq hc24).1) ?_
          refine OEnds.adv hm_5 4 (pc' := 4) (L' := [.val (.ref 1), .val (.int v1), .val (.int x20), .val (.int (v3 + (1 : Int32))), .val (.int x18), .val (.int x20)]) (S' := []) (H' := (c0 :: bk0 o_oSide o_oPrice o_oRem o_oFilled o_oStatus o_oStamp o_oTop o_restIds o_fIds o_fQty o_fPrice o_lvlIds o_lvlR o_lvlA o_minAlloc o_topCap o_accepted o_stampCounter o_restN o_fN o_lvlN po)) rfl ?_
          exact ih h
        · simp only [if_neg hc24] at h
          refine OEnds.ifF hm_5 rfl ((feq hc24).1) ?_
          refine OEnds.adv hm_5 4 (pc' := 52) (L' := [.val (.ref 1), .val (.int v1), .val (.int v2), .val (.int v3), .val (.int x18), .val (.int x20)]) (S' := [.int v2, .int x20, .int v1, .ref 1]) (H' := (c0 :: bk0 o_oSide o_oPrice o_oRem o_oFilled o_oStatus o_oStamp o_oTop o_restIds o_fIds o_fQty o_fPrice o_lvlIds o_lvlR o_lvlA o_minAlloc o_topCap o_accepted o_stampCounter o_restN o_fN o_lvlN po)) rfl ?_
          obtain ⟨r21, hq25, h⟩ := bnd h
          refine OEnds.call0 hm_5 rfl rfl (by decide) rfl (as := [.ref 1, .int v1, .int x20, .int v2]) (rest := []) rfl rfl (ok_better hq25) ?_
          show OEnds own_P 5 55 [.val (.ref 1), .val (.int v1), .val (.int v2), .val (.int v3), .val (.int x18), .val (.int x20)] [.int r21] (c0 :: bk0 o_oSide o_oPrice o_oRem o_oFilled o_oStatus o_oStamp o_oTop o_restIds o_fIds o_fQty o_fPrice o_lvlIds o_lvlR o_lvlA o_minAlloc o_topCap o_accepted o_stampCounter o_restN o_fN o_lvlN po) _
          by_cases hc26 : r21 = (0 : Int32)
          · simp only [if_pos hc26] at h
            refine OEnds.ifT hm_5 rfl (q := 61) rfl ((teq hc26).1) ?_
            refine OEnds.adv hm_5 2 (pc' := 4) (L' := [.val (.ref 1), .val (.int v1), .val (.int v2), .val (.int (v3 + (1 : Int32))), .val (.int x18), .val (.int x20)]) (S' := []) (H' := (c0 :: bk0 o_oSide o_oPrice o_oRem o_oFilled o_oStatus o_oStamp o_oTop o_restIds o_fIds o_fQty o_fPrice o_lvlIds o_lvlR o_lvlA o_minAlloc o_topCap o_accepted o_stampCounter o_restN o_fN o_lvlN po)) rfl ?_
            exact ih h
          · simp only [if_neg hc26] at h
            refine OEnds.ifF hm_5 rfl ((feq hc26).1) ?_
            refine OEnds.adv hm_5 4 (pc' := 4) (L' := [.val (.ref 1), .val (.int v1), .val (.int x20), .val (.int (v3 + (1 : Int32))), .val (.int x18), .val (.int x20)]) (S' := []) (H' := (c0 :: bk0 o_oSide o_oPrice o_oRem o_oFilled o_oStatus o_oStamp o_oTop o_restIds o_fIds o_fQty o_fPrice o_lvlIds o_lvlR o_lvlA o_minAlloc o_topCap o_accepted o_stampCounter o_restN o_fN o_lvlN po)) rfl ?_
            exact ih h
      · simp only [if_neg hc23] at h
        refine OEnds.icmpF hm_5 rfl ((feq hc23).1) ?_
        refine OEnds.adv hm_5 3 (pc' := 4) (L' := [.val (.ref 1), .val (.int v1), .val (.int v2), .val (.int (v3 + (1 : Int32))), .val (.int x18), .unset]) (S' := []) (H' := (c0 :: bk0 o_oSide o_oPrice o_oRem o_oFilled o_oStatus o_oStamp o_oTop o_restIds o_fIds o_fQty o_fPrice o_lvlIds o_lvlR o_lvlA o_minAlloc o_topCap o_accepted o_stampCounter o_restN o_fN o_lvlN po)) rfl ?_
        exact ih h
    · simp only [if_neg hc22] at h
      refine OEnds.icmpT hm_5 rfl (q := 67) rfl ((flt hc22).2.1) ?_
      refine OEnds.adv hm_5 1 (pc' := 68) (L' := [.val (.ref 1), .val (.int v1), .val (.int v2), .val (.int v3), .unset, .unset]) (S' := [.int v2]) (H' := (c0 :: bk0 o_oSide o_oPrice o_oRem o_oFilled o_oStatus o_oStamp o_oTop o_restIds o_fIds o_fQty o_fPrice o_lvlIds o_lvlR o_lvlA o_minAlloc o_topCap o_accepted o_stampCounter o_restN o_fN o_lvlN po)) rfl ?_
      cases h
      exact OEnds.iret hm_5 rfl rfl
theorem ok_bestOf {o_oSide : List Int32} {o_oPrice : List Int32} {o_oRem : List Int32} {o_oFilled : List Int32} {o_oStatus : List Int32} {o_oStamp : List Int64} {o_oTop : List Int32} {o_restIds : List Int32} {o_fIds : List Int32} {o_fQty : List Int32} {o_fPrice : List Int32} {o_lvlIds : List Int32} {o_lvlR : List Int32} {o_lvlA : List Int32} {o_minAlloc : Int32} {o_topCap : Int32} {o_accepted : Int32} {o_stampCounter : Int64} {o_restN : Int32} {o_fN : Int32} {o_lvlN : Int32} {c0 : ACell} {po : List ACell} {v1 : Int32} {res : Int32} (h : f_bestOf o_oSide o_oPrice o_restIds o_restN v1 = some res) : OEnds own_P 5 0 [.val (.ref 1), .val (.int v1), .unset, .unset, .unset, .unset] [] (c0 :: bk0 o_oSide o_oPrice o_oRem o_oFilled o_oStatus o_oStamp o_oTop o_restIds o_fIds o_fQty o_fPrice o_lvlIds o_lvlR o_lvlA o_minAlloc o_topCap o_accepted o_stampCounter o_restN o_fN o_lvlN po) (some (.int res), (c0 :: bk0 o_oSide o_oPrice o_oRem o_oFilled o_oStatus o_oStamp o_oTop o_restIds o_fIds o_fQty o_fPrice o_lvlIds o_lvlR o_lvlA o_minAlloc o_topCap o_accepted o_stampCounter o_restN o_fN o_lvlN po), 0, 0) := by
  unfold f_bestOf at h
  refine OEnds.adv hm_5 4 (pc' := 4) (L' := [.val (.ref 1), .val (.int v1), .val (.int 0), .val (.int 0), .unset, .unset]) (S' := []) (H' := (c0 :: bk0 o_oSide o_oPrice o_oRem o_oFilled o_oStatus o_oStamp o_oTop o_restIds o_fIds o_fQty o_fPrice o_lvlIds o_lvlR o_lvlA o_minAlloc o_topCap o_accepted o_stampCounter o_restN o_fN o_lvlN po)) rfl ?_
  exact ok_bestOf_4 100000 h
theorem ok_crosses {o_oSide : List Int32} {o_oPrice : List Int32} {o_oRem : List Int32} {o_oFilled : List Int32} {o_oStatus : List Int32} {o_oStamp : List Int64} {o_oTop : List Int32} {o_restIds : List Int32} {o_fIds : List Int32} {o_fQty : List Int32} {o_fPrice : List Int32} {o_lvlIds : List Int32} {o_lvlR : List Int32} {o_lvlA : List Int32} {o_minAlloc : Int32} {o_topCap : Int32} {o_accepted : Int32} {o_stampCounter : Int64} {o_restN : Int32} {o_fN : Int32} {o_lvlN : Int32} {c0 : ACell} {po : List ACell} {v1 : Int32} {v2 : Int32} {v3 : Int32} {res : Int32} (h : f_crosses v1 v2 v3 = some res) : OEnds own_P 19 0 [.val (.ref 1), .val (.int v1), .val (.int v2), .val (.int v3)] [] (c0 :: bk0 o_oSide o_oPrice o_oRem o_oFilled o_oStatus o_oStamp o_oTop o_restIds o_fIds o_fQty o_fPrice o_lvlIds o_lvlR o_lvlA o_minAlloc o_topCap o_accepted o_stampCounter o_restN o_fN o_lvlN po) (some (.int res), (c0 :: bk0 o_oSide o_oPrice o_oRem o_oFilled o_oStatus o_oStamp o_oTop o_restIds o_fIds o_fQty o_fPrice o_lvlIds o_lvlR o_lvlA o_minAlloc o_topCap o_accepted o_stampCounter o_restN o_fN o_lvlN po), 0, 0) := by
  unfold f_crosses at h
  refine OEnds.adv hm_19 1 (pc' := 1) (L' := [.val (.ref 1), .val (.int v1), .val (.int v2), .val (.int v3)]) (S' := [.int v1]) (H' := (c0 :: bk0 o_oSide o_oPrice o_oRem o_oFilled o_oStatus o_oStamp o_oTop o_restIds o_fIds o_fQty o_fPrice o_lvlIds o_lvlR o_lvlA o_minAlloc o_topCap o_accepted o_stampCounter o_restN o_fN o_lvlN po)) rfl ?_
  by_cases hc27 : v1 = (0 : Int32)
  · simp only [if_pos hc27] at h
    refine OEnds.ifF hm_19 rfl ((teq hc27).2) ?_
    refine OEnds.adv hm_19 2 (pc' := 6) (L' := [.val (.ref 1), .val (.int v1), .val (.int v2), .val (.int v3)]) (S' := [.int v2, .int v3]) (H' := (c0 :: bk0 o_oSide o_oPrice o_oRem o_oFilled o_oStatus o_oStamp o_oTop o_restIds o_fIds o_fQty o_fPrice o_lvlIds o_lvlR o_lvlA o_minAlloc o_topCap o_accepted o_stampCounter o_restN o_fN o_lvlN po)) rfl ?_
    by_cases hc28 : v2 < v3
    · simp only [if_pos hc28] at h
      refine OEnds.icmpT hm_19 rfl (q := 13) rfl ((tlt hc28).2.2.1) ?_
      refine OEnds.adv hm_19 1 (pc' := 14) (L' := [.val (.ref 1), .val (.int v1), .val (.int v2), .val (.int v3)]) (S' := [.int 0]) (H' := (c0 :: bk0 o_oSide o_oPrice o_oRem o_oFilled o_oStatus o_oStamp o_oTop o_restIds o_fIds o_fQty o_fPrice o_lvlIds o_lvlR o_lvlA o_minAlloc o_topCap o_accepted o_stampCounter o_restN o_fN o_lvlN po)) rfl ?_
      cases h
      exact OEnds.iret hm_19 rfl rfl
    · simp only [if_neg hc28] at h
      refine OEnds.icmpF hm_19 rfl ((flt hc28).2.2.1) ?_
      refine OEnds.adv hm_19 2 (pc' := 14) (L' := [.val (.ref 1), .val (.int v1), .val (.int v2), .val (.int v3)]) (S' := [.int 1]) (H' := (c0 :: bk0 o_oSide o_oPrice o_oRem o_oFilled o_oStatus o_oStamp o_oTop o_restIds o_fIds o_fQty o_fPrice o_lvlIds o_lvlR o_lvlA o_minAlloc o_topCap o_accepted o_stampCounter o_restN o_fN o_lvlN po)) rfl ?_
      cases h
      exact OEnds.iret hm_19 rfl rfl
  · simp only [if_neg hc27] at h
    refine OEnds.ifT hm_19 rfl (q := 15) rfl ((feq hc27).2) ?_
    refine OEnds.adv hm_19 2 (pc' := 17) (L' := [.val (.ref 1), .val (.int v1), .val (.int v2), .val (.int v3)]) (S' := [.int v2, .int v3]) (H' := (c0 :: bk0 o_oSide o_oPrice o_oRem o_oFilled o_oStatus o_oStamp o_oTop o_restIds o_fIds o_fQty o_fPrice o_lvlIds o_lvlR o_lvlA o_minAlloc o_topCap o_accepted o_stampCounter o_restN o_fN o_lvlN po)) rfl ?_
    by_cases hc29 : v3 < v2
    · simp only [if_pos hc29] at h
      refine OEnds.icmpT hm_19 rfl (q := 24) rfl ((tlt hc29).1) ?_
      refine OEnds.adv hm_19 1 (pc' := 25) (L' := [.val (.ref 1), .val (.int v1), .val (.int v2), .val (.int v3)]) (S' := [.int 0]) (H' := (c0 :: bk0 o_oSide o_oPrice o_oRem o_oFilled o_oStatus o_oStamp o_oTop o_restIds o_fIds o_fQty o_fPrice o_lvlIds o_lvlR o_lvlA o_minAlloc o_topCap o_accepted o_stampCounter o_restN o_fN o_lvlN po)) rfl ?_
      cases h
      exact OEnds.iret hm_19 rfl rfl
    · simp only [if_neg hc29] at h
      refine OEnds.icmpF hm_19 rfl ((flt hc29).1) ?_
      refine OEnds.adv hm_19 2 (pc' := 25) (L' := [.val (.ref 1), .val (.int v1), .val (.int v2), .val (.int v3)]) (S' := [.int 1]) (H' := (c0 :: bk0 o_oSide o_oPrice o_oRem o_oFilled o_oStatus o_oStamp o_oTop o_restIds o_fIds o_fQty o_fPrice o_lvlIds o_lvlR o_lvlA o_minAlloc o_topCap o_accepted o_stampCounter o_restN o_fN o_lvlN po)) rfl ?_
      cases h
      exact OEnds.iret hm_19 rfl rfl
theorem ok_gatherLevel_7 {o_oSide : List Int32} {o_oPrice : List Int32} {o_oRem : List Int32} {o_oFilled : List Int32} {o_oStatus : List Int32} {o_oStamp : List Int64} {o_oTop : List Int32} {o_restIds : List Int32} {o_fIds : List Int32} {o_fQty : List Int32} {o_fPrice : List Int32} {o_lvlR : List Int32} {o_lvlA : List Int32} {o_minAlloc : Int32} {o_topCap : Int32} {o_accepted : Int32} {o_stampCounter : Int64} {o_restN : Int32} {o_fN : Int32} {c0 : ACell} {po : List ACell} : ∀ (n : Nat), ∀ {o_lvlIds : List Int32} {o_lvlN : Int32} {v1 : Int32} {v2 : Int32} {v3 : Int32} {d4 : Slot} {w_o_lvlIds : List Int32} {w_o_lvlN : Int32}, f_gatherLevel_7 o_oSide o_oPrice o_restIds o_restN n o_lvlIds o_lvlN v1 v2 v3 = some (w_o_lvlIds, w_o_lvlN) → OEnds own_P 22 7 [.val (.ref 1), .val (.int v1), .val (.int v2), .val (.int v3), d4] [] (c0 :: bk0 o_oSide o_oPrice o_oRem o_oFilled o_oStatus o_oStamp o_oTop o_restIds o_fIds o_fQty o_fPrice o_lvlIds o_lvlR o_lvlA o_minAlloc o_topCap o_accepted o_stampCounter o_restN o_fN o_lvlN po) (none, (c0 :: bk0 o_oSide o_oPrice o_oRem o_oFilled o_oStatus o_oStamp o_oTop o_restIds o_fIds o_fQty o_fPrice w_o_lvlIds o_lvlR o_lvlA o_minAlloc o_topCap o_accepted o_stampCounter o_restN o_fN w_o_lvlN po), 0, 0) := by
  intro n
  induction n with
  | zero => intro o_lvlIds o_lvlN v1 v2 v3 d4 w_o_lvlIds w_o_lvlN h; cases h
  | succ n ih =>
    intro o_lvlIds o_lvlN v1 v2 v3 d4 w_o_lvlIds w_o_lvlN h
    unfold f_gatherLevel_7 at h
    refine OEnds.adv hm_22 3 (pc' := 12) (L' := [.val (.ref 1), .val (.int v1), .val (.int v2), .val (.int v3), .unset]) (S' := [.int o_restN, .int v3]) (H' := (c0 :: bk0 o_oSide o_oPrice o_oRem o_oFilled o_oStatus o_oStamp o_oTop o_restIds o_fIds o_fQty o_fPrice o_lvlIds o_lvlR o_lvlA o_minAlloc o_topCap o_accepted o_stampCounter o_restN o_fN o_lvlN po)) rfl ?_
    by_cases hc30 : v3 < o_restN
    · simp only [if_pos hc30] at h
      refine OEnds.icmpF hm_22 rfl ((tlt hc30).2.1) ?_
      refine OEnds.adv hm_22 3 (pc' := 20) (L' := [.val (.ref 1), .val (.int v1), .val (.int v2), .val (.int v3), .unset]) (S' := [.int v3, .ref 9]) (H' := (c0 :: bk0 o_oSide o_oPrice o_oRem o_oFilled o_oStatus o_oStamp o_oTop o_restIds o_fIds o_fQty o_fPrice o_lvlIds o_lvlR o_lvlA o_minAlloc o_topCap o_accepted o_stampCounter o_restN o_fN o_lvlN po)) rfl ?_
      obtain ⟨x22, hx22, h⟩ := bnd h
      refine OEnds.plain hm_22 rfl rfl (x_iaload rfl hx22) ?_
      refine OEnds.adv hm_22 4 (pc' := 29) (L' := [.val (.ref 1), .val (.int v1), .val (.int v2), .val (.int v3), .val (.int x22)]) (S' := [.int x22, .ref 2]) (H' := (c0 :: bk0 o_oSide o_oPrice o_oRem o_oFilled o_oStatus o_oStamp o_oTop o_restIds o_fIds o_fQty o_fPrice o_lvlIds o_lvlR o_lvlA o_minAlloc o_topCap o_accepted o_stampCounter o_restN o_fN o_lvlN po)) rfl ?_
      obtain ⟨x23, hx23, h⟩ := bnd h
      refine OEnds.plain hm_22 rfl rfl (x_iaload rfl hx23) ?_
      refine OEnds.adv hm_22 1 (pc' := 31) (L' := [.val (.ref 1), .val (.int v1), .val (.int v2), .val (.int v3), .val (.int x22)]) (S' := [.int v1, .int x23]) (H' := (c0 :: bk0 o_oSide o_oPrice o_oRem o_oFilled o_oStatus o_oStamp o_oTop o_restIds o_fIds o_fQty o_fPrice o_lvlIds o_lvlR o_lvlA o_minAlloc o_topCap o_accepted o_stampCounter o_restN o_fN o_lvlN po)) rfl ?_
      by_cases hc31 : x23 = v1
      · simp only [if_pos hc31] at h
        refine OEnds.icmpF hm_22 rfl ((teq hc31).2) ?_
        refine OEnds.adv hm_22 3 (pc' := 40) (L' := [.val (.ref 1), .val (.int v1), .val (.int v2), .val (.int v3), .val (.int x22)]) (S' := [.int x22, .ref 3]) (H' := (c0 :: bk0 o_oSide o_oPrice o_oRem o_oFilled o_oStatus o_oStamp o_oTop o_restIds o_fIds o_fQty o_fPrice o_lvlIds o_lvlR o_lvlA o_minAlloc o_topCap o_accepted o_stampCounter o_restN o_fN o_lvlN po)) rfl ?_
        obtain ⟨x24, hx24, h⟩ := bnd h
        refine OEnds.plain hm_22 rfl rfl (x_iaload rfl hx24) ?_
        refine OEnds.adv hm_22 1 (pc' := 42) (L' := [.val (.ref 1), .val (.int v1), .val (.int v2), .val (.int v3), .val (.int x22)]) (S' := [.int v2, .int x24]) (H' := (c0 :: bk0 o_oSide o_oPrice o_oRem o_oFilled o_oStatus o_oStamp o_oTop o_restIds o_fIds o_fQty o_fPrice o_lvlIds o_lvlR o_lvlA o_minAlloc o_topCap o_accepted o_stampCounter o_restN o_fN o_lvlN po)) rfl ?_
        by_cases hc32 : x24 = v2
        · simp only [if_pos hc32] at h
          refine OEnds.icmpF hm_22 rfl ((teq hc32).2) ?_
          refine OEnds.adv hm_22 3 (pc' := 51) (L' := [.val (.ref 1), .val (.int v1), .val (.int v2), .val (.int v3), .val (.int x22)]) (S' := [.int 64, .int o_lvlN]) (H' := (c0 :: bk0 o_oSide o_oPrice o_oRem o_oFilled o_oStatus o_oStamp o_oTop o_restIds o_fIds o_fQty o_fPrice o_lvlIds o_lvlR o_lvlA o_minAlloc o_topCap o_accepted o_stampCounter o_restN o_fN o_lvlN po)) rfl ?_
          by_cases hc33 : o_lvlN < (64 : Int32)
          · simp only [if_pos hc33] at h
            refine OEnds.icmpF hm_22 rfl ((tlt hc33).2.1) ?_
            refine OEnds.adv hm_22 5 (pc' := 64) (L' := [.val (.ref 1), .val (.int v1), .val (.int v2), .val (.int v3), .val (.int x22)]) (S' := [.int x22, .int o_lvlN, .ref 13]) (H' := (c0 :: bk0 o_oSide o_oPrice o_oRem o_oFilled o_oStatus o_oStamp o_oTop o_restIds o_fIds o_fQty o_fPrice o_lvlIds o_lvlR o_lvlA o_minAlloc o_topCap o_accepted o_stampCounter o_restN o_fN o_lvlN po)) rfl ?_
            obtain ⟨A25, hA25, h⟩ := bnd h
            refine OEnds.plain hm_22 rfl rfl (x_iastore rfl (Nat.le_of_ble_eq_true rfl) hA25) ?_
            refine OEnds.adv hm_22 8 (pc' := 7) (L' := [.val (.ref 1), .val (.int v1), .val (.int v2), .val (.int (v3 + (1 : Int32))), .val (.int x22)]) (S' := []) (H' := (c0 :: bk0 o_oSide o_oPrice o_oRem o_oFilled o_oStatus o_oStamp o_oTop o_restIds o_fIds o_fQty o_fPrice A25 o_lvlR o_lvlA o_minAlloc o_topCap o_accepted o_stampCounter o_restN o_fN (o_lvlN + (1 : Int32)) po)) rfl ?_
            exact ih h
          · simp only [if_neg hc33] at h
            refine OEnds.icmpT hm_22 rfl (q := 75) rfl ((flt hc33).2.1) ?_
            refine OEnds.adv hm_22 2 (pc' := 7) (L' := [.val (.ref 1), .val (.int v1), .val (.int v2), .val (.int (v3 + (1 : Int32))), .val (.int x22)]) (S' := []) (H' := (c0 :: bk0 o_oSide o_oPrice o_oRem o_oFilled o_oStatus o_oStamp o_oTop o_restIds o_fIds o_fQty o_fPrice o_lvlIds o_lvlR o_lvlA o_minAlloc o_topCap o_accepted o_stampCounter o_restN o_fN o_lvlN po)) rfl ?_
            exact ih h
        · simp only [if_neg hc32] at h
          refine OEnds.icmpT hm_22 rfl (q := 75) rfl ((feq hc32).2) ?_
          refine OEnds.adv hm_22 2 (pc' := 7) (L' := [.val (.ref 1), .val (.int v1), .val (.int v2), .val (.int (v3 + (1 : Int32))), .val (.int x22)]) (S' := []) (H' := (c0 :: bk0 o_oSide o_oPrice o_oRem o_oFilled o_oStatus o_oStamp o_oTop o_restIds o_fIds o_fQty o_fPrice o_lvlIds o_lvlR o_lvlA o_minAlloc o_topCap o_accepted o_stampCounter o_restN o_fN o_lvlN po)) rfl ?_
          exact ih h
      · simp only [if_neg hc31] at h
        refine OEnds.icmpT hm_22 rfl (q := 75) rfl ((feq hc31).2) ?_
        refine OEnds.adv hm_22 2 (pc' := 7) (L' := [.val (.ref 1), .val (.int v1), .val (.int v2), .val (.int (v3 + (1 : Int32))), .val (.int x22)]) (S' := []) (H' := (c0 :: bk0 o_oSide o_oPrice o_oRem o_oFilled o_oStatus o_oStamp o_oTop o_restIds o_fIds o_fQty o_fPrice o_lvlIds o_lvlR o_lvlA o_minAlloc o_topCap o_accepted o_stampCounter o_restN o_fN o_lvlN po)) rfl ?_
        exact ih h
    · simp only [if_neg hc30] at h
      refine OEnds.icmpT hm_22 rfl (q := 81) rfl ((flt hc30).2.1) ?_
      show OEnds own_P 22 81 [.val (.ref 1), .val (.int v1), .val (.int v2), .val (.int v3), .unset] [] (c0 :: bk0 o_oSide o_oPrice o_oRem o_oFilled o_oStatus o_oStamp o_oTop o_restIds o_fIds o_fQty o_fPrice o_lvlIds o_lvlR o_lvlA o_minAlloc o_topCap o_accepted o_stampCounter o_restN o_fN o_lvlN po) _
      cases h
      exact OEnds.vret hm_22 rfl rfl
theorem ok_gatherLevel {o_oSide : List Int32} {o_oPrice : List Int32} {o_oRem : List Int32} {o_oFilled : List Int32} {o_oStatus : List Int32} {o_oStamp : List Int64} {o_oTop : List Int32} {o_restIds : List Int32} {o_fIds : List Int32} {o_fQty : List Int32} {o_fPrice : List Int32} {o_lvlR : List Int32} {o_lvlA : List Int32} {o_minAlloc : Int32} {o_topCap : Int32} {o_accepted : Int32} {o_stampCounter : Int64} {o_restN : Int32} {o_fN : Int32} {c0 : ACell} {po : List ACell} {o_lvlIds : List Int32} {o_lvlN : Int32} {v1 : Int32} {v2 : Int32} {w_o_lvlIds : List Int32} {w_o_lvlN : Int32} (h : f_gatherLevel o_oSide o_oPrice o_restIds o_restN o_lvlIds o_lvlN v1 v2 = some (w_o_lvlIds, w_o_lvlN)) : OEnds own_P 22 0 [.val (.ref 1), .val (.int v1), .val (.int v2), .unset, .unset] [] (c0 :: bk0 o_oSide o_oPrice o_oRem o_oFilled o_oStatus o_oStamp o_oTop o_restIds o_fIds o_fQty o_fPrice o_lvlIds o_lvlR o_lvlA o_minAlloc o_topCap o_accepted o_stampCounter o_restN o_fN o_lvlN po) (none, (c0 :: bk0 o_oSide o_oPrice o_oRem o_oFilled o_oStatus o_oStamp o_oTop o_restIds o_fIds o_fQty o_fPrice w_o_lvlIds o_lvlR o_lvlA o_minAlloc o_topCap o_accepted o_stampCounter o_restN o_fN w_o_lvlN po), 0, 0) := by
  unfold f_gatherLevel at h
  refine OEnds.adv hm_22 5 (pc' := 7) (L' := [.val (.ref 1), .val (.int v1), .val (.int v2), .val (.int 0), .unset]) (S' := []) (H' := (c0 :: bk0 o_oSide o_oPrice o_oRem o_oFilled o_oStatus o_oStamp o_oTop o_restIds o_fIds o_fQty o_fPrice o_lvlIds o_lvlR o_lvlA o_minAlloc o_topCap o_accepted o_stampCounter o_restN o_fN 0 po)) rfl ?_
  exact ok_gatherLevel_7 100000 h
theorem ok_sortLevel_73 {o_oSide : List Int32} {o_oPrice : List Int32} {o_oRem : List Int32} {o_oFilled : List Int32} {o_oStatus : List Int32} {o_oStamp : List Int64} {o_oTop : List Int32} {o_restIds : List Int32} {o_fIds : List Int32} {o_fQty : List Int32} {o_fPrice : List Int32} {o_lvlR : List Int32} {o_lvlA : List Int32} {o_minAlloc : Int32} {o_topCap : Int32} {o_accepted : Int32} {o_stampCounter : Int64} {o_restN : Int32} {o_fN : Int32} {o_lvlN : Int32} {c0 : ACell} {po : List ACell} {kb : List Int32 → Int32 → Option (List Int32)} (hkb : ∀ {o_lvlIds : List Int32} {v1 : Int32} {d2 d3 d4 d5 : Slot} {w_o_lvlIds : List Int32}, kb o_lvlIds v1 = some w_o_lvlIds → OEnds own_P 23 2 [.val (.ref 1), .val (.int v1), d2, d3, d4, d5] [] (c0 :: bk0 o_oSide o_oPrice o_oRem o_oFilled o_oStatus o_oStamp o_oTop o_restIds o_fIds o_fQty o_fPrice o_lvlIds o_lvlR o_lvlA o_minAlloc o_topCap o_accepted o_stampCounter o_restN o_fN o_lvlN po) (none, (c0 :: bk0 o_oSide o_oPrice o_oRem o_oFilled o_oStatus o_oStamp o_oTop o_restIds o_fIds o_fQty o_fPrice w_o_lvlIds o_lvlR o_lvlA o_minAlloc o_topCap o_accepted o_stampCounter o_restN o_fN o_lvlN po), 0, 0)) : ∀ {o_lvlIds : List Int32} {v1 : Int32} {v2 : Int32} {v5 : Int32} {d3 d4 : Slot} {w_o_lvlIds : List Int32}, f_sortLevel_73 kb o_oStamp o_lvlN o_lvlIds v1 v2 v5 = some w_o_lvlIds → OEnds own_P 23 73 [.val (.ref 1), .val (.int v1), .val (.int v2), d3, d4, .val (.int v5)] [] (c0 :: bk0 o_oSide o_oPrice o_oRem o_oFilled o_oStatus o_oStamp o_oTop o_restIds o_fIds o_fQty o_fPrice o_lvlIds o_lvlR o_lvlA o_minAlloc o_topCap o_accepted o_stampCounter o_restN o_fN o_lvlN po) (none, (c0 :: bk0 o_oSide o_oPrice o_oRem o_oFilled o_oStatus o_oStamp o_oTop o_restIds o_fIds o_fQty o_fPrice w_o_lvlIds o_lvlR o_lvlA o_minAlloc o_topCap o_accepted o_stampCounter o_restN o_fN o_lvlN po), 0, 0) := by
  intro o_lvlIds v1 v2 v5 d3 d4 w_o_lvlIds h
  unfold f_sortLevel_73 at h
  refine OEnds.adv hm_23 4 (pc' := 80) (L' := [.val (.ref 1), .val (.int v1), .val (.int v2), .unset, .unset, .val (.int v5)]) (S' := [.int v2, .int v5, .ref 13]) (H' := (c0 :: bk0 o_oSide o_oPrice o_oRem o_oFilled o_oStatus o_oStamp o_oTop o_restIds o_fIds o_fQty o_fPrice o_lvlIds o_lvlR o_lvlA o_minAlloc o_topCap o_accepted o_stampCounter o_restN o_fN o_lvlN po)) rfl ?_
  obtain ⟨A32, hA32, h⟩ := bnd h
  refine OEnds.plain hm_23 rfl rfl (x_iastore rfl (Nat.le_of_ble_eq_true rfl) hA32) ?_
  refine OEnds.adv hm_23 2 (pc' := 2) (L' := [.val (.ref 1), .val (.int (v1 + (1 : Int32))), .val (.int v2), .unset, .unset, .val (.int v5)]) (S' := []) (H' := (c0 :: bk0 o_oSide o_oPrice o_oRem o_oFilled o_oStatus o_oStamp o_oTop o_restIds o_fIds o_fQty o_fPrice A32 o_lvlR o_lvlA o_minAlloc o_topCap o_accepted o_stampCounter o_restN o_fN o_lvlN po)) rfl ?_
  exact hkb h
theorem ok_sortLevel_27 {o_oSide : List Int32} {o_oPrice : List Int32} {o_oRem : List Int32} {o_oFilled : List Int32} {o_oStatus : List Int32} {o_oStamp : List Int64} {o_oTop : List Int32} {o_restIds : List Int32} {o_fIds : List Int32} {o_fQty : List Int32} {o_fPrice : List Int32} {o_lvlR : List Int32} {o_lvlA : List Int32} {o_minAlloc : Int32} {o_topCap : Int32} {o_accepted : Int32} {o_stampCounter : Int64} {o_restN : Int32} {o_fN : Int32} {o_lvlN : Int32} {c0 : ACell} {po : List ACell} {k73 : List Int32 → Int32 → Int32 → Int32 → Option (List Int32)} (hk73 : ∀ {o_lvlIds : List Int32} {v1 : Int32} {v2 : Int32} {v5 : Int32} {d3 d4 : Slot} {w_o_lvlIds : List Int32}, k73 o_lvlIds v1 v2 v5 = some w_o_lvlIds → OEnds own_P 23 73 [.val (.ref 1), .val (.int v1), .val (.int v2), d3, d4, .val (.int v5)] [] (c0 :: bk0 o_oSide o_oPrice o_oRem o_oFilled o_oStatus o_oStamp o_oTop o_restIds o_fIds o_fQty o_fPrice o_lvlIds o_lvlR o_lvlA o_minAlloc o_topCap o_accepted o_stampCounter o_restN o_fN o_lvlN po) (none, (c0 :: bk0 o_oSide o_oPrice o_oRem o_oFilled o_oStatus o_oStamp o_oTop o_restIds o_fIds o_fQty o_fPrice w_o_lvlIds o_lvlR o_lvlA o_minAlloc o_topCap o_accepted o_stampCounter o_restN o_fN o_lvlN po), 0, 0)) : ∀ (n : Nat), ∀ {o_lvlIds : List Int32} {v1 : Int32} {v2 : Int32} {v3 : Int64} {v5 : Int32} {w_o_lvlIds : List Int32}, f_sortLevel_27 k73 o_oStamp o_lvlN n o_lvlIds v1 v2 v3 v5 = some w_o_lvlIds → OEnds own_P 23 27 [.val (.ref 1), .val (.int v1), .val (.int v2), .val (.long v3), .second, .val (.int v5)] [] (c0 :: bk0 o_oSide o_oPrice o_oRem o_oFilled o_oStatus o_oStamp o_oTop o_restIds o_fIds o_fQty o_fPrice o_lvlIds o_lvlR o_lvlA o_minAlloc o_topCap o_accepted o_stampCounter o_restN o_fN o_lvlN po) (none, (c0 :: bk0 o_oSide o_oPrice o_oRem o_oFilled o_oStatus o_oStamp o_oTop o_restIds o_fIds o_fQty o_fPrice w_o_lvlIds o_lvlR o_lvlA o_minAlloc o_topCap o_accepted o_stampCounter o_restN o_fN o_lvlN po), 0, 0) := by
  intro n
  induction n with
  | zero => intro o_lvlIds v1 v2 v3 v5 w_o_lvlIds h; cases h
  | succ n ih =>
    intro o_lvlIds v1 v2 v3 v5 w_o_lvlIds h
    unfold f_sortLevel_27 at h
    refine OEnds.adv hm_23 1 (pc' := 29) (L' := [.val (.ref 1), .val (.int v1), .val (.int v2), .val (.long v3), .second, .val (.int v5)]) (S' := [.int v5]) (H' := (c0 :: bk0 o_oSide o_oPrice o_oRem o_oFilled o_oStatus o_oStamp o_oTop o_restIds o_fIds o_fQty o_fPrice o_lvlIds o_lvlR o_lvlA o_minAlloc o_topCap o_accepted o_stampCounter o_restN o_fN o_lvlN po)) rfl ?_
    by_cases hc34 : (0 : Int32) < v5
    · simp only [if_pos hc34] at h
      refine OEnds.ifF hm_23 rfl ((tlt hc34).2.2.2) ?_
      refine OEnds.adv hm_23 7 (pc' := 44) (L' := [.val (.ref 1), .val (.int v1), .val (.int v2), .val (.long v3), .second, .val (.int v5)]) (S' := [.int (v5 - (1 : Int32)), .ref 13, .ref 7]) (H' := (c0 :: bk0 o_oSide o_oPrice o_oRem o_oFilled o_oStatus o_oStamp o_oTop o_restIds o_fIds o_fQty o_fPrice o_lvlIds o_lvlR o_lvlA o_minAlloc o_topCap o_accepted o_stampCounter o_restN o_fN o_lvlN po)) rfl ?_
      obtain ⟨x28, hx28, h⟩ := bnd h
      refine OEnds.plain hm_23 rfl rfl (x_iaload rfl hx28) ?_
      show OEnds own_P 23 45 [.val (.ref 1), .val (.int v1), .val (.int v2), .val (.long v3), .second, .val (.int v5)] [.int x28, .ref 7] (c0 :: bk0 o_oSide o_oPrice o_oRem o_oFilled o_oStatus o_oStamp o_oTop o_restIds o_fIds o_fQty o_fPrice o_lvlIds o_lvlR o_lvlA o_minAlloc o_topCap o_accepted o_stampCounter o_restN o_fN o_lvlN po) _
      obtain ⟨x29, hx29, h⟩ := bnd h
      refine OEnds.plain hm_23 rfl rfl (x_laload rfl hx29) ?_
      refine OEnds.adv hm_23 2 (pc' := 48) (L' := [.val (.ref 1), .val (.int v1), .val (.int v2), .val (.long v3), .second, .val (.int v5)]) (S' := [.int (XT.cmpL x29 v3)]) (H' := (c0 :: bk0 o_oSide o_oPrice o_oRem o_oFilled o_oStatus o_oStamp o_oTop o_restIds o_fIds o_fQty o_fPrice o_lvlIds o_lvlR o_lvlA o_minAlloc o_topCap o_accepted o_stampCounter o_restN o_fN o_lvlN po)) rfl ?_
      by_cases hc35 : v3 < x29
      · simp only [if_pos hc35] at h
        refine OEnds.ifF hm_23 rfl ((tlt (c_gt.mpr hc35)).2.2.2) ?_
        refine OEnds.adv hm_23 8 (pc' := 65) (L' := [.val (.ref 1), .val (.int v1), .val (.int v2), .val (.long v3), .second, .val (.int v5)]) (S' := [.int (v5 - (1 : Int32)), .ref 13, .int v5, .ref 13]) (H' := (c0 :: bk0 o_oSide o_oPrice o_oRem o_oFilled o_oStatus o_oStamp o_oTop o_restIds o_fIds o_fQty o_fPrice o_lvlIds o_lvlR o_lvlA o_minAlloc o_topCap o_accepted o_stampCounter o_restN o_fN o_lvlN po)) rfl ?_
        obtain ⟨x30, hx30, h⟩ := bnd h
        refine OEnds.plain hm_23 rfl rfl (x_iaload rfl hx30) ?_
        show OEnds own_P 23 66 [.val (.ref 1), .val (.int v1), .val (.int v2), .val (.long v3), .second, .val (.int v5)] [.int x30, .int v5, .ref 13] (c0 :: bk0 o_oSide o_oPrice o_oRem o_oFilled o_oStatus o_oStamp o_oTop o_restIds o_fIds o_fQty o_fPrice o_lvlIds o_lvlR o_lvlA o_minAlloc o_topCap o_accepted o_stampCounter o_restN o_fN o_lvlN po) _
        obtain ⟨A31, hA31, h⟩ := bnd h
        refine OEnds.plain hm_23 rfl rfl (x_iastore rfl (Nat.le_of_ble_eq_true rfl) hA31) ?_
        refine OEnds.adv hm_23 2 (pc' := 27) (L' := [.val (.ref 1), .val (.int v1), .val (.int v2), .val (.long v3), .second, .val (.int (v5 + (-1 : Int32)))]) (S' := []) (H' := (c0 :: bk0 o_oSide o_oPrice o_oRem o_oFilled o_oStatus o_oStamp o_oTop o_restIds o_fIds o_fQty o_fPrice A31 o_lvlR o_lvlA o_minAlloc o_topCap o_accepted o_stampCounter o_restN o_fN o_lvlN po)) rfl ?_
        exact ih h
      · simp only [if_neg hc35] at h
        refine OEnds.ifT hm_23 rfl (q := 73) rfl ((flt (mt c_gt.mp hc35)).2.2.2) ?_
        show OEnds own_P 23 73 [.val (.ref 1), .val (.int v1), .val (.int v2), .val (.long v3), .second, .val (.int v5)] [] (c0 :: bk0 o_oSide o_oPrice o_oRem o_oFilled o_oStatus o_oStamp o_oTop o_restIds o_fIds o_fQty o_fPrice o_lvlIds o_lvlR o_lvlA o_minAlloc o_topCap o_accepted o_stampCounter o_restN o_fN o_lvlN po) _
        exact hk73 h
    · simp only [if_neg hc34] at h
      refine OEnds.ifT hm_23 rfl (q := 73) rfl ((flt hc34).2.2.2) ?_
      show OEnds own_P 23 73 [.val (.ref 1), .val (.int v1), .val (.int v2), .val (.long v3), .second, .val (.int v5)] [] (c0 :: bk0 o_oSide o_oPrice o_oRem o_oFilled o_oStatus o_oStamp o_oTop o_restIds o_fIds o_fQty o_fPrice o_lvlIds o_lvlR o_lvlA o_minAlloc o_topCap o_accepted o_stampCounter o_restN o_fN o_lvlN po) _
      exact hk73 h
theorem ok_sortLevel_2 {o_oSide : List Int32} {o_oPrice : List Int32} {o_oRem : List Int32} {o_oFilled : List Int32} {o_oStatus : List Int32} {o_oStamp : List Int64} {o_oTop : List Int32} {o_restIds : List Int32} {o_fIds : List Int32} {o_fQty : List Int32} {o_fPrice : List Int32} {o_lvlR : List Int32} {o_lvlA : List Int32} {o_minAlloc : Int32} {o_topCap : Int32} {o_accepted : Int32} {o_stampCounter : Int64} {o_restN : Int32} {o_fN : Int32} {o_lvlN : Int32} {c0 : ACell} {po : List ACell} : ∀ (n : Nat), ∀ {o_lvlIds : List Int32} {v1 : Int32} {d2 d3 d4 d5 : Slot} {w_o_lvlIds : List Int32}, f_sortLevel_2 o_oStamp o_lvlN n o_lvlIds v1 = some w_o_lvlIds → OEnds own_P 23 2 [.val (.ref 1), .val (.int v1), d2, d3, d4, d5] [] (c0 :: bk0 o_oSide o_oPrice o_oRem o_oFilled o_oStatus o_oStamp o_oTop o_restIds o_fIds o_fQty o_fPrice o_lvlIds o_lvlR o_lvlA o_minAlloc o_topCap o_accepted o_stampCounter o_restN o_fN o_lvlN po) (none, (c0 :: bk0 o_oSide o_oPrice o_oRem o_oFilled o_oStatus o_oStamp o_oTop o_restIds o_fIds o_fQty o_fPrice w_o_lvlIds o_lvlR o_lvlA o_minAlloc o_topCap o_accepted o_stampCounter o_restN o_fN o_lvlN po), 0, 0) := by
  intro n
  induction n with
  | zero => intro o_lvlIds v1 d2 d3 d4 d5 w_o_lvlIds h; cases h
  | succ n ih =>
    intro o_lvlIds v1 d2 d3 d4 d5 w_o_lvlIds h
    unfold f_sortLevel_2 at h
    refine OEnds.adv hm_23 3 (pc' := 7) (L' := [.val (.ref 1), .val (.int v1), .unset, .unset, .unset, .unset]) (S' := [.int o_lvlN, .int v1]) (H' := (c0 :: bk0 o_oSide o_oPrice o_oRem o_oFilled o_oStatus o_oStamp o_oTop o_restIds o_fIds o_fQty o_fPrice o_lvlIds o_lvlR o_lvlA o_minAlloc o_topCap o_accepted o_stampCounter o_restN o_fN o_lvlN po)) rfl ?_
    by_cases hc36 : v1 < o_lvlN
    · simp only [if_pos hc36] at h
      refine OEnds.icmpF hm_23 rfl ((tlt hc36).2.1) ?_
      refine OEnds.adv hm_23 3 (pc' := 15) (L' := [.val (.ref 1), .val (.int v1), .unset, .unset, .unset, .unset]) (S' := [.int v1, .ref 13]) (H' := (c0 :: bk0 o_oSide o_oPrice o_oRem o_oFilled o_oStatus o_oStamp o_oTop o_restIds o_fIds o_fQty o_fPrice o_lvlIds o_lvlR o_lvlA o_minAlloc o_topCap o_accepted o_stampCounter o_restN o_fN o_lvlN po)) rfl ?_
      obtain ⟨x26, hx26, h⟩ := bnd h
      refine OEnds.plain hm_23 rfl rfl (x_iaload rfl hx26) ?_
      refine OEnds.adv hm_23 4 (pc' := 22) (L' := [.val (.ref 1), .val (.int v1), .val (.int x26), .unset, .unset, .unset]) (S' := [.int x26, .ref 7]) (H' := (c0 :: bk0 o_oSide o_oPrice o_oRem o_oFilled o_oStatus o_oStamp o_oTop o_restIds o_fIds o_fQty o_fPrice o_lvlIds o_lvlR o_lvlA o_minAlloc o_topCap o_accepted o_stampCounter o_restN o_fN o_lvlN po)) rfl ?_
      obtain ⟨x27, hx27, h⟩ := bnd h
      refine OEnds.plain hm_23 rfl rfl (x_laload rfl hx27) ?_
      refine OEnds.adv hm_23 3 (pc' := 27) (L' := [.val (.ref 1), .val (.int v1), .val (.int x26), .val (.long x27), .second, .val (.int v1)]) (S' := []) (H' := (c0 :: bk0 o_oSide o_oPrice o_oRem o_oFilled o_oStatus o_oStamp o_oTop o_restIds o_fIds o_fQty o_fPrice o_lvlIds o_lvlR o_lvlA o_minAlloc o_topCap o_accepted o_stampCounter o_restN o_fN o_lvlN po)) rfl ?_
      exact ok_sortLevel_27 (k73 := f_sortLevel_73 (f_sortLevel_2 o_oStamp o_lvlN n) o_oStamp o_lvlN) (ok_sortLevel_73 ih) 100000 h
    · simp only [if_neg hc36] at h
      refine OEnds.icmpT hm_23 rfl (q := 87) rfl ((flt hc36).2.1) ?_
      show OEnds own_P 23 87 [.val (.ref 1), .val (.int v1), .unset, .unset, .unset, .unset] [] (c0 :: bk0 o_oSide o_oPrice o_oRem o_oFilled o_oStatus o_oStamp o_oTop o_restIds o_fIds o_fQty o_fPrice o_lvlIds o_lvlR o_lvlA o_minAlloc o_topCap o_accepted o_stampCounter o_restN o_fN o_lvlN po) _
      cases h
      exact OEnds.vret hm_23 rfl rfl
theorem ok_sortLevel {o_oSide : List Int32} {o_oPrice : List Int32} {o_oRem : List Int32} {o_oFilled : List Int32} {o_oStatus : List Int32} {o_oStamp : List Int64} {o_oTop : List Int32} {o_restIds : List Int32} {o_fIds : List Int32} {o_fQty : List Int32} {o_fPrice : List Int32} {o_lvlR : List Int32} {o_lvlA : List Int32} {o_minAlloc : Int32} {o_topCap : Int32} {o_accepted : Int32} {o_stampCounter : Int64} {o_restN : Int32} {o_fN : Int32} {o_lvlN : Int32} {c0 : ACell} {po : List ACell} {o_lvlIds : List Int32} {w_o_lvlIds : List Int32} (h : f_sortLevel o_oStamp o_lvlN o_lvlIds = some w_o_lvlIds) : OEnds own_P 23 0 [.val (.ref 1), .unset, .unset, .unset, .unset, .unset] [] (c0 :: bk0 o_oSide o_oPrice o_oRem o_oFilled o_oStatus o_oStamp o_oTop o_restIds o_fIds o_fQty o_fPrice o_lvlIds o_lvlR o_lvlA o_minAlloc o_topCap o_accepted o_stampCounter o_restN o_fN o_lvlN po) (none, (c0 :: bk0 o_oSide o_oPrice o_oRem o_oFilled o_oStatus o_oStamp o_oTop o_restIds o_fIds o_fQty o_fPrice w_o_lvlIds o_lvlR o_lvlA o_minAlloc o_topCap o_accepted o_stampCounter o_restN o_fN o_lvlN po), 0, 0) := by
  unfold f_sortLevel at h
  refine OEnds.adv hm_23 2 (pc' := 2) (L' := [.val (.ref 1), .val (.int 1), .unset, .unset, .unset, .unset]) (S' := []) (H' := (c0 :: bk0 o_oSide o_oPrice o_oRem o_oFilled o_oStatus o_oStamp o_oTop o_restIds o_fIds o_fQty o_fPrice o_lvlIds o_lvlR o_lvlA o_minAlloc o_topCap o_accepted o_stampCounter o_restN o_fN o_lvlN po)) rfl ?_
  exact ok_sortLevel_2 100000 h
theorem ok_topStep_80 {o_oSide : List Int32} {o_oPrice : List Int32} {o_oRem : List Int32} {o_oFilled : List Int32} {o_oStatus : List Int32} {o_oStamp : List Int64} {o_oTop : List Int32} {o_restIds : List Int32} {o_fIds : List Int32} {o_fQty : List Int32} {o_fPrice : List Int32} {o_lvlIds : List Int32} {o_lvlR : List Int32} {o_minAlloc : Int32} {o_topCap : Int32} {o_accepted : Int32} {o_stampCounter : Int64} {o_restN : Int32} {o_fN : Int32} {o_lvlN : Int32} {c0 : ACell} {po : List ACell} : ∀ {o_lvlA : List Int32} {v2 : Int32} {v4 : Int32} {d1 d3 : Slot} {res : Int32} {w_o_lvlA : List Int32}, f_topStep_80 o_oTop o_lvlIds o_lvlR o_topCap o_lvlN o_lvlA v2 v4 = some (res, w_o_lvlA) → OEnds own_P 25 80 [.val (.ref 1), d1, .val (.int v2), d3, .val (.int v4)] [] (c0 :: bk0 o_oSide o_oPrice o_oRem o_oFilled o_oStatus o_oStamp o_oTop o_restIds o_fIds o_fQty o_fPrice o_lvlIds o_lvlR o_lvlA o_minAlloc o_topCap o_accepted o_stampCounter o_restN o_fN o_lvlN po) (some (.int res), (c0 :: bk0 o_oSide o_oPrice o_oRem o_oFilled o_oStatus o_oStamp o_oTop o_restIds o_fIds o_fQty o_fPrice o_lvlIds o_lvlR w_o_lvlA o_minAlloc o_topCap o_accepted o_stampCounter o_restN o_fN o_lvlN po), 0, 0) := by
  intro o_lvlA v2 v4 d1 d3 res w_o_lvlA h
  unfold f_topStep_80 at h
  refine OEnds.adv hm_25 4 (pc' := 86) (L' := [.val (.ref 1), .unset, .val (.int v2), .unset, .val (.int v4)]) (S' := [.int v2, .ref 15, .int v2, .ref 15]) (H' := (c0 :: bk0 o_oSide o_oPrice o_oRem o_oFilled o_oStatus o_oStamp o_oTop o_restIds o_fIds o_fQty o_fPrice o_lvlIds o_lvlR o_lvlA o_minAlloc o_topCap o_accepted o_stampCounter o_restN o_fN o_lvlN po)) rfl ?_
  obtain ⟨x37, hx37, h⟩ := bnd h
  refine OEnds.plain hm_25 rfl rfl (x_iaload rfl hx37) ?_
  refine OEnds.adv hm_25 2 (pc' := 90) (L' := [.val (.ref 1), .unset, .val (.int v2), .unset, .val (.int v4)]) (S' := [.int (x37 + v4), .int v2, .ref 15]) (H' := (c0 :: bk0 o_oSide o_oPrice o_oRem o_oFilled o_oStatus o_oStamp o_oTop o_restIds o_fIds o_fQty o_fPrice o_lvlIds o_lvlR o_lvlA o_minAlloc o_topCap o_accepted o_stampCounter o_restN o_fN o_lvlN po)) rfl ?_
  obtain ⟨A38, hA38, h⟩ := bnd h
  refine OEnds.plain hm_25 rfl rfl (x_iastore rfl (Nat.le_of_ble_eq_true rfl) hA38) ?_
  refine OEnds.adv hm_25 1 (pc' := 93) (L' := [.val (.ref 1), .unset, .val (.int v2), .unset, .val (.int v4)]) (S' := [.int v4]) (H' := (c0 :: bk0 o_oSide o_oPrice o_oRem o_oFilled o_oStatus o_oStamp o_oTop o_restIds o_fIds o_fQty o_fPrice o_lvlIds o_lvlR A38 o_minAlloc o_topCap o_accepted o_stampCounter o_restN o_fN o_lvlN po)) rfl ?_
  cases h
  exact OEnds.iret hm_25 rfl rfl
theorem ok_topStep_72 {o_oSide : List Int32} {o_oPrice : List Int32} {o_oRem : List Int32} {o_oFilled : List Int32} {o_oStatus : List Int32} {o_oStamp : List Int64} {o_oTop : List Int32} {o_restIds : List Int32} {o_fIds : List Int32} {o_fQty : List Int32} {o_fPrice : List Int32} {o_lvlIds : List Int32} {o_lvlR : List Int32} {o_minAlloc : Int32} {o_topCap : Int32} {o_accepted : Int32} {o_stampCounter : Int64} {o_restN : Int32} {o_fN : Int32} {o_lvlN : Int32} {c0 : ACell} {po : List ACell} : ∀ {o_lvlA : List Int32} {v2 : Int32} {v4 : Int32} {d1 d3 : Slot} {res : Int32} {w_o_lvlA : List Int32}, f_topStep_72 o_oTop o_lvlIds o_lvlR o_topCap o_lvlN o_lvlA v2 v4 = some (res, w_o_lvlA) → OEnds own_P 25 72 [.val (.ref 1), d1, .val (.int v2), d3, .val (.int v4)] [] (c0 :: bk0 o_oSide o_oPrice o_oRem o_oFilled o_oStatus o_oStamp o_oTop o_restIds o_fIds o_fQty o_fPrice o_lvlIds o_lvlR o_lvlA o_minAlloc o_topCap o_accepted o_stampCounter o_restN o_fN o_lvlN po) (some (.int res), (c0 :: bk0 o_oSide o_oPrice o_oRem o_oFilled o_oStatus o_oStamp o_oTop o_restIds o_fIds o_fQty o_fPrice o_lvlIds o_lvlR w_o_lvlA o_minAlloc o_topCap o_accepted o_stampCounter o_restN o_fN o_lvlN po), 0, 0) := by
  intro o_lvlA v2 v4 d1 d3 res w_o_lvlA h
  unfold f_topStep_72 at h
  refine OEnds.adv hm_25 1 (pc' := 74) (L' := [.val (.ref 1), .unset, .val (.int v2), .unset, .val (.int v4)]) (S' := [.int v4]) (H' := (c0 :: bk0 o_oSide o_oPrice o_oRem o_oFilled o_oStatus o_oStamp o_oTop o_restIds o_fIds o_fQty o_fPrice o_lvlIds o_lvlR o_lvlA o_minAlloc o_topCap o_accepted o_stampCounter o_restN o_fN o_lvlN po)) rfl ?_
  by_cases hc37 : v4 < (0 : Int32)
  · simp only [if_pos hc37] at h
    refine OEnds.ifF hm_25 rfl ((tlt hc37).2.1) ?_
    refine OEnds.adv hm_25 2 (pc' := 80) (L' := [.val (.ref 1), .unset, .val (.int v2), .unset, .val (.int 0)]) (S' := []) (H' := (c0 :: bk0 o_oSide o_oPrice o_oRem o_oFilled o_oStatus o_oStamp o_oTop o_restIds o_fIds o_fQty o_fPrice o_lvlIds o_lvlR o_lvlA o_minAlloc o_topCap o_accepted o_stampCounter o_restN o_fN o_lvlN po)) rfl ?_
    exact ok_topStep_80 h
  · simp only [if_neg hc37] at h
    refine OEnds.ifT hm_25 rfl (q := 80) rfl ((flt hc37).2.1) ?_
    show OEnds own_P 25 80 [.val (.ref 1), .unset, .val (.int v2), .unset, .val (.int v4)] [] (c0 :: bk0 o_oSide o_oPrice o_oRem o_oFilled o_oStatus o_oStamp o_oTop o_restIds o_fIds o_fQty o_fPrice o_lvlIds o_lvlR o_lvlA o_minAlloc o_topCap o_accepted o_stampCounter o_restN o_fN o_lvlN po) _
    exact ok_topStep_80 h
theorem ok_topStep_57 {o_oSide : List Int32} {o_oPrice : List Int32} {o_oRem : List Int32} {o_oFilled : List Int32} {o_oStatus : List Int32} {o_oStamp : List Int64} {o_oTop : List Int32} {o_restIds : List Int32} {o_fIds : List Int32} {o_fQty : List Int32} {o_fPrice : List Int32} {o_lvlIds : List Int32} {o_lvlR : List Int32} {o_minAlloc : Int32} {o_topCap : Int32} {o_accepted : Int32} {o_stampCounter : Int64} {o_restN : Int32} {o_fN : Int32} {o_lvlN : Int32} {c0 : ACell} {po : List ACell} : ∀ {o_lvlA : List Int32} {v2 : Int32} {v4 : Int32} {d1 d3 : Slot} {res : Int32} {w_o_lvlA : List Int32}, f_topStep_57 o_oTop o_lvlIds o_lvlR o_topCap o_lvlN o_lvlA v2 v4 = some (res, w_o_lvlA) → OEnds own_P 25 57 [.val (.ref 1), d1, .val (.int v2), d3, .val (.int v4)] [] (c0 :: bk0 o_oSide o_oPrice o_oRem o_oFilled o_oStatus o_oStamp o_oTop o_restIds o_fIds o_fQty o_fPrice o_lvlIds o_lvlR o_lvlA o_minAlloc o_topCap o_accepted o_stampCounter o_restN o_fN o_lvlN po) (some (.int res), (c0 :: bk0 o_oSide o_oPrice o_oRem o_oFilled o_oStatus o_oStamp o_oTop o_restIds o_fIds o_fQty o_fPrice o_lvlIds o_lvlR w_o_lvlA o_minAlloc o_topCap o_accepted o_stampCounter o_restN o_fN o_lvlN po), 0, 0) := by
  intro o_lvlA v2 v4 d1 d3 res w_o_lvlA h
  unfold f_topStep_57 at h
  refine OEnds.adv hm_25 3 (pc' := 63) (L' := [.val (.ref 1), .unset, .val (.int v2), .unset, .val (.int v4)]) (S' := [.int v4, .int o_topCap]) (H' := (c0 :: bk0 o_oSide o_oPrice o_oRem o_oFilled o_oStatus o_oStamp o_oTop o_restIds o_fIds o_fQty o_fPrice o_lvlIds o_lvlR o_lvlA o_minAlloc o_topCap o_accepted o_stampCounter o_restN o_fN o_lvlN po)) rfl ?_
  by_cases hc38 : o_topCap < v4
  · simp only [if_pos hc38] at h
    refine OEnds.icmpF hm_25 rfl ((tlt hc38).2.1) ?_
    refine OEnds.adv hm_25 3 (pc' := 72) (L' := [.val (.ref 1), .unset, .val (.int v2), .unset, .val (.int o_topCap)]) (S' := []) (H' := (c0 :: bk0 o_oSide o_oPrice o_oRem o_oFilled o_oStatus o_oStamp o_oTop o_restIds o_fIds o_fQty o_fPrice o_lvlIds o_lvlR o_lvlA o_minAlloc o_topCap o_accepted o_stampCounter o_restN o_fN o_lvlN po)) rfl ?_
    exact ok_topStep_72 h
  · simp only [if_neg hc38] at h
    refine OEnds.icmpT hm_25 rfl (q := 72) rfl ((flt hc38).2.1) ?_
    show OEnds own_P 25 72 [.val (.ref 1), .unset, .val (.int v2), .unset, .val (.int v4)] [] (c0 :: bk0 o_oSide o_oPrice o_oRem o_oFilled o_oStatus o_oStamp o_oTop o_restIds o_fIds o_fQty o_fPrice o_lvlIds o_lvlR o_lvlA o_minAlloc o_topCap o_accepted o_stampCounter o_restN o_fN o_lvlN po) _
    exact ok_topStep_72 h
theorem ok_topStep_35 {o_oSide : List Int32} {o_oPrice : List Int32} {o_oRem : List Int32} {o_oFilled : List Int32} {o_oStatus : List Int32} {o_oStamp : List Int64} {o_oTop : List Int32} {o_restIds : List Int32} {o_fIds : List Int32} {o_fQty : List Int32} {o_fPrice : List Int32} {o_lvlIds : List Int32} {o_lvlR : List Int32} {o_minAlloc : Int32} {o_topCap : Int32} {o_accepted : Int32} {o_stampCounter : Int64} {o_restN : Int32} {o_fN : Int32} {o_lvlN : Int32} {c0 : ACell} {po : List ACell} : ∀ {o_lvlA : List Int32} {v1 : Int32} {v2 : Int32} {d3 d4 : Slot} {res : Int32} {w_o_lvlA : List Int32}, f_topStep_35 o_oTop o_lvlIds o_lvlR o_topCap o_lvlN o_lvlA v1 v2 = some (res, w_o_lvlA) → OEnds own_P 25 35 [.val (.ref 1), .val (.int v1), .val (.int v2), d3, d4] [] (c0 :: bk0 o_oSide o_oPrice o_oRem o_oFilled o_oStatus o_oStamp o_oTop o_restIds o_fIds o_fQty o_fPrice o_lvlIds o_lvlR o_lvlA o_minAlloc o_topCap o_accepted o_stampCounter o_restN o_fN o_lvlN po) (some (.int res), (c0 :: bk0 o_oSide o_oPrice o_oRem o_oFilled o_oStatus o_oStamp o_oTop o_restIds o_fIds o_fQty o_fPrice o_lvlIds o_lvlR w_o_lvlA o_minAlloc o_topCap o_accepted o_stampCounter o_restN o_fN o_lvlN po), 0, 0) := by
  intro o_lvlA v1 v2 d3 d4 res w_o_lvlA h
  unfold f_topStep_35 at h
  refine OEnds.adv hm_25 5 (pc' := 43) (L' := [.val (.ref 1), .val (.int v1), .val (.int v2), .unset, .val (.int v1)]) (S' := [.int v2, .ref 14]) (H' := (c0 :: bk0 o_oSide o_oPrice o_oRem o_oFilled o_oStatus o_oStamp o_oTop o_restIds o_fIds o_fQty o_fPrice o_lvlIds o_lvlR o_lvlA o_minAlloc o_topCap o_accepted o_stampCounter o_restN o_fN o_lvlN po)) rfl ?_
  obtain ⟨x35, hx35, h⟩ := bnd h
  refine OEnds.plain hm_25 rfl rfl (x_iaload rfl hx35) ?_
  refine OEnds.adv hm_25 1 (pc' := 46) (L' := [.val (.ref 1), .val (.int v1), .val (.int v2), .unset, .val (.int v1)]) (S' := [.int v1, .int x35]) (H' := (c0 :: bk0 o_oSide o_oPrice o_oRem o_oFilled o_oStatus o_oStamp o_oTop o_restIds o_fIds o_fQty o_fPrice o_lvlIds o_lvlR o_lvlA o_minAlloc o_topCap o_accepted o_stampCounter o_restN o_fN o_lvlN po)) rfl ?_
  by_cases hc39 : x35 < v1
  · simp only [if_pos hc39] at h
    refine OEnds.icmpF hm_25 rfl ((tlt hc39).2.1) ?_
    refine OEnds.adv hm_25 3 (pc' := 54) (L' := [.val (.ref 1), .val (.int v1), .val (.int v2), .unset, .val (.int v1)]) (S' := [.int v2, .ref 14]) (H' := (c0 :: bk0 o_oSide o_oPrice o_oRem o_oFilled o_oStatus o_oStamp o_oTop o_restIds o_fIds o_fQty o_fPrice o_lvlIds o_lvlR o_lvlA o_minAlloc o_topCap o_accepted o_stampCounter o_restN o_fN o_lvlN po)) rfl ?_
    obtain ⟨x36, hx36, h⟩ := bnd h
    refine OEnds.plain hm_25 rfl rfl (x_iaload rfl hx36) ?_
    refine OEnds.adv hm_25 1 (pc' := 57) (L' := [.val (.ref 1), .val (.int v1), .val (.int v2), .unset, .val (.int x36)]) (S' := []) (H' := (c0 :: bk0 o_oSide o_oPrice o_oRem o_oFilled o_oStatus o_oStamp o_oTop o_restIds o_fIds o_fQty o_fPrice o_lvlIds o_lvlR o_lvlA o_minAlloc o_topCap o_accepted o_stampCounter o_restN o_fN o_lvlN po)) rfl ?_
    exact ok_topStep_57 h
  · simp only [if_neg hc39] at h
    refine OEnds.icmpT hm_25 rfl (q := 57) rfl ((flt hc39).2.1) ?_
    show OEnds own_P 25 57 [.val (.ref 1), .val (.int v1), .val (.int v2), .unset, .val (.int v1)] [] (c0 :: bk0 o_oSide o_oPrice o_oRem o_oFilled o_oStatus o_oStamp o_oTop o_restIds o_fIds o_fQty o_fPrice o_lvlIds o_lvlR o_lvlA o_minAlloc o_topCap o_accepted o_stampCounter o_restN o_fN o_lvlN po) _
    exact ok_topStep_57 h
theorem ok_topStep_11 {o_oSide : List Int32} {o_oPrice : List Int32} {o_oRem : List Int32} {o_oFilled : List Int32} {o_oStatus : List Int32} {o_oStamp : List Int64} {o_oTop : List Int32} {o_restIds : List Int32} {o_fIds : List Int32} {o_fQty : List Int32} {o_fPrice : List Int32} {o_lvlIds : List Int32} {o_lvlR : List Int32} {o_minAlloc : Int32} {o_topCap : Int32} {o_accepted : Int32} {o_stampCounter : Int64} {o_restN : Int32} {o_fN : Int32} {o_lvlN : Int32} {c0 : ACell} {po : List ACell} {k35 : List Int32 → Int32 → Int32 → Option (Int32 × List Int32)} (hk35 : ∀ {o_lvlA : List Int32} {v1 : Int32} {v2 : Int32} {d3 d4 : Slot} {res : Int32} {w_o_lvlA : List Int32}, k35 o_lvlA v1 v2 = some (res, w_o_lvlA) → OEnds own_P 25 35 [.val (.ref 1), .val (.int v1), .val (.int v2), d3, d4] [] (c0 :: bk0 o_oSide o_oPrice o_oRem o_oFilled o_oStatus o_oStamp o_oTop o_restIds o_fIds o_fQty o_fPrice o_lvlIds o_lvlR o_lvlA o_minAlloc o_topCap o_accepted o_stampCounter o_restN o_fN o_lvlN po) (some (.int res), (c0 :: bk0 o_oSide o_oPrice o_oRem o_oFilled o_oStatus o_oStamp o_oTop o_restIds o_fIds o_fQty o_fPrice o_lvlIds o_lvlR w_o_lvlA o_minAlloc o_topCap o_accepted o_stampCounter o_restN o_fN o_lvlN po), 0, 0)) : ∀ (n : Nat), ∀ {o_lvlA : List Int32} {v1 : Int32} {v2 : Int32} {d3 d4 : Slot} {res : Int32} {w_o_lvlA : List Int32}, f_topStep_11 k35 o_oTop o_lvlIds o_lvlR o_topCap o_lvlN n o_lvlA v1 v2 = some (res, w_o_lvlA) → OEnds own_P 25 11 [.val (.ref 1), .val (.int v1), .val (.int v2), d3, d4] [] (c0 :: bk0 o_oSide o_oPrice o_oRem o_oFilled o_oStatus o_oStamp o_oTop o_restIds o_fIds o_fQty o_fPrice o_lvlIds o_lvlR o_lvlA o_minAlloc o_topCap o_accepted o_stampCounter o_restN o_fN o_lvlN po) (some (.int res), (c0 :: bk0 o_oSide o_oPrice o_oRem o_oFilled o_oStatus o_oStamp o_oTop o_restIds o_fIds o_fQty o_fPrice o_lvlIds o_lvlR w_o_lvlA o_minAlloc o_topCap o_accepted o_stampCounter o_restN o_fN o_lvlN po), 0, 0) := by
  intro n
  induction n with
  | zero => intro o_lvlA v1 v2 d3 d4 res w_o_lvlA h; cases h
  | succ n ih =>
    intro o_lvlA v1 v2 d3 d4 res w_o_lvlA h
    unfold f_topStep_11 at h
    refine OEnds.adv hm_25 3 (pc' := 16) (L' := [.val (.ref 1), .val (.int v1), .val (.int v2), .unset, .unset]) (S' := [.int o_lvlN, .int v2]) (H' := (c0 :: bk0 o_oSide o_oPrice o_oRem o_oFilled o_oStatus o_oStamp o_oTop o_restIds o_fIds o_fQty o_fPrice o_lvlIds o_lvlR o_lvlA o_minAlloc o_topCap o_accepted o_stampCounter o_restN o_fN o_lvlN po)) rfl ?_
    by_cases hc40 : v2 < o_lvlN
    · simp only [if_pos hc40] at h
      refine OEnds.icmpF hm_25 rfl ((tlt hc40).2.1) ?_
      refine OEnds.adv hm_25 3 (pc' := 24) (L' := [.val (.ref 1), .val (.int v1), .val (.int v2), .unset, .unset]) (S' := [.int v2, .ref 13]) (H' := (c0 :: bk0 o_oSide o_oPrice o_oRem o_oFilled o_oStatus o_oStamp o_oTop o_restIds o_fIds o_fQty o_fPrice o_lvlIds o_lvlR o_lvlA o_minAlloc o_topCap o_accepted o_stampCounter o_restN o_fN o_lvlN po)) rfl ?_
      obtain ⟨x33, hx33, h⟩ := bnd h
      refine OEnds.plain hm_25 rfl rfl (x_iaload rfl hx33) ?_
      refine OEnds.adv hm_25 4 (pc' := 31) (L' := [.val (.ref 1), .val (.int v1), .val (.int v2), .val (.int x33), .unset]) (S' := [.int x33, .ref 8]) (H' := (c0 :: bk0 o_oSide o_oPrice o_oRem o_oFilled o_oStatus o_oStamp o_oTop o_restIds o_fIds o_fQty o_fPrice o_lvlIds o_lvlR o_lvlA o_minAlloc o_topCap o_accepted o_stampCounter o_restN o_fN o_lvlN po)) rfl ?_
      obtain ⟨x34, hx34, h⟩ := bnd h
      refine OEnds.plain hm_25 rfl rfl (x_baload rfl hx34) ?_
      show OEnds own_P 25 32 [.val (.ref 1), .val (.int v1), .val (.int v2), .val (.int x33), .unset] [.int x34] (c0 :: bk0 o_oSide o_oPrice o_oRem o_oFilled o_oStatus o_oStamp o_oTop o_restIds o_fIds o_fQty o_fPrice o_lvlIds o_lvlR o_lvlA o_minAlloc o_topCap o_accepted o_stampCounter o_restN o_fN o_lvlN po) _
      by_cases hc41 : x34 = (0 : Int32)
      · simp only [if_pos hc41] at h
        refine OEnds.ifT hm_25 rfl (q := 94) rfl ((teq hc41).1) ?_
        refine OEnds.adv hm_25 2 (pc' := 11) (L' := [.val (.ref 1), .val (.int v1), .val (.int (v2 + (1 : Int32))), .val (.int x33), .unset]) (S' := []) (H' := (c0 :: bk0 o_oSide o_oPrice o_oRem o_oFilled o_oStatus o_oStamp o_oTop o_restIds o_fIds o_fQty o_fPrice o_lvlIds o_lvlR o_lvlA o_minAlloc o_topCap o_accepted o_stampCounter o_restN o_fN o_lvlN po)) rfl ?_
        exact ih h
      · simp only [if_neg hc41] at h
        refine OEnds.ifF hm_25 rfl ((feq hc41).1) ?_
        show OEnds own_P 25 35 [.val (.ref 1), .val (.int v1), .val (.int v2), .val (.int x33), .unset] [] (c0 :: bk0 o_oSide o_oPrice o_oRem o_oFilled o_oStatus o_oStamp o_oTop o_restIds o_fIds o_fQty o_fPrice o_lvlIds o_lvlR o_lvlA o_minAlloc o_topCap o_accepted o_stampCounter o_restN o_fN o_lvlN po) _
        exact hk35 h
    · simp only [if_neg hc40] at h
      refine OEnds.icmpT hm_25 rfl (q := 100) rfl ((flt hc40).2.1) ?_
      refine OEnds.adv hm_25 1 (pc' := 101) (L' := [.val (.ref 1), .val (.int v1), .val (.int v2), .unset, .unset]) (S' := [.int 0]) (H' := (c0 :: bk0 o_oSide o_oPrice o_oRem o_oFilled o_oStatus o_oStamp o_oTop o_restIds o_fIds o_fQty o_fPrice o_lvlIds o_lvlR o_lvlA o_minAlloc o_topCap o_accepted o_stampCounter o_restN o_fN o_lvlN po)) rfl ?_
      cases h
      exact OEnds.iret hm_25 rfl rfl
theorem ok_topStep {o_oSide : List Int32} {o_oPrice : List Int32} {o_oRem : List Int32} {o_oFilled : List Int32} {o_oStatus : List Int32} {o_oStamp : List Int64} {o_oTop : List Int32} {o_restIds : List Int32} {o_fIds : List Int32} {o_fQty : List Int32} {o_fPrice : List Int32} {o_lvlIds : List Int32} {o_lvlR : List Int32} {o_minAlloc : Int32} {o_topCap : Int32} {o_accepted : Int32} {o_stampCounter : Int64} {o_restN : Int32} {o_fN : Int32} {o_lvlN : Int32} {c0 : ACell} {po : List ACell} {o_lvlA : List Int32} {v1 : Int32} {res : Int32} {w_o_lvlA : List Int32} (h : f_topStep o_oTop o_lvlIds o_lvlR o_topCap o_lvlN o_lvlA v1 = some (res, w_o_lvlA)) : OEnds own_P 25 0 [.val (.ref 1), .val (.int v1), .unset, .unset, .unset] [] (c0 :: bk0 o_oSide o_oPrice o_oRem o_oFilled o_oStatus o_oStamp o_oTop o_restIds o_fIds o_fQty o_fPrice o_lvlIds o_lvlR o_lvlA o_minAlloc o_topCap o_accepted o_stampCounter o_restN o_fN o_lvlN po) (some (.int res), (c0 :: bk0 o_oSide o_oPrice o_oRem o_oFilled o_oStatus o_oStamp o_oTop o_restIds o_fIds o_fQty o_fPrice o_lvlIds o_lvlR w_o_lvlA o_minAlloc o_topCap o_accepted o_stampCounter o_restN o_fN o_lvlN po), 0, 0) := by
  unfold f_topStep at h
  refine OEnds.adv hm_25 2 (pc' := 4) (L' := [.val (.ref 1), .val (.int v1), .unset, .unset, .unset]) (S' := [.int o_topCap]) (H' := (c0 :: bk0 o_oSide o_oPrice o_oRem o_oFilled o_oStatus o_oStamp o_oTop o_restIds o_fIds o_fQty o_fPrice o_lvlIds o_lvlR o_lvlA o_minAlloc o_topCap o_accepted o_stampCounter o_restN o_fN o_lvlN po)) rfl ?_
  by_cases hc42 : (0 : Int32) < o_topCap
  · simp only [if_pos hc42] at h
    refine OEnds.ifT hm_25 rfl (q := 9) rfl ((tlt hc42).2.2.1) ?_
    refine OEnds.adv hm_25 2 (pc' := 11) (L' := [.val (.ref 1), .val (.int v1), .val (.int 0), .unset, .unset]) (S' := []) (H' := (c0 :: bk0 o_oSide o_oPrice o_oRem o_oFilled o_oStatus o_oStamp o_oTop o_restIds o_fIds o_fQty o_fPrice o_lvlIds o_lvlR o_lvlA o_minAlloc o_topCap o_accepted o_stampCounter o_restN o_fN o_lvlN po)) rfl ?_
    exact ok_topStep_11 (k35 := f_topStep_35 o_oTop o_lvlIds o_lvlR o_topCap o_lvlN) ok_topStep_35 100000 h
  · simp only [if_neg hc42] at h
    refine OEnds.ifF hm_25 rfl ((flt hc42).2.2.1) ?_
    refine OEnds.adv hm_25 1 (pc' := 8) (L' := [.val (.ref 1), .val (.int v1), .unset, .unset, .unset]) (S' := [.int 0]) (H' := (c0 :: bk0 o_oSide o_oPrice o_oRem o_oFilled o_oStatus o_oStamp o_oTop o_restIds o_fIds o_fQty o_fPrice o_lvlIds o_lvlR o_lvlA o_minAlloc o_topCap o_accepted o_stampCounter o_restN o_fN o_lvlN po)) rfl ?_
    cases h
    exact OEnds.iret hm_25 rfl rfl
theorem ok_proRataStep_102 {o_oSide : List Int32} {o_oPrice : List Int32} {o_oRem : List Int32} {o_oFilled : List Int32} {o_oStatus : List Int32} {o_oStamp : List Int64} {o_oTop : List Int32} {o_restIds : List Int32} {o_fIds : List Int32} {o_fQty : List Int32} {o_fPrice : List Int32} {o_lvlIds : List Int32} {o_lvlR : List Int32} {o_minAlloc : Int32} {o_topCap : Int32} {o_accepted : Int32} {o_stampCounter : Int64} {o_restN : Int32} {o_fN : Int32} {o_lvlN : Int32} {c0 : ACell} {po : List ACell} {kb : List Int32 → Int32 → Int64 → Int32 → Int32 → Option (Int32 × List Int32)} (hkb : ∀ {o_lvlA : List Int32} {v1 : Int32} {v2 : Int64} {v4 : Int32} {v5 : Int32} {d6 d7 d8 : Slot} {res : Int32} {w_o_lvlA : List Int32}, kb o_lvlA v1 v2 v4 v5 = some (res, w_o_lvlA) → OEnds own_P 28 53 [.val (.ref 1), .val (.int v1), .val (.long v2), .second, .val (.int v4), .val (.int v5), d6, d7, d8] [] (c0 :: bk0 o_oSide o_oPrice o_oRem o_oFilled o_oStatus o_oStamp o_oTop o_restIds o_fIds o_fQty o_fPrice o_lvlIds o_lvlR o_lvlA o_minAlloc o_topCap o_accepted o_stampCounter o_restN o_fN o_lvlN po) (some (.int res), (c0 :: bk0 o_oSide o_oPrice o_oRem o_oFilled o_oStatus o_oStamp o_oTop o_restIds o_fIds o_fQty o_fPrice o_lvlIds o_lvlR w_o_lvlA o_minAlloc o_topCap o_accepted o_stampCounter o_restN o_fN o_lvlN po), 0, 0)) : ∀ {o_lvlA : List Int32} {v1 : Int32} {v2 : Int64} {v4 : Int32} {v5 : Int32} {v8 : Int32} {d6 d7 : Slot} {res : Int32} {w_o_lvlA : List Int32}, f_proRataStep_102 kb o_lvlR o_minAlloc o_lvlN o_lvlA v1 v2 v4 v5 v8 = some (res, w_o_lvlA) → OEnds own_P 28 102 [.val (.ref 1), .val (.int v1), .val (.long v2), .second, .val (.int v4), .val (.int v5), d6, d7, .val (.int v8)] [] (c0 :: bk0 o_oSide o_oPrice o_oRem o_oFilled o_oStatus o_oStamp o_oTop o_restIds o_fIds o_fQty o_fPrice o_lvlIds o_lvlR o_lvlA o_minAlloc o_topCap o_accepted o_stampCounter o_restN o_fN o_lvlN po) (some (.int res), (c0 :: bk0 o_oSide o_oPrice o_oRem o_oFilled o_oStatus o_oStamp o_oTop o_restIds o_fIds o_fQty o_fPrice o_lvlIds o_lvlR w_o_lvlA o_minAlloc o_topCap o_accepted o_stampCounter o_restN o_fN o_lvlN po), 0, 0) := by
  intro o_lvlA v1 v2 v4 v5 v8 d6 d7 res w_o_lvlA h
  unfold f_proRataStep_102 at h
  refine OEnds.adv hm_28 4 (pc' := 109) (L' := [.val (.ref 1), .val (.int v1), .val (.long v2), .second, .val (.int v4), .val (.int v5), .unset, .unset, .val (.int v8)]) (S' := [.int v5, .ref 15, .int v5, .ref 15]) (H' := (c0 :: bk0 o_oSide o_oPrice o_oRem o_oFilled o_oStatus o_oStamp o_oTop o_restIds o_fIds o_fQty o_fPrice o_lvlIds o_lvlR o_lvlA o_minAlloc o_topCap o_accepted o_stampCounter o_restN o_fN o_lvlN po)) rfl ?_
  obtain ⟨x43, hx43, h⟩ := bnd h
  refine OEnds.plain hm_28 rfl rfl (x_iaload rfl hx43) ?_
  refine OEnds.adv hm_28 2 (pc' := 113) (L' := [.val (.ref 1), .val (.int v1), .val (.long v2), .second, .val (.int v4), .val (.int v5), .unset, .unset, .val (.int v8)]) (S' := [.int (x43 + v8), .int v5, .ref 15]) (H' := (c0 :: bk0 o_oSide o_oPrice o_oRem o_oFilled o_oStatus o_oStamp o_oTop o_restIds o_fIds o_fQty o_fPrice o_lvlIds o_lvlR o_lvlA o_minAlloc o_topCap o_accepted o_stampCounter o_restN o_fN o_lvlN po)) rfl ?_
  obtain ⟨A44, hA44, h⟩ := bnd h
  refine OEnds.plain hm_28 rfl rfl (x_iastore rfl (Nat.le_of_ble_eq_true rfl) hA44) ?_
  refine OEnds.adv hm_28 6 (pc' := 53) (L' := [.val (.ref 1), .val (.int v1), .val (.long v2), .second, .val (.int (v4 + v8)), .val (.int (v5 + (1 : Int32))), .unset, .unset, .val (.int v8)]) (S' := []) (H' := (c0 :: bk0 o_oSide o_oPrice o_oRem o_oFilled o_oStatus o_oStamp o_oTop o_restIds o_fIds o_fQty o_fPrice o_lvlIds o_lvlR A44 o_minAlloc o_topCap o_accepted o_stampCounter o_restN o_fN o_lvlN po)) rfl ?_
  exact hkb h
theorem ok_proRataStep_53 {o_oSide : List Int32} {o_oPrice : List Int32} {o_oRem : List Int32} {o_oFilled : List Int32} {o_oStatus : List Int32} {o_oStamp : List Int64} {o_oTop : List Int32} {o_restIds : List Int32} {o_fIds : List Int32} {o_fQty : List Int32} {o_fPrice : List Int32} {o_lvlIds : List Int32} {o_lvlR : List Int32} {o_minAlloc : Int32} {o_topCap : Int32} {o_accepted : Int32} {o_stampCounter : Int64} {o_restN : Int32} {o_fN : Int32} {o_lvlN : Int32} {c0 : ACell} {po : List ACell} : ∀ (n : Nat), ∀ {o_lvlA : List Int32} {v1 : Int32} {v2 : Int64} {v4 : Int32} {v5 : Int32} {d6 d7 d8 : Slot} {res : Int32} {w_o_lvlA : List Int32}, f_proRataStep_53 o_lvlR o_minAlloc o_lvlN n o_lvlA v1 v2 v4 v5 = some (res, w_o_lvlA) → OEnds own_P 28 53 [.val (.ref 1), .val (.int v1), .val (.long v2), .second, .val (.int v4), .val (.int v5), d6, d7, d8] [] (c0 :: bk0 o_oSide o_oPrice o_oRem o_oFilled o_oStatus o_oStamp o_oTop o_restIds o_fIds o_fQty o_fPrice o_lvlIds o_lvlR o_lvlA o_minAlloc o_topCap o_accepted o_stampCounter o_restN o_fN o_lvlN po) (some (.int res), (c0 :: bk0 o_oSide o_oPrice o_oRem o_oFilled o_oStatus o_oStamp o_oTop o_restIds o_fIds o_fQty o_fPrice o_lvlIds o_lvlR w_o_lvlA o_minAlloc o_topCap o_accepted o_stampCounter o_restN o_fN o_lvlN po), 0, 0) := by
  intro n
  induction n with
  | zero => intro o_lvlA v1 v2 v4 v5 d6 d7 d8 res w_o_lvlA h; cases h
  | succ n ih =>
    intro o_lvlA v1 v2 v4 v5 d6 d7 d8 res w_o_lvlA h
    unfold f_proRataStep_53 at h
    refine OEnds.adv hm_28 3 (pc' := 59) (L' := [.val (.ref 1), .val (.int v1), .val (.long v2), .second, .val (.int v4), .val (.int v5), .unset, .unset, .unset]) (S' := [.int o_lvlN, .int v5]) (H' := (c0 :: bk0 o_oSide o_oPrice o_oRem o_oFilled o_oStatus o_oStamp o_oTop o_restIds o_fIds o_fQty o_fPrice o_lvlIds o_lvlR o_lvlA o_minAlloc o_topCap o_accepted o_stampCounter o_restN o_fN o_lvlN po)) rfl ?_
    by_cases hc43 : v5 < o_lvlN
    · simp only [if_pos hc43] at h
      refine OEnds.icmpF hm_28 rfl ((tlt hc43).2.1) ?_
      refine OEnds.adv hm_28 3 (pc' := 68) (L' := [.val (.ref 1), .val (.int v1), .val (.long v2), .second, .val (.int v4), .val (.int v5), .unset, .unset, .unset]) (S' := [.int v5, .ref 14]) (H' := (c0 :: bk0 o_oSide o_oPrice o_oRem o_oFilled o_oStatus o_oStamp o_oTop o_restIds o_fIds o_fQty o_fPrice o_lvlIds o_lvlR o_lvlA o_minAlloc o_topCap o_accepted o_stampCounter o_restN o_fN o_lvlN po)) rfl ?_
      obtain ⟨x41, hx41, h⟩ := bnd h
      refine OEnds.plain hm_28 rfl rfl (x_iaload rfl hx41) ?_
      refine OEnds.adv hm_28 3 (pc' := 75) (L' := [.val (.ref 1), .val (.int v1), .val (.long v2), .second, .val (.int v4), .val (.int v5), .unset, .unset, .unset]) (S' := [.int v5, .ref 15, .int x41]) (H' := (c0 :: bk0 o_oSide o_oPrice o_oRem o_oFilled o_oStatus o_oStamp o_oTop o_restIds o_fIds o_fQty o_fPrice o_lvlIds o_lvlR o_lvlA o_minAlloc o_topCap o_accepted o_stampCounter o_restN o_fN o_lvlN po)) rfl ?_
      obtain ⟨x42, hx42, h⟩ := bnd h
      refine OEnds.plain hm_28 rfl rfl (x_iaload rfl hx42) ?_
      refine OEnds.adv hm_28 8 (pc' := 86) (L' := [.val (.ref 1), .val (.int v1), .val (.long v2), .second, .val (.int v4), .val (.int v5), .val (.long (x41 - x42).toInt64), .second, .unset]) (S' := [.long v2, .long (v1.toInt64 * (x41 - x42).toInt64)]) (H' := (c0 :: bk0 o_oSide o_oPrice o_oRem o_oFilled o_oStatus o_oStamp o_oTop o_restIds o_fIds o_fQty o_fPrice o_lvlIds o_lvlR o_lvlA o_minAlloc o_topCap o_accepted o_stampCounter o_restN o_fN o_lvlN po)) rfl ?_
      by_cases hz44 : v2 = 0
      · simp only [if_pos hz44] at h
        cases h
      simp only [if_neg hz44] at h
      refine OEnds.plain hm_28 rfl rfl (x_ldiv hz44) ?_
      refine OEnds.adv hm_28 5 (pc' := 96) (L' := [.val (.ref 1), .val (.int v1), .val (.long v2), .second, .val (.int v4), .val (.int v5), .val (.long (x41 - x42).toInt64), .second, .val (.int ((v1.toInt64 * (x41 - x42).toInt64) / v2).toInt32)]) (S' := [.int o_minAlloc, .int ((v1.toInt64 * (x41 - x42).toInt64) / v2).toInt32]) (H' := (c0 :: bk0 o_oSide o_oPrice o_oRem o_oFilled o_oStatus o_oStamp o_oTop o_restIds o_fIds o_fQty o_fPrice o_lvlIds o_lvlR o_lvlA o_minAlloc o_topCap o_accepted o_stampCounter o_restN o_fN o_lvlN po)) rfl ?_
      by_cases hc45 : ((v1.toInt64 * (x41 - x42).toInt64) / v2).toInt32 < o_minAlloc
      · simp only [if_pos hc45] at h
        refine OEnds.icmpF hm_28 rfl ((tlt hc45).2.1) ?_
        refine OEnds.adv hm_28 2 (pc' := 102) (L' := [.val (.ref 1), .val (.int v1), .val (.long v2), .second, .val (.int v4), .val (.int v5), .val (.long (x41 - x42).toInt64), .second, .val (.int 0)]) (S' := []) (H' := (c0 :: bk0 o_oSide o_oPrice o_oRem o_oFilled o_oStatus o_oStamp o_oTop o_restIds o_fIds o_fQty o_fPrice o_lvlIds o_lvlR o_lvlA o_minAlloc o_topCap o_accepted o_stampCounter o_restN o_fN o_lvlN po)) rfl ?_
        exact ok_proRataStep_102 ih h
      · simp only [if_neg hc45] at h
        refine OEnds.icmpT hm_28 rfl (q := 102) rfl ((flt hc45).2.1) ?_
        show OEnds own_P 28 102 [.val (.ref 1), .val (.int v1), .val (.long v2), .second, .val (.int v4), .val (.int v5), .val (.long (x41 - x42).toInt64), .second, .val (.int ((v1.toInt64 * (x41 - x42).toInt64) / v2).toInt32)] [] (c0 :: bk0 o_oSide o_oPrice o_oRem o_oFilled o_oStatus o_oStamp o_oTop o_restIds o_fIds o_fQty o_fPrice o_lvlIds o_lvlR o_lvlA o_minAlloc o_topCap o_accepted o_stampCounter o_restN o_fN o_lvlN po) _
        exact ok_proRataStep_102 ih h
    · simp only [if_neg hc43] at h
      refine OEnds.icmpT hm_28 rfl (q := 127) rfl ((flt hc43).2.1) ?_
      refine OEnds.adv hm_28 1 (pc' := 129) (L' := [.val (.ref 1), .val (.int v1), .val (.long v2), .second, .val (.int v4), .val (.int v5), .unset, .unset, .unset]) (S' := [.int v4]) (H' := (c0 :: bk0 o_oSide o_oPrice o_oRem o_oFilled o_oStatus o_oStamp o_oTop o_restIds o_fIds o_fQty o_fPrice o_lvlIds o_lvlR o_lvlA o_minAlloc o_topCap o_accepted o_stampCounter o_restN o_fN o_lvlN po)) rfl ?_
      cases h
      exact OEnds.iret hm_28 rfl rfl
theorem ok_proRataStep_39 {o_oSide : List Int32} {o_oPrice : List Int32} {o_oRem : List Int32} {o_oFilled : List Int32} {o_oStatus : List Int32} {o_oStamp : List Int64} {o_oTop : List Int32} {o_restIds : List Int32} {o_fIds : List Int32} {o_fQty : List Int32} {o_fPrice : List Int32} {o_lvlIds : List Int32} {o_lvlR : List Int32} {o_minAlloc : Int32} {o_topCap : Int32} {o_accepted : Int32} {o_stampCounter : Int64} {o_restN : Int32} {o_fN : Int32} {o_lvlN : Int32} {c0 : ACell} {po : List ACell} : ∀ {o_lvlA : List Int32} {v1 : Int32} {v2 : Int64} {d4 d5 d6 d7 d8 : Slot} {res : Int32} {w_o_lvlA : List Int32}, f_proRataStep_39 o_lvlR o_minAlloc o_lvlN o_lvlA v1 v2 = some (res, w_o_lvlA) → OEnds own_P 28 39 [.val (.ref 1), .val (.int v1), .val (.long v2), .second, d4, d5, d6, d7, d8] [] (c0 :: bk0 o_oSide o_oPrice o_oRem o_oFilled o_oStatus o_oStamp o_oTop o_restIds o_fIds o_fQty o_fPrice o_lvlIds o_lvlR o_lvlA o_minAlloc o_topCap o_accepted o_stampCounter o_restN o_fN o_lvlN po) (some (.int res), (c0 :: bk0 o_oSide o_oPrice o_oRem o_oFilled o_oStatus o_oStamp o_oTop o_restIds o_fIds o_fQty o_fPrice o_lvlIds o_lvlR w_o_lvlA o_minAlloc o_topCap o_accepted o_stampCounter o_restN o_fN o_lvlN po), 0, 0) := by
  intro o_lvlA v1 v2 d4 d5 d6 d7 d8 res w_o_lvlA h
  unfold f_proRataStep_39 at h
  refine OEnds.adv hm_28 3 (pc' := 42) (L' := [.val (.ref 1), .val (.int v1), .val (.long v2), .second, .unset, .unset, .unset, .unset, .unset]) (S' := [.int (XT.cmpL v2 (0 : Int64))]) (H' := (c0 :: bk0 o_oSide o_oPrice o_oRem o_oFilled o_oStatus o_oStamp o_oTop o_restIds o_fIds o_fQty o_fPrice o_lvlIds o_lvlR o_lvlA o_minAlloc o_topCap o_accepted o_stampCounter o_restN o_fN o_lvlN po)) rfl ?_
  by_cases hc46 : (0 : Int64) < v2
  · simp only [if_pos hc46] at h
    refine OEnds.ifT hm_28 rfl (q := 47) rfl ((tlt (c_gt.mpr hc46)).2.2.1) ?_
    refine OEnds.adv hm_28 4 (pc' := 53) (L' := [.val (.ref 1), .val (.int v1), .val (.long v2), .second, .val (.int 0), .val (.int 0), .unset, .unset, .unset]) (S' := []) (H' := (c0 :: bk0 o_oSide o_oPrice o_oRem o_oFilled o_oStatus o_oStamp o_oTop o_restIds o_fIds o_fQty o_fPrice o_lvlIds o_lvlR o_lvlA o_minAlloc o_topCap o_accepted o_stampCounter o_restN o_fN o_lvlN po)) rfl ?_
    exact ok_proRataStep_53 100000 h
  · simp only [if_neg hc46] at h
    refine OEnds.ifF hm_28 rfl ((flt (mt c_gt.mp hc46)).2.2.1) ?_
    refine OEnds.adv hm_28 1 (pc' := 46) (L' := [.val (.ref 1), .val (.int v1), .val (.long v2), .second, .unset, .unset, .unset, .unset, .unset]) (S' := [.int 0]) (H' := (c0 :: bk0 o_oSide o_oPrice o_oRem o_oFilled o_oStatus o_oStamp o_oTop o_restIds o_fIds o_fQty o_fPrice o_lvlIds o_lvlR o_lvlA o_minAlloc o_topCap o_accepted o_stampCounter o_restN o_fN o_lvlN po)) rfl ?_
    cases h
    exact OEnds.iret hm_28 rfl rfl
theorem ok_proRataStep_5 {o_oSide : List Int32} {o_oPrice : List Int32} {o_oRem : List Int32} {o_oFilled : List Int32} {o_oStatus : List Int32} {o_oStamp : List Int64} {o_oTop : List Int32} {o_restIds : List Int32} {o_fIds : List Int32} {o_fQty : List Int32} {o_fPrice : List Int32} {o_lvlIds : List Int32} {o_lvlR : List Int32} {o_minAlloc : Int32} {o_topCap : Int32} {o_accepted : Int32} {o_stampCounter : Int64} {o_restN : Int32} {o_fN : Int32} {o_lvlN : Int32} {c0 : ACell} {po : List ACell} {k39 : List Int32 → Int32 → Int64 → Option (Int32 × List Int32)} (hk39 : ∀ {o_lvlA : List Int32} {v1 : Int32} {v2 : Int64} {d4 d5 d6 d7 d8 : Slot} {res : Int32} {w_o_lvlA : List Int32}, k39 o_lvlA v1 v2 = some (res, w_o_lvlA) → OEnds own_P 28 39 [.val (.ref 1), .val (.int v1), .val (.long v2), .second, d4, d5, d6, d7, d8] [] (c0 :: bk0 o_oSide o_oPrice o_oRem o_oFilled o_oStatus o_oStamp o_oTop o_restIds o_fIds o_fQty o_fPrice o_lvlIds o_lvlR o_lvlA o_minAlloc o_topCap o_accepted o_stampCounter o_restN o_fN o_lvlN po) (some (.int res), (c0 :: bk0 o_oSide o_oPrice o_oRem o_oFilled o_oStatus o_oStamp o_oTop o_restIds o_fIds o_fQty o_fPrice o_lvlIds o_lvlR w_o_lvlA o_minAlloc o_topCap o_accepted o_stampCounter o_restN o_fN o_lvlN po), 0, 0)) : ∀ (n : Nat), ∀ {o_lvlA : List Int32} {v1 : Int32} {v2 : Int64} {v4 : Int32} {d5 d6 d7 d8 : Slot} {res : Int32} {w_o_lvlA : List Int32}, f_proRataStep_5 k39 o_lvlR o_minAlloc o_lvlN n o_lvlA v1 v2 v4 = some (res, w_o_lvlA) → OEnds own_P 28 5 [.val (.ref 1), .val (.int v1), .val (.long v2), .second, .val (.int v4), d5, d6, d7, d8] [] (c0 :: bk0 o_oSide o_oPrice o_oRem o_oFilled o_oStatus o_oStamp o_oTop o_restIds o_fIds o_fQty o_fPrice o_lvlIds o_lvlR o_lvlA o_minAlloc o_topCap o_accepted o_stampCounter o_restN o_fN o_lvlN po) (some (.int res), (c0 :: bk0 o_oSide o_oPrice o_oRem o_oFilled o_oStatus o_oStamp o_oTop o_restIds o_fIds o_fQty o_fPrice o_lvlIds o_lvlR w_o_lvlA o_minAlloc o_topCap o_accepted o_stampCounter o_restN o_fN o_lvlN po), 0, 0) := by
  intro n
  induction n with
  | zero => intro o_lvlA v1 v2 v4 d5 d6 d7 d8 res w_o_lvlA h; cases h
  | succ n ih =>
    intro o_lvlA v1 v2 v4 d5 d6 d7 d8 res w_o_lvlA h
    unfold f_proRataStep_5 at h
    refine OEnds.adv hm_28 3 (pc' := 11) (L' := [.val (.ref 1), .val (.int v1), .val (.long v2), .second, .val (.int v4), .unset, .unset, .unset, .unset]) (S' := [.int o_lvlN, .int v4]) (H' := (c0 :: bk0 o_oSide o_oPrice o_oRem o_oFilled o_oStatus o_oStamp o_oTop o_restIds o_fIds o_fQty o_fPrice o_lvlIds o_lvlR o_lvlA o_minAlloc o_topCap o_accepted o_stampCounter o_restN o_fN o_lvlN po)) rfl ?_
    by_cases hc47 : v4 < o_lvlN
    · simp only [if_pos hc47] at h
      refine OEnds.icmpF hm_28 rfl ((tlt hc47).2.1) ?_
      refine OEnds.adv hm_28 4 (pc' := 21) (L' := [.val (.ref 1), .val (.int v1), .val (.long v2), .second, .val (.int v4), .unset, .unset, .unset, .unset]) (S' := [.int v4, .ref 14, .long v2]) (H' := (c0 :: bk0 o_oSide o_oPrice o_oRem o_oFilled o_oStatus o_oStamp o_oTop o_restIds o_fIds o_fQty o_fPrice o_lvlIds o_lvlR o_lvlA o_minAlloc o_topCap o_accepted o_stampCounter o_restN o_fN o_lvlN po)) rfl ?_
      obtain ⟨x39, hx39, h⟩ := bnd h
      refine OEnds.plain hm_28 rfl rfl (x_iaload rfl hx39) ?_
      refine OEnds.adv hm_28 3 (pc' := 28) (L' := [.val (.ref 1), .val (.int v1), .val (.long v2), .second, .val (.int v4), .unset, .unset, .unset, .unset]) (S' := [.int v4, .ref 15, .int x39, .long v2]) (H' := (c0 :: bk0 o_oSide o_oPrice o_oRem o_oFilled o_oStatus o_oStamp o_oTop o_restIds o_fIds o_fQty o_fPrice o_lvlIds o_lvlR o_lvlA o_minAlloc o_topCap o_accepted o_stampCounter o_restN o_fN o_lvlN po)) rfl ?_
      obtain ⟨x40, hx40, h⟩ := bnd h
      refine OEnds.plain hm_28 rfl rfl (x_iaload rfl hx40) ?_
      refine OEnds.adv hm_28 6 (pc' := 5) (L' := [.val (.ref 1), .val (.int v1), .val (.long (v2 + (x39 - x40).toInt64)), .second, .val (.int (v4 + (1 : Int32))), .unset, .unset, .unset, .unset]) (S' := []) (H' := (c0 :: bk0 o_oSide o_oPrice o_oRem o_oFilled o_oStatus o_oStamp o_oTop o_restIds o_fIds o_fQty o_fPrice o_lvlIds o_lvlR o_lvlA o_minAlloc o_topCap o_accepted o_stampCounter o_restN o_fN o_lvlN po)) rfl ?_
      exact ih h
    · simp only [if_neg hc47] at h
      refine OEnds.icmpT hm_28 rfl (q := 39) rfl ((flt hc47).2.1) ?_
      show OEnds own_P 28 39 [.val (.ref 1), .val (.int v1), .val (.long v2), .second, .val (.int v4), .unset, .unset, .unset, .unset] [] (c0 :: bk0 o_oSide o_oPrice o_oRem o_oFilled o_oStatus o_oStamp o_oTop o_restIds o_fIds o_fQty o_fPrice o_lvlIds o_lvlR o_lvlA o_minAlloc o_topCap o_accepted o_stampCounter o_restN o_fN o_lvlN po) _
      exact hk39 h
theorem ok_proRataStep {o_oSide : List Int32} {o_oPrice : List Int32} {o_oRem : List Int32} {o_oFilled : List Int32} {o_oStatus : List Int32} {o_oStamp : List Int64} {o_oTop : List Int32} {o_restIds : List Int32} {o_fIds : List Int32} {o_fQty : List Int32} {o_fPrice : List Int32} {o_lvlIds : List Int32} {o_lvlR : List Int32} {o_minAlloc : Int32} {o_topCap : Int32} {o_accepted : Int32} {o_stampCounter : Int64} {o_restN : Int32} {o_fN : Int32} {o_lvlN : Int32} {c0 : ACell} {po : List ACell} {o_lvlA : List Int32} {v1 : Int32} {res : Int32} {w_o_lvlA : List Int32} (h : f_proRataStep o_lvlR o_minAlloc o_lvlN o_lvlA v1 = some (res, w_o_lvlA)) : OEnds own_P 28 0 [.val (.ref 1), .val (.int v1), .unset, .unset, .unset, .unset, .unset, .unset, .unset] [] (c0 :: bk0 o_oSide o_oPrice o_oRem o_oFilled o_oStatus o_oStamp o_oTop o_restIds o_fIds o_fQty o_fPrice o_lvlIds o_lvlR o_lvlA o_minAlloc o_topCap o_accepted o_stampCounter o_restN o_fN o_lvlN po) (some (.int res), (c0 :: bk0 o_oSide o_oPrice o_oRem o_oFilled o_oStatus o_oStamp o_oTop o_restIds o_fIds o_fQty o_fPrice o_lvlIds o_lvlR w_o_lvlA o_minAlloc o_topCap o_accepted o_stampCounter o_restN o_fN o_lvlN po), 0, 0) := by
  unfold f_proRataStep at h
  refine OEnds.adv hm_28 4 (pc' := 5) (L' := [.val (.ref 1), .val (.int v1), .val (.long 0), .second, .val (.int 0), .unset, .unset, .unset, .unset]) (S' := []) (H' := (c0 :: bk0 o_oSide o_oPrice o_oRem o_oFilled o_oStatus o_oStamp o_oTop o_restIds o_fIds o_fQty o_fPrice o_lvlIds o_lvlR o_lvlA o_minAlloc o_topCap o_accepted o_stampCounter o_restN o_fN o_lvlN po)) rfl ?_
  exact ok_proRataStep_5 (k39 := f_proRataStep_39 o_lvlR o_minAlloc o_lvlN) ok_proRataStep_39 100000 h
theorem ok_timeStep_43 {o_oSide : List Int32} {o_oPrice : List Int32} {o_oRem : List Int32} {o_oFilled : List Int32} {o_oStatus : List Int32} {o_oStamp : List Int64} {o_oTop : List Int32} {o_restIds : List Int32} {o_fIds : List Int32} {o_fQty : List Int32} {o_fPrice : List Int32} {o_lvlIds : List Int32} {o_lvlR : List Int32} {o_minAlloc : Int32} {o_topCap : Int32} {o_accepted : Int32} {o_stampCounter : Int64} {o_restN : Int32} {o_fN : Int32} {o_lvlN : Int32} {c0 : ACell} {po : List ACell} {kb : List Int32 → Int32 → Int32 → Option (List Int32)} (hkb : ∀ {o_lvlA : List Int32} {v2 : Int32} {v3 : Int32} {d1 d4 d5 : Slot} {w_o_lvlA : List Int32}, kb o_lvlA v2 v3 = some w_o_lvlA → OEnds own_P 26 4 [.val (.ref 1), d1, .val (.int v2), .val (.int v3), d4, d5] [] (c0 :: bk0 o_oSide o_oPrice o_oRem o_oFilled o_oStatus o_oStamp o_oTop o_restIds o_fIds o_fQty o_fPrice o_lvlIds o_lvlR o_lvlA o_minAlloc o_topCap o_accepted o_stampCounter o_restN o_fN o_lvlN po) (none, (c0 :: bk0 o_oSide o_oPrice o_oRem o_oFilled o_oStatus o_oStamp o_oTop o_restIds o_fIds o_fQty o_fPrice o_lvlIds o_lvlR w_o_lvlA o_minAlloc o_topCap o_accepted o_stampCounter o_restN o_fN o_lvlN po), 0, 0)) : ∀ {o_lvlA : List Int32} {v2 : Int32} {v3 : Int32} {t0 : Int32} {d1 d4 d5 : Slot} {w_o_lvlA : List Int32}, f_timeStep_43 kb o_lvlR o_lvlN o_lvlA v2 v3 t0 = some w_o_lvlA → OEnds own_P 26 43 [.val (.ref 1), d1, .val (.int v2), .val (.int v3), d4, d5] [.int t0] (c0 :: bk0 o_oSide o_oPrice o_oRem o_oFilled o_oStatus o_oStamp o_oTop o_restIds o_fIds o_fQty o_fPrice o_lvlIds o_lvlR o_lvlA o_minAlloc o_topCap o_accepted o_stampCounter o_restN o_fN o_lvlN po) (none, (c0 :: bk0 o_oSide o_oPrice o_oRem o_oFilled o_oStatus o_oStamp o_oTop o_restIds o_fIds o_fQty o_fPrice o_lvlIds o_lvlR w_o_lvlA o_minAlloc o_topCap o_accepted o_stampCounter o_restN o_fN o_lvlN po), 0, 0) := by
  intro o_lvlA v2 v3 t0 d1 d4 d5 w_o_lvlA h
  unfold f_timeStep_43 at h
  refine OEnds.adv hm_26 2 (pc' := 47) (L' := [.val (.ref 1), .unset, .val (.int v2), .val (.int v3), .unset, .val (.int t0)]) (S' := [.int t0]) (H' := (c0 :: bk0 o_oSide o_oPrice o_oRem o_oFilled o_oStatus o_oStamp o_oTop o_restIds o_fIds o_fQty o_fPrice o_lvlIds o_lvlR o_lvlA o_minAlloc o_topCap o_accepted o_stampCounter o_restN o_fN o_lvlN po)) rfl ?_
  by_cases hc48 : (0 : Int32) < t0
  · simp only [if_pos hc48] at h
    refine OEnds.ifF hm_26 rfl ((tlt hc48).2.2.2) ?_
    refine OEnds.adv hm_26 4 (pc' := 56) (L' := [.val (.ref 1), .unset, .val (.int v2), .val (.int v3), .unset, .val (.int t0)]) (S' := [.int v3, .ref 15, .int v3, .ref 15]) (H' := (c0 :: bk0 o_oSide o_oPrice o_oRem o_oFilled o_oStatus o_oStamp o_oTop o_restIds o_fIds o_fQty o_fPrice o_lvlIds o_lvlR o_lvlA o_minAlloc o_topCap o_accepted o_stampCounter o_restN o_fN o_lvlN po)) rfl ?_
    obtain ⟨x47, hx47, h⟩ := bnd h
    refine OEnds.plain hm_26 rfl rfl (x_iaload rfl hx47) ?_
    refine OEnds.adv hm_26 2 (pc' := 60) (L' := [.val (.ref 1), .unset, .val (.int v2), .val (.int v3), .unset, .val (.int t0)]) (S' := [.int (x47 + t0), .int v3, .ref 15]) (H' := (c0 :: bk0 o_oSide o_oPrice o_oRem o_oFilled o_oStatus o_oStamp o_oTop o_restIds o_fIds o_fQty o_fPrice o_lvlIds o_lvlR o_lvlA o_minAlloc o_topCap o_accepted o_stampCounter o_restN o_fN o_lvlN po)) rfl ?_
    obtain ⟨A48, hA48, h⟩ := bnd h
    refine OEnds.plain hm_26 rfl rfl (x_iastore rfl (Nat.le_of_ble_eq_true rfl) hA48) ?_
    refine OEnds.adv hm_26 6 (pc' := 4) (L' := [.val (.ref 1), .unset, .val (.int (v2 - t0)), .val (.int (v3 + (1 : Int32))), .unset, .val (.int t0)]) (S' := []) (H' := (c0 :: bk0 o_oSide o_oPrice o_oRem o_oFilled o_oStatus o_oStamp o_oTop o_restIds o_fIds o_fQty o_fPrice o_lvlIds o_lvlR A48 o_minAlloc o_topCap o_accepted o_stampCounter o_restN o_fN o_lvlN po)) rfl ?_
    exact hkb h
  · simp only [if_neg hc48] at h
    refine OEnds.ifT hm_26 rfl (q := 66) rfl ((flt hc48).2.2.2) ?_
    refine OEnds.adv hm_26 2 (pc' := 4) (L' := [.val (.ref 1), .unset, .val (.int v2), .val (.int (v3 + (1 : Int32))), .unset, .val (.int t0)]) (S' := []) (H' := (c0 :: bk0 o_oSide o_oPrice o_oRem o_oFilled o_oStatus o_oStamp o_oTop o_restIds o_fIds o_fQty o_fPrice o_lvlIds o_lvlR o_lvlA o_minAlloc o_topCap o_accepted o_stampCounter o_restN o_fN o_lvlN po)) rfl ?_
    exact hkb h
theorem ok_timeStep_4 {o_oSide : List Int32} {o_oPrice : List Int32} {o_oRem : List Int32} {o_oFilled : List Int32} {o_oStatus : List Int32} {o_oStamp : List Int64} {o_oTop : List Int32} {o_restIds : List Int32} {o_fIds : List Int32} {o_fQty : List Int32} {o_fPrice : List Int32} {o_lvlIds : List Int32} {o_lvlR : List Int32} {o_minAlloc : Int32} {o_topCap : Int32} {o_accepted : Int32} {o_stampCounter : Int64} {o_restN : Int32} {o_fN : Int32} {o_lvlN : Int32} {c0 : ACell} {po : List ACell} : ∀ (n : Nat), ∀ {o_lvlA : List Int32} {v2 : Int32} {v3 : Int32} {d1 d4 d5 : Slot} {w_o_lvlA : List Int32}, f_timeStep_4 o_lvlR o_lvlN n o_lvlA v2 v3 = some w_o_lvlA → OEnds own_P 26 4 [.val (.ref 1), d1, .val (.int v2), .val (.int v3), d4, d5] [] (c0 :: bk0 o_oSide o_oPrice o_oRem o_oFilled o_oStatus o_oStamp o_oTop o_restIds o_fIds o_fQty o_fPrice o_lvlIds o_lvlR o_lvlA o_minAlloc o_topCap o_accepted o_stampCounter o_restN o_fN o_lvlN po) (none, (c0 :: bk0 o_oSide o_oPrice o_oRem o_oFilled o_oStatus o_oStamp o_oTop o_restIds o_fIds o_fQty o_fPrice o_lvlIds o_lvlR w_o_lvlA o_minAlloc o_topCap o_accepted o_stampCounter o_restN o_fN o_lvlN po), 0, 0) := by
  intro n
  induction n with
  | zero => intro o_lvlA v2 v3 d1 d4 d5 w_o_lvlA h; cases h
  | succ n ih =>
    intro o_lvlA v2 v3 d1 d4 d5 w_o_lvlA h
    unfold f_timeStep_4 at h
    refine OEnds.adv hm_26 3 (pc' := 9) (L' := [.val (.ref 1), .unset, .val (.int v2), .val (.int v3), .unset, .unset]) (S' := [.int o_lvlN, .int v3]) (H' := (c0 :: bk0 o_oSide o_oPrice o_oRem o_oFilled o_oStatus o_oStamp o_oTop o_restIds o_fIds o_fQty o_fPrice o_lvlIds o_lvlR o_lvlA o_minAlloc o_topCap o_accepted o_stampCounter o_restN o_fN o_lvlN po)) rfl ?_
    by_cases hc49 : v3 < o_lvlN
    · simp only [if_pos hc49] at h
      refine OEnds.icmpF hm_26 rfl ((tlt hc49).2.1) ?_
      refine OEnds.adv hm_26 1 (pc' := 13) (L' := [.val (.ref 1), .unset, .val (.int v2), .val (.int v3), .unset, .unset]) (S' := [.int v2]) (H' := (c0 :: bk0 o_oSide o_oPrice o_oRem o_oFilled o_oStatus o_oStamp o_oTop o_restIds o_fIds o_fQty o_fPrice o_lvlIds o_lvlR o_lvlA o_minAlloc o_topCap o_accepted o_stampCounter o_restN o_fN o_lvlN po)) rfl ?_
      by_cases hc50 : (0 : Int32) < v2
      · simp only [if_pos hc50] at h
        refine OEnds.ifF hm_26 rfl ((tlt hc50).2.2.2) ?_
        refine OEnds.adv hm_26 3 (pc' := 21) (L' := [.val (.ref 1), .unset, .val (.int v2), .val (.int v3), .unset, .unset]) (S' := [.int v3, .ref 14]) (H' := (c0 :: bk0 o_oSide o_oPrice o_oRem o_oFilled o_oStatus o_oStamp o_oTop o_restIds o_fIds o_fQty o_fPrice o_lvlIds o_lvlR o_lvlA o_minAlloc o_topCap o_accepted o_stampCounter o_restN o_fN o_lvlN po)) rfl ?_
        obtain ⟨x45, hx45, h⟩ := bnd h
        refine OEnds.plain hm_26 rfl rfl (x_iaload rfl hx45) ?_
        refine OEnds.adv hm_26 3 (pc' := 27) (L' := [.val (.ref 1), .unset, .val (.int v2), .val (.int v3), .unset, .unset]) (S' := [.int v3, .ref 15, .int x45]) (H' := (c0 :: bk0 o_oSide o_oPrice o_oRem o_oFilled o_oStatus o_oStamp o_oTop o_restIds o_fIds o_fQty o_fPrice o_lvlIds o_lvlR o_lvlA o_minAlloc o_topCap o_accepted o_stampCounter o_restN o_fN o_lvlN po)) rfl ?_
        obtain ⟨x46, hx46, h⟩ := bnd h
        refine OEnds.plain hm_26 rfl rfl (x_iaload rfl hx46) ?_
        refine OEnds.adv hm_26 4 (pc' := 34) (L' := [.val (.ref 1), .unset, .val (.int v2), .val (.int v3), .val (.int (x45 - x46)), .unset]) (S' := [.int (x45 - x46), .int v2]) (H' := (c0 :: bk0 o_oSide o_oPrice o_oRem o_oFilled o_oStatus o_oStamp o_oTop o_restIds o_fIds o_fQty o_fPrice o_lvlIds o_lvlR o_lvlA o_minAlloc o_topCap o_accepted o_stampCounter o_restN o_fN o_lvlN po)) rfl ?_
        by_cases hc51 : v2 < (x45 - x46)
        · simp only [if_pos hc51] at h
          refine OEnds.icmpF hm_26 rfl ((tlt hc51).2.1) ?_
          refine OEnds.adv hm_26 2 (pc' := 43) (L' := [.val (.ref 1), .unset, .val (.int v2), .val (.int v3), .val (.int (x45 - x46)), .unset]) (S' := [.int v2]) (H' := (c0 :: bk0 o_oSide o_oPrice o_oRem o_oFilled o_oStatus o_oStamp o_oTop o_restIds o_fIds o_fQty o_fPrice o_lvlIds o_lvlR o_lvlA o_minAlloc o_topCap o_accepted o_stampCounter o_restN o_fN o_lvlN po)) rfl ?_
          exact ok_timeStep_43 ih h
        · simp only [if_neg hc51] at h
          refine OEnds.icmpT hm_26 rfl (q := 41) rfl ((flt hc51).2.1) ?_
          refine OEnds.adv hm_26 1 (pc' := 43) (L' := [.val (.ref 1), .unset, .val (.int v2), .val (.int v3), .val (.int (x45 - x46)), .unset]) (S' := [.int (x45 - x46)]) (H' := (c0 :: bk0 o_oSide o_oPrice o_oRem o_oFilled o_oStatus o_oStamp o_oTop o_restIds o_fIds o_fQty o_fPrice o_lvlIds o_lvlR o_lvlA o_minAlloc o_topCap o_accepted o_stampCounter o_restN o_fN o_lvlN po)) rfl ?_
          exact ok_timeStep_43 ih h
      · simp only [if_neg hc50] at h
        refine OEnds.ifT hm_26 rfl (q := 72) rfl ((flt hc50).2.2.2) ?_
        show OEnds own_P 26 72 [.val (.ref 1), .unset, .val (.int v2), .val (.int v3), .unset, .unset] [] (c0 :: bk0 o_oSide o_oPrice o_oRem o_oFilled o_oStatus o_oStamp o_oTop o_restIds o_fIds o_fQty o_fPrice o_lvlIds o_lvlR o_lvlA o_minAlloc o_topCap o_accepted o_stampCounter o_restN o_fN o_lvlN po) _
        cases h
        exact OEnds.vret hm_26 rfl rfl
    · simp only [if_neg hc49] at h
      refine OEnds.icmpT hm_26 rfl (q := 72) rfl ((flt hc49).2.1) ?_
      show OEnds own_P 26 72 [.val (.ref 1), .unset, .val (.int v2), .val (.int v3), .unset, .unset] [] (c0 :: bk0 o_oSide o_oPrice o_oRem o_oFilled o_oStatus o_oStamp o_oTop o_restIds o_fIds o_fQty o_fPrice o_lvlIds o_lvlR o_lvlA o_minAlloc o_topCap o_accepted o_stampCounter o_restN o_fN o_lvlN po) _
      cases h
      exact OEnds.vret hm_26 rfl rfl
theorem ok_timeStep {o_oSide : List Int32} {o_oPrice : List Int32} {o_oRem : List Int32} {o_oFilled : List Int32} {o_oStatus : List Int32} {o_oStamp : List Int64} {o_oTop : List Int32} {o_restIds : List Int32} {o_fIds : List Int32} {o_fQty : List Int32} {o_fPrice : List Int32} {o_lvlIds : List Int32} {o_lvlR : List Int32} {o_minAlloc : Int32} {o_topCap : Int32} {o_accepted : Int32} {o_stampCounter : Int64} {o_restN : Int32} {o_fN : Int32} {o_lvlN : Int32} {c0 : ACell} {po : List ACell} {o_lvlA : List Int32} {v1 : Int32} {w_o_lvlA : List Int32} (h : f_timeStep o_lvlR o_lvlN o_lvlA v1 = some w_o_lvlA) : OEnds own_P 26 0 [.val (.ref 1), .val (.int v1), .unset, .unset, .unset, .unset] [] (c0 :: bk0 o_oSide o_oPrice o_oRem o_oFilled o_oStatus o_oStamp o_oTop o_restIds o_fIds o_fQty o_fPrice o_lvlIds o_lvlR o_lvlA o_minAlloc o_topCap o_accepted o_stampCounter o_restN o_fN o_lvlN po) (none, (c0 :: bk0 o_oSide o_oPrice o_oRem o_oFilled o_oStatus o_oStamp o_oTop o_restIds o_fIds o_fQty o_fPrice o_lvlIds o_lvlR w_o_lvlA o_minAlloc o_topCap o_accepted o_stampCounter o_restN o_fN o_lvlN po), 0, 0) := by
  unfold f_timeStep at h
  refine OEnds.adv hm_26 4 (pc' := 4) (L' := [.val (.ref 1), .val (.int v1), .val (.int v1), .val (.int 0), .unset, .unset]) (S' := []) (H' := (c0 :: bk0 o_oSide o_oPrice o_oRem o_oFilled o_oStatus o_oStamp o_oTop o_restIds o_fIds o_fQty o_fPrice o_lvlIds o_lvlR o_lvlA o_minAlloc o_topCap o_accepted o_stampCounter o_restN o_fN o_lvlN po)) rfl ?_
  exact ok_timeStep_4 100000 h
theorem ok_allocate_67 {o_oSide : List Int32} {o_oPrice : List Int32} {o_oRem : List Int32} {o_oFilled : List Int32} {o_oStatus : List Int32} {o_oStamp : List Int64} {o_oTop : List Int32} {o_restIds : List Int32} {o_fIds : List Int32} {o_fQty : List Int32} {o_fPrice : List Int32} {o_lvlIds : List Int32} {o_lvlR : List Int32} {o_minAlloc : Int32} {o_topCap : Int32} {o_accepted : Int32} {o_stampCounter : Int64} {o_restN : Int32} {o_fN : Int32} {o_lvlN : Int32} {c0 : ACell} {po : List ACell} : ∀ {o_lvlA : List Int32} {v3 : Int32} {v5 : Int32} {v6 : Int32} {d1 d2 d4 : Slot} {res : Int32} {w_o_lvlA : List Int32}, f_allocate_67 o_oTop o_lvlIds o_lvlR o_minAlloc o_topCap o_lvlN o_lvlA v3 v5 v6 = some (res, w_o_lvlA) → OEnds own_P 24 67 [.val (.ref 1), d1, d2, .val (.int v3), d4, .val (.int v5), .val (.int v6)] [] (c0 :: bk0 o_oSide o_oPrice o_oRem o_oFilled o_oStatus o_oStamp o_oTop o_restIds o_fIds o_fQty o_fPrice o_lvlIds o_lvlR o_lvlA o_minAlloc o_topCap o_accepted o_stampCounter o_restN o_fN o_lvlN po) (some (.int res), (c0 :: bk0 o_oSide o_oPrice o_oRem o_oFilled o_oStatus o_oStamp o_oTop o_restIds o_fIds o_fQty o_fPrice o_lvlIds o_lvlR w_o_lvlA o_minAlloc o_topCap o_accepted o_stampCounter o_restN o_fN o_lvlN po), 0, 0) := by
  intro o_lvlA v3 v5 v6 d1 d2 d4 res w_o_lvlA h
  unfold f_allocate_67 at h
  refine OEnds.adv hm_24 4 (pc' := 73) (L' := [.val (.ref 1), .unset, .unset, .val (.int v3), .unset, .val (.int v5), .val (.int v6)]) (S' := [.int (v5 - v6), .ref 1]) (H' := (c0 :: bk0 o_oSide o_oPrice o_oRem o_oFilled o_oStatus o_oStamp o_oTop o_restIds o_fIds o_fQty o_fPrice o_lvlIds o_lvlR o_lvlA o_minAlloc o_topCap o_accepted o_stampCounter o_restN o_fN o_lvlN po)) rfl ?_
  obtain ⟨s54, hq52, h⟩ := bnd h
  refine OEnds.call0 hm_24 rfl rfl (by decide) rfl (as := [.ref 1, .int (v5 - v6)]) (rest := []) rfl rfl (ok_timeStep hq52) ?_
  refine OEnds.adv hm_24 1 (pc' := 77) (L' := [.val (.ref 1), .unset, .unset, .val (.int v3), .unset, .val (.int v5), .val (.int v6)]) (S' := [.int v3]) (H' := (c0 :: bk0 o_oSide o_oPrice o_oRem o_oFilled o_oStatus o_oStamp o_oTop o_restIds o_fIds o_fQty o_fPrice o_lvlIds o_lvlR s54 o_minAlloc o_topCap o_accepted o_stampCounter o_restN o_fN o_lvlN po)) rfl ?_
  cases h
  exact OEnds.iret hm_24 rfl rfl
theorem ok_allocate_37 {o_oSide : List Int32} {o_oPrice : List Int32} {o_oRem : List Int32} {o_oFilled : List Int32} {o_oStatus : List Int32} {o_oStamp : List Int64} {o_oTop : List Int32} {o_restIds : List Int32} {o_fIds : List Int32} {o_fQty : List Int32} {o_fPrice : List Int32} {o_lvlIds : List Int32} {o_lvlR : List Int32} {o_minAlloc : Int32} {o_topCap : Int32} {o_accepted : Int32} {o_stampCounter : Int64} {o_restN : Int32} {o_fN : Int32} {o_lvlN : Int32} {c0 : ACell} {po : List ACell} : ∀ {o_lvlA : List Int32} {t0 : Int32} {d1 d2 d3 d4 d5 d6 : Slot} {res : Int32} {w_o_lvlA : List Int32}, f_allocate_37 o_oTop o_lvlIds o_lvlR o_minAlloc o_topCap o_lvlN o_lvlA t0 = some (res, w_o_lvlA) → OEnds own_P 24 37 [.val (.ref 1), d1, d2, d3, d4, d5, d6] [.int t0] (c0 :: bk0 o_oSide o_oPrice o_oRem o_oFilled o_oStatus o_oStamp o_oTop o_restIds o_fIds o_fQty o_fPrice o_lvlIds o_lvlR o_lvlA o_minAlloc o_topCap o_accepted o_stampCounter o_restN o_fN o_lvlN po) (some (.int res), (c0 :: bk0 o_oSide o_oPrice o_oRem o_oFilled o_oStatus o_oStamp o_oTop o_restIds o_fIds o_fQty o_fPrice o_lvlIds o_lvlR w_o_lvlA o_minAlloc o_topCap o_accepted o_stampCounter o_restN o_fN o_lvlN po), 0, 0) := by
  intro o_lvlA t0 d1 d2 d3 d4 d5 d6 res w_o_lvlA h
  unfold f_allocate_37 at h
  refine OEnds.adv hm_24 3 (pc' := 40) (L' := [.val (.ref 1), .unset, .unset, .val (.int t0), .unset, .unset, .unset]) (S' := [.int t0, .ref 1]) (H' := (c0 :: bk0 o_oSide o_oPrice o_oRem o_oFilled o_oStatus o_oStamp o_oTop o_restIds o_fIds o_fQty o_fPrice o_lvlIds o_lvlR o_lvlA o_minAlloc o_topCap o_accepted o_stampCounter o_restN o_fN o_lvlN po)) rfl ?_
  obtain ⟨⟨r50, s51⟩, hq53, h⟩ := bnd h
  refine OEnds.call0 hm_24 rfl rfl (by decide) rfl (as := [.ref 1, .int t0]) (rest := []) rfl rfl (ok_topStep hq53) ?_
  refine OEnds.adv hm_24 8 (pc' := 56) (L' := [.val (.ref 1), .unset, .unset, .val (.int t0), .val (.int r50), .val (.int (t0 - r50)), .val (.int 0)]) (S' := [.int (t0 - r50)]) (H' := (c0 :: bk0 o_oSide o_oPrice o_oRem o_oFilled o_oStatus o_oStamp o_oTop o_restIds o_fIds o_fQty o_fPrice o_lvlIds o_lvlR s51 o_minAlloc o_topCap o_accepted o_stampCounter o_restN o_fN o_lvlN po)) rfl ?_
  by_cases hc54 : (0 : Int32) < (t0 - r50)
  · simp only [if_pos hc54] at h
    refine OEnds.ifF hm_24 rfl ((tlt hc54).2.2.2) ?_
    refine OEnds.adv hm_24 2 (pc' := 62) (L' := [.val (.ref 1), .unset, .unset, .val (.int t0), .val (.int r50), .val (.int (t0 - r50)), .val (.int 0)]) (S' := [.int (t0 - r50), .ref 1]) (H' := (c0 :: bk0 o_oSide o_oPrice o_oRem o_oFilled o_oStatus o_oStamp o_oTop o_restIds o_fIds o_fQty o_fPrice o_lvlIds o_lvlR s51 o_minAlloc o_topCap o_accepted o_stampCounter o_restN o_fN o_lvlN po)) rfl ?_
    obtain ⟨⟨r52, s53⟩, hq55, h⟩ := bnd h
    refine OEnds.call0 hm_24 rfl rfl (by decide) rfl (as := [.ref 1, .int (t0 - r50)]) (rest := []) rfl rfl (ok_proRataStep hq55) ?_
    refine OEnds.adv hm_24 1 (pc' := 67) (L' := [.val (.ref 1), .unset, .unset, .val (.int t0), .val (.int r50), .val (.int (t0 - r50)), .val (.int r52)]) (S' := []) (H' := (c0 :: bk0 o_oSide o_oPrice o_oRem o_oFilled o_oStatus o_oStamp o_oTop o_restIds o_fIds o_fQty o_fPrice o_lvlIds o_lvlR s53 o_minAlloc o_topCap o_accepted o_stampCounter o_restN o_fN o_lvlN po)) rfl ?_
    exact ok_allocate_67 h
  · simp only [if_neg hc54] at h
    refine OEnds.ifT hm_24 rfl (q := 67) rfl ((flt hc54).2.2.2) ?_
    show OEnds own_P 24 67 [.val (.ref 1), .unset, .unset, .val (.int t0), .val (.int r50), .val (.int (t0 - r50)), .val (.int 0)] [] (c0 :: bk0 o_oSide o_oPrice o_oRem o_oFilled o_oStatus o_oStamp o_oTop o_restIds o_fIds o_fQty o_fPrice o_lvlIds o_lvlR s51 o_minAlloc o_topCap o_accepted o_stampCounter o_restN o_fN o_lvlN po) _
    exact ok_allocate_67 h
theorem ok_allocate_27 {o_oSide : List Int32} {o_oPrice : List Int32} {o_oRem : List Int32} {o_oFilled : List Int32} {o_oStatus : List Int32} {o_oStamp : List Int64} {o_oTop : List Int32} {o_restIds : List Int32} {o_fIds : List Int32} {o_fQty : List Int32} {o_fPrice : List Int32} {o_lvlIds : List Int32} {o_lvlR : List Int32} {o_minAlloc : Int32} {o_topCap : Int32} {o_accepted : Int32} {o_stampCounter : Int64} {o_restN : Int32} {o_fN : Int32} {o_lvlN : Int32} {c0 : ACell} {po : List ACell} : ∀ {o_lvlA : List Int32} {v1 : Int32} {v2 : Int32} {d3 d4 d5 d6 : Slot} {res : Int32} {w_o_lvlA : List Int32}, f_allocate_27 o_oTop o_lvlIds o_lvlR o_minAlloc o_topCap o_lvlN o_lvlA v1 v2 = some (res, w_o_lvlA) → OEnds own_P 24 27 [.val (.ref 1), .val (.int v1), .val (.int v2), d3, d4, d5, d6] [] (c0 :: bk0 o_oSide o_oPrice o_oRem o_oFilled o_oStatus o_oStamp o_oTop o_restIds o_fIds o_fQty o_fPrice o_lvlIds o_lvlR o_lvlA o_minAlloc o_topCap o_accepted o_stampCounter o_restN o_fN o_lvlN po) (some (.int res), (c0 :: bk0 o_oSide o_oPrice o_oRem o_oFilled o_oStatus o_oStamp o_oTop o_restIds o_fIds o_fQty o_fPrice o_lvlIds o_lvlR w_o_lvlA o_minAlloc o_topCap o_accepted o_stampCounter o_restN o_fN o_lvlN po), 0, 0) := by
  intro o_lvlA v1 v2 d3 d4 d5 d6 res w_o_lvlA h
  unfold f_allocate_27 at h
  refine OEnds.adv hm_24 2 (pc' := 29) (L' := [.val (.ref 1), .val (.int v1), .val (.int v2), .unset, .unset, .unset, .unset]) (S' := [.int v2, .int v1]) (H' := (c0 :: bk0 o_oSide o_oPrice o_oRem o_oFilled o_oStatus o_oStamp o_oTop o_restIds o_fIds o_fQty o_fPrice o_lvlIds o_lvlR o_lvlA o_minAlloc o_topCap o_accepted o_stampCounter o_restN o_fN o_lvlN po)) rfl ?_
  by_cases hc56 : v1 < v2
  · simp only [if_pos hc56] at h
    refine OEnds.icmpF hm_24 rfl ((tlt hc56).2.1) ?_
    refine OEnds.adv hm_24 2 (pc' := 37) (L' := [.val (.ref 1), .val (.int v1), .val (.int v2), .unset, .unset, .unset, .unset]) (S' := [.int v1]) (H' := (c0 :: bk0 o_oSide o_oPrice o_oRem o_oFilled o_oStatus o_oStamp o_oTop o_restIds o_fIds o_fQty o_fPrice o_lvlIds o_lvlR o_lvlA o_minAlloc o_topCap o_accepted o_stampCounter o_restN o_fN o_lvlN po)) rfl ?_
    exact ok_allocate_37 h
  · simp only [if_neg hc56] at h
    refine OEnds.icmpT hm_24 rfl (q := 36) rfl ((flt hc56).2.1) ?_
    refine OEnds.adv hm_24 1 (pc' := 37) (L' := [.val (.ref 1), .val (.int v1), .val (.int v2), .unset, .unset, .unset, .unset]) (S' := [.int v2]) (H' := (c0 :: bk0 o_oSide o_oPrice o_oRem o_oFilled o_oStatus o_oStamp o_oTop o_restIds o_fIds o_fQty o_fPrice o_lvlIds o_lvlR o_lvlA o_minAlloc o_topCap o_accepted o_stampCounter o_restN o_fN o_lvlN po)) rfl ?_
    exact ok_allocate_37 h
theorem ok_allocate_4 {o_oSide : List Int32} {o_oPrice : List Int32} {o_oRem : List Int32} {o_oFilled : List Int32} {o_oStatus : List Int32} {o_oStamp : List Int64} {o_oTop : List Int32} {o_restIds : List Int32} {o_fIds : List Int32} {o_fQty : List Int32} {o_fPrice : List Int32} {o_lvlIds : List Int32} {o_lvlR : List Int32} {o_minAlloc : Int32} {o_topCap : Int32} {o_accepted : Int32} {o_stampCounter : Int64} {o_restN : Int32} {o_fN : Int32} {o_lvlN : Int32} {c0 : ACell} {po : List ACell} {k27 : List Int32 → Int32 → Int32 → Option (Int32 × List Int32)} (hk27 : ∀ {o_lvlA : List Int32} {v1 : Int32} {v2 : Int32} {d3 d4 d5 d6 : Slot} {res : Int32} {w_o_lvlA : List Int32}, k27 o_lvlA v1 v2 = some (res, w_o_lvlA) → OEnds own_P 24 27 [.val (.ref 1), .val (.int v1), .val (.int v2), d3, d4, d5, d6] [] (c0 :: bk0 o_oSide o_oPrice o_oRem o_oFilled o_oStatus o_oStamp o_oTop o_restIds o_fIds o_fQty o_fPrice o_lvlIds o_lvlR o_lvlA o_minAlloc o_topCap o_accepted o_stampCounter o_restN o_fN o_lvlN po) (some (.int res), (c0 :: bk0 o_oSide o_oPrice o_oRem o_oFilled o_oStatus o_oStamp o_oTop o_restIds o_fIds o_fQty o_fPrice o_lvlIds o_lvlR w_o_lvlA o_minAlloc o_topCap o_accepted o_stampCounter o_restN o_fN o_lvlN po), 0, 0)) : ∀ (n : Nat), ∀ {o_lvlA : List Int32} {v1 : Int32} {v2 : Int32} {v3 : Int32} {d4 d5 d6 : Slot} {res : Int32} {w_o_lvlA : List Int32}, f_allocate_4 k27 o_oTop o_lvlIds o_lvlR o_minAlloc o_topCap o_lvlN n o_lvlA v1 v2 v3 = some (res, w_o_lvlA) → OEnds own_P 24 4 [.val (.ref 1), .val (.int v1), .val (.int v2), .val (.int v3), d4, d5, d6] [] (c0 :: bk0 o_oSide o_oPrice o_oRem o_oFilled o_oStatus o_oStamp o_oTop o_restIds o_fIds o_fQty o_fPrice o_lvlIds o_lvlR o_lvlA o_minAlloc o_topCap o_accepted o_stampCounter o_restN o_fN o_lvlN po) (some (.int res), (c0 :: bk0 o_oSide o_oPrice o_oRem o_oFilled o_oStatus o_oStamp o_oTop o_restIds o_fIds o_fQty o_fPrice o_lvlIds o_lvlR w_o_lvlA o_minAlloc o_topCap o_accepted o_stampCounter o_restN o_fN o_lvlN po), 0, 0) := by
  intro n
  induction n with
  | zero => intro o_lvlA v1 v2 v3 d4 d5 d6 res w_o_lvlA h; cases h
  | succ n ih =>
    intro o_lvlA v1 v2 v3 d4 d5 d6 res w_o_lvlA h
    unfold f_allocate_4 at h
    refine OEnds.adv hm_24 3 (pc' := 9) (L' := [.val (.ref 1), .val (.int v1), .val (.int v2), .val (.int v3), .unset, .unset, .unset]) (S' := [.int o_lvlN, .int v3]) (H' := (c0 :: bk0 o_oSide o_oPrice o_oRem o_oFilled o_oStatus o_oStamp o_oTop o_restIds o_fIds o_fQty o_fPrice o_lvlIds o_lvlR o_lvlA o_minAlloc o_topCap o_accepted o_stampCounter o_restN o_fN o_lvlN po)) rfl ?_
    by_cases hc57 : v3 < o_lvlN
    · simp only [if_pos hc57] at h
      refine OEnds.icmpF hm_24 rfl ((tlt hc57).2.1) ?_
      refine OEnds.adv hm_24 4 (pc' := 18) (L' := [.val (.ref 1), .val (.int v1), .val (.int v2), .val (.int v3), .unset, .unset, .unset]) (S' := [.int v3, .ref 14, .int v2]) (H' := (c0 :: bk0 o_oSide o_oPrice o_oRem o_oFilled o_oStatus o_oStamp o_oTop o_restIds o_fIds o_fQty o_fPrice o_lvlIds o_lvlR o_lvlA o_minAlloc o_topCap o_accepted o_stampCounter o_restN o_fN o_lvlN po)) rfl ?_
      obtain ⟨x49, hx49, h⟩ := bnd h
      refine OEnds.plain hm_24 rfl rfl (x_iaload rfl hx49) ?_
      refine OEnds.adv hm_24 4 (pc' := 4) (L' := [.val (.ref 1), .val (.int v1), .val (.int (v2 + x49)), .val (.int (v3 + (1 : Int32))), .unset, .unset, .unset]) (S' := []) (H' := (c0 :: bk0 o_oSide o_oPrice o_oRem o_oFilled o_oStatus o_oStamp o_oTop o_restIds o_fIds o_fQty o_fPrice o_lvlIds o_lvlR o_lvlA o_minAlloc o_topCap o_accepted o_stampCounter o_restN o_fN o_lvlN po)) rfl ?_
      exact ih h
    · simp only [if_neg hc57] at h
      refine OEnds.icmpT hm_24 rfl (q := 27) rfl ((flt hc57).2.1) ?_
      show OEnds own_P 24 27 [.val (.ref 1), .val (.int v1), .val (.int v2), .val (.int v3), .unset, .unset, .unset] [] (c0 :: bk0 o_oSide o_oPrice o_oRem o_oFilled o_oStatus o_oStamp o_oTop o_restIds o_fIds o_fQty o_fPrice o_lvlIds o_lvlR o_lvlA o_minAlloc o_topCap o_accepted o_stampCounter o_restN o_fN o_lvlN po) _
      exact hk27 h
theorem ok_allocate {o_oSide : List Int32} {o_oPrice : List Int32} {o_oRem : List Int32} {o_oFilled : List Int32} {o_oStatus : List Int32} {o_oStamp : List Int64} {o_oTop : List Int32} {o_restIds : List Int32} {o_fIds : List Int32} {o_fQty : List Int32} {o_fPrice : List Int32} {o_lvlIds : List Int32} {o_lvlR : List Int32} {o_minAlloc : Int32} {o_topCap : Int32} {o_accepted : Int32} {o_stampCounter : Int64} {o_restN : Int32} {o_fN : Int32} {o_lvlN : Int32} {c0 : ACell} {po : List ACell} {o_lvlA : List Int32} {v1 : Int32} {res : Int32} {w_o_lvlA : List Int32} (h : f_allocate o_oTop o_lvlIds o_lvlR o_minAlloc o_topCap o_lvlN o_lvlA v1 = some (res, w_o_lvlA)) : OEnds own_P 24 0 [.val (.ref 1), .val (.int v1), .unset, .unset, .unset, .unset, .unset] [] (c0 :: bk0 o_oSide o_oPrice o_oRem o_oFilled o_oStatus o_oStamp o_oTop o_restIds o_fIds o_fQty o_fPrice o_lvlIds o_lvlR o_lvlA o_minAlloc o_topCap o_accepted o_stampCounter o_restN o_fN o_lvlN po) (some (.int res), (c0 :: bk0 o_oSide o_oPrice o_oRem o_oFilled o_oStatus o_oStamp o_oTop o_restIds o_fIds o_fQty o_fPrice o_lvlIds o_lvlR w_o_lvlA o_minAlloc o_topCap o_accepted o_stampCounter o_restN o_fN o_lvlN po), 0, 0) := by
  unfold f_allocate at h
  refine OEnds.adv hm_24 4 (pc' := 4) (L' := [.val (.ref 1), .val (.int v1), .val (.int 0), .val (.int 0), .unset, .unset, .unset]) (S' := []) (H' := (c0 :: bk0 o_oSide o_oPrice o_oRem o_oFilled o_oStatus o_oStamp o_oTop o_restIds o_fIds o_fQty o_fPrice o_lvlIds o_lvlR o_lvlA o_minAlloc o_topCap o_accepted o_stampCounter o_restN o_fN o_lvlN po)) rfl ?_
  exact ok_allocate_4 (k27 := f_allocate_27 o_oTop o_lvlIds o_lvlR o_minAlloc o_topCap o_lvlN) ok_allocate_27 100000 h
theorem ok_applyLevel_82 {o_oSide : List Int32} {o_oPrice : List Int32} {o_oStamp : List Int64} {o_lvlIds : List Int32} {o_lvlR : List Int32} {o_lvlA : List Int32} {o_minAlloc : Int32} {o_topCap : Int32} {o_accepted : Int32} {o_stampCounter : Int64} {o_lvlN : Int32} {c0 : ACell} {po : List ACell} {kb : List Int32 → List Int32 → List Int32 → List Int32 → List Int32 → List Int32 → List Int32 → List Int32 → Int32 → Int32 → Int32 → Int32 → Option (List Int32 × List Int32 × List Int32 × List Int32 × List Int32 × List Int32 × List Int32 × List Int32 × Int32 × Int32)} (hkb : ∀ {o_oRem : List Int32} {o_oFilled : List Int32} {o_oStatus : List Int32} {o_oTop : List Int32} {o_restIds : List Int32} {o_fIds : List Int32} {o_fQty : List Int32} {o_fPrice : List Int32} {o_restN : Int32} {o_fN : Int32} {v1 : Int32} {v2 : Int32} {d3 d4 : Slot} {w_o_oRem : List Int32} {w_o_oFilled : List Int32} {w_o_oStatus : List Int32} {w_o_oTop : List Int32} {w_o_restIds : List Int32} {w_o_fIds : List Int32} {w_o_fQty : List Int32} {w_o_fPrice : List Int32} {w_o_restN : Int32} {w_o_fN : Int32}, kb o_oRem o_oFilled o_oStatus o_oTop o_restIds o_fIds o_fQty o_fPrice o_restN o_fN v1 v2 = some (w_o_oRem, w_o_oFilled, w_o_oStatus, w_o_oTop, w_o_restIds, w_o_fIds, w_o_fQty, w_o_fPrice, w_o_restN, w_o_fN) → OEnds own_P 27 2 [.val (.ref 1), .val (.int v1), .val (.int v2), d3, d4] [] (c0 :: bk0 o_oSide o_oPrice o_oRem o_oFilled o_oStatus o_oStamp o_oTop o_restIds o_fIds o_fQty o_fPrice o_lvlIds o_lvlR o_lvlA o_minAlloc o_topCap o_accepted o_stampCounter o_restN o_fN o_lvlN po) (none, (c0 :: bk0 o_oSide o_oPrice w_o_oRem w_o_oFilled w_o_oStatus o_oStamp w_o_oTop w_o_restIds w_o_fIds w_o_fQty w_o_fPrice o_lvlIds o_lvlR o_lvlA o_minAlloc o_topCap o_accepted o_stampCounter w_o_restN w_o_fN o_lvlN po), 0, 0)) : ∀ {o_oRem : List Int32} {o_oFilled : List Int32} {o_oStatus : List Int32} {o_oTop : List Int32} {o_restIds : List Int32} {o_fIds : List Int32} {o_fQty : List Int32} {o_fPrice : List Int32} {o_restN : Int32} {o_fN : Int32} {v1 : Int32} {v2 : Int32} {v3 : Int32} {v4 : Int32} {w_o_oRem : List Int32} {w_o_oFilled : List Int32} {w_o_oStatus : List Int32} {w_o_oTop : List Int32} {w_o_restIds : List Int32} {w_o_fIds : List Int32} {w_o_fQty : List Int32} {w_o_fPrice : List Int32} {w_o_restN : Int32} {w_o_fN : Int32}, f_applyLevel_82 kb o_lvlIds o_lvlA o_lvlN o_oRem o_oFilled o_oStatus o_oTop o_restIds o_fIds o_fQty o_fPrice o_restN o_fN v1 v2 v3 v4 = some (w_o_oRem, w_o_oFilled, w_o_oStatus, w_o_oTop, w_o_restIds, w_o_fIds, w_o_fQty, w_o_fPrice, w_o_restN, w_o_fN) → OEnds own_P 27 82 [.val (.ref 1), .val (.int v1), .val (.int v2), .val (.int v3), .val (.int v4)] [] (c0 :: bk0 o_oSide o_oPrice o_oRem o_oFilled o_oStatus o_oStamp o_oTop o_restIds o_fIds o_fQty o_fPrice o_lvlIds o_lvlR o_lvlA o_minAlloc o_topCap o_accepted o_stampCounter o_restN o_fN o_lvlN po) (none, (c0 :: bk0 o_oSide o_oPrice w_o_oRem w_o_oFilled w_o_oStatus o_oStamp w_o_oTop w_o_restIds w_o_fIds w_o_fQty w_o_fPrice o_lvlIds o_lvlR o_lvlA o_minAlloc o_topCap o_accepted o_stampCounter w_o_restN w_o_fN o_lvlN po), 0, 0) := by
  intro o_oRem o_oFilled o_oStatus o_oTop o_restIds o_fIds o_fQty o_fPrice o_restN o_fN v1 v2 v3 v4 w_o_oRem w_o_oFilled w_o_oStatus w_o_oTop w_o_restIds w_o_fIds w_o_fQty w_o_fPrice w_o_restN w_o_fN h
  unfold f_applyLevel_82 at h
  refine OEnds.adv hm_27 4 (pc' := 89) (L' := [.val (.ref 1), .val (.int v1), .val (.int v2), .val (.int v3), .val (.int v4)]) (S' := [.int v4, .ref 4, .int v4, .ref 4]) (H' := (c0 :: bk0 o_oSide o_oPrice o_oRem o_oFilled o_oStatus o_oStamp o_oTop o_restIds o_fIds o_fQty o_fPrice o_lvlIds o_lvlR o_lvlA o_minAlloc o_topCap o_accepted o_stampCounter o_restN o_fN o_lvlN po)) rfl ?_
  obtain ⟨x60, hx60, h⟩ := bnd h
  refine OEnds.plain hm_27 rfl rfl (x_iaload rfl hx60) ?_
  refine OEnds.adv hm_27 2 (pc' := 92) (L' := [.val (.ref 1), .val (.int v1), .val (.int v2), .val (.int v3), .val (.int v4)]) (S' := [.int (x60 - v3), .int v4, .ref 4]) (H' := (c0 :: bk0 o_oSide o_oPrice o_oRem o_oFilled o_oStatus o_oStamp o_oTop o_restIds o_fIds o_fQty o_fPrice o_lvlIds o_lvlR o_lvlA o_minAlloc o_topCap o_accepted o_stampCounter o_restN o_fN o_lvlN po)) rfl ?_
  obtain ⟨A61, hA61, h⟩ := bnd h
  refine OEnds.plain hm_27 rfl rfl (x_iastore rfl (Nat.le_of_ble_eq_true rfl) hA61) ?_
  refine OEnds.adv hm_27 4 (pc' := 100) (L' := [.val (.ref 1), .val (.int v1), .val (.int v2), .val (.int v3), .val (.int v4)]) (S' := [.int v4, .ref 5, .int v4, .ref 5]) (H' := (c0 :: bk0 o_oSide o_oPrice A61 o_oFilled o_oStatus o_oStamp o_oTop o_restIds o_fIds o_fQty o_fPrice o_lvlIds o_lvlR o_lvlA o_minAlloc o_topCap o_accepted o_stampCounter o_restN o_fN o_lvlN po)) rfl ?_
  obtain ⟨x62, hx62, h⟩ := bnd h
  refine OEnds.plain hm_27 rfl rfl (x_iaload rfl hx62) ?_
  refine OEnds.adv hm_27 2 (pc' := 103) (L' := [.val (.ref 1), .val (.int v1), .val (.int v2), .val (.int v3), .val (.int v4)]) (S' := [.int (x62 + v3), .int v4, .ref 5]) (H' := (c0 :: bk0 o_oSide o_oPrice A61 o_oFilled o_oStatus o_oStamp o_oTop o_restIds o_fIds o_fQty o_fPrice o_lvlIds o_lvlR o_lvlA o_minAlloc o_topCap o_accepted o_stampCounter o_restN o_fN o_lvlN po)) rfl ?_
  obtain ⟨A63, hA63, h⟩ := bnd h
  refine OEnds.plain hm_27 rfl rfl (x_iastore rfl (Nat.le_of_ble_eq_true rfl) hA63) ?_
  refine OEnds.adv hm_27 3 (pc' := 110) (L' := [.val (.ref 1), .val (.int v1), .val (.int v2), .val (.int v3), .val (.int v4)]) (S' := [.int v4, .ref 4]) (H' := (c0 :: bk0 o_oSide o_oPrice A61 A63 o_oStatus o_oStamp o_oTop o_restIds o_fIds o_fQty o_fPrice o_lvlIds o_lvlR o_lvlA o_minAlloc o_topCap o_accepted o_stampCounter o_restN o_fN o_lvlN po)) rfl ?_
  obtain ⟨x64, hx64, h⟩ := bnd h
  refine OEnds.plain hm_27 rfl rfl (x_iaload rfl hx64) ?_
  show OEnds own_P 27 111 [.val (.ref 1), .val (.int v1), .val (.int v2), .val (.int v3), .val (.int v4)] [.int x64] (c0 :: bk0 o_oSide o_oPrice A61 A63 o_oStatus o_oStamp o_oTop o_restIds o_fIds o_fQty o_fPrice o_lvlIds o_lvlR o_lvlA o_minAlloc o_topCap o_accepted o_stampCounter o_restN o_fN o_lvlN po) _
  by_cases hc58 : (0 : Int32) < x64
  · simp only [if_pos hc58] at h
    refine OEnds.ifT hm_27 rfl (q := 144) rfl ((tlt hc58).2.2.1) ?_
    refine OEnds.adv hm_27 2 (pc' := 2) (L' := [.val (.ref 1), .val (.int v1), .val (.int (v2 + (1 : Int32))), .val (.int v3), .val (.int v4)]) (S' := []) (H' := (c0 :: bk0 o_oSide o_oPrice A61 A63 o_oStatus o_oStamp o_oTop o_restIds o_fIds o_fQty o_fPrice o_lvlIds o_lvlR o_lvlA o_minAlloc o_topCap o_accepted o_stampCounter o_restN o_fN o_lvlN po)) rfl ?_
    exact hkb h
  · simp only [if_neg hc58] at h
    refine OEnds.ifF hm_27 rfl ((flt hc58).2.2.1) ?_
    refine OEnds.adv hm_27 4 (pc' := 121) (L' := [.val (.ref 1), .val (.int v1), .val (.int v2), .val (.int v3), .val (.int v4)]) (S' := [.int 0, .int v4, .ref 4]) (H' := (c0 :: bk0 o_oSide o_oPrice A61 A63 o_oStatus o_oStamp o_oTop o_restIds o_fIds o_fQty o_fPrice o_lvlIds o_lvlR o_lvlA o_minAlloc o_topCap o_accepted o_stampCounter o_restN o_fN o_lvlN po)) rfl ?_
    obtain ⟨A65, hA65, h⟩ := bnd h
    refine OEnds.plain hm_27 rfl rfl (x_iastore rfl (Nat.le_of_ble_eq_true rfl) hA65) ?_
    refine OEnds.adv hm_27 4 (pc' := 129) (L' := [.val (.ref 1), .val (.int v1), .val (.int v2), .val (.int v3), .val (.int v4)]) (S' := [.int 2, .int v4, .ref 6]) (H' := (c0 :: bk0 o_oSide o_oPrice A65 A63 o_oStatus o_oStamp o_oTop o_restIds o_fIds o_fQty o_fPrice o_lvlIds o_lvlR o_lvlA o_minAlloc o_topCap o_accepted o_stampCounter o_restN o_fN o_lvlN po)) rfl ?_
    obtain ⟨A66, hA66, h⟩ := bnd h
    refine OEnds.plain hm_27 rfl rfl (x_iastore rfl (Nat.le_of_ble_eq_true rfl) hA66) ?_
    refine OEnds.adv hm_27 4 (pc' := 137) (L' := [.val (.ref 1), .val (.int v1), .val (.int v2), .val (.int v3), .val (.int v4)]) (S' := [.int 0, .int v4, .ref 8]) (H' := (c0 :: bk0 o_oSide o_oPrice A65 A63 A66 o_oStamp o_oTop o_restIds o_fIds o_fQty o_fPrice o_lvlIds o_lvlR o_lvlA o_minAlloc o_topCap o_accepted o_stampCounter o_restN o_fN o_lvlN po)) rfl ?_
    obtain ⟨A67, hA67, h⟩ := bnd h
    refine OEnds.plain hm_27 rfl rfl (x_bastore rfl (Nat.le_of_ble_eq_true rfl) hA67) ?_
    refine OEnds.adv hm_27 2 (pc' := 141) (L' := [.val (.ref 1), .val (.int v1), .val (.int v2), .val (.int v3), .val (.int v4)]) (S' := [.int v4, .ref 1]) (H' := (c0 :: bk0 o_oSide o_oPrice A65 A63 A66 o_oStamp A67 o_restIds o_fIds o_fQty o_fPrice o_lvlIds o_lvlR o_lvlA o_minAlloc o_topCap o_accepted o_stampCounter o_restN o_fN o_lvlN po)) rfl ?_
    obtain ⟨⟨s68, s69⟩, hq59, h⟩ := bnd h
    refine OEnds.call0 hm_27 rfl rfl (by decide) rfl (as := [.ref 1, .int v4]) (rest := []) rfl rfl (ok_removeResting hq59) ?_
    refine OEnds.adv hm_27 2 (pc' := 2) (L' := [.val (.ref 1), .val (.int v1), .val (.int (v2 + (1 : Int32))), .val (.int v3), .val (.int v4)]) (S' := []) (H' := (c0 :: bk0 o_oSide o_oPrice A65 A63 A66 o_oStamp A67 s68 o_fIds o_fQty o_fPrice o_lvlIds o_lvlR o_lvlA o_minAlloc o_topCap o_accepted o_stampCounter s69 o_fN o_lvlN po)) rfl ?_
    exact hkb h
theorem ok_applyLevel_2 {o_oSide : List Int32} {o_oPrice : List Int32} {o_oStamp : List Int64} {o_lvlIds : List Int32} {o_lvlR : List Int32} {o_lvlA : List Int32} {o_minAlloc : Int32} {o_topCap : Int32} {o_accepted : Int32} {o_stampCounter : Int64} {o_lvlN : Int32} {c0 : ACell} {po : List ACell} : ∀ (n : Nat), ∀ {o_oRem : List Int32} {o_oFilled : List Int32} {o_oStatus : List Int32} {o_oTop : List Int32} {o_restIds : List Int32} {o_fIds : List Int32} {o_fQty : List Int32} {o_fPrice : List Int32} {o_restN : Int32} {o_fN : Int32} {v1 : Int32} {v2 : Int32} {d3 d4 : Slot} {w_o_oRem : List Int32} {w_o_oFilled : List Int32} {w_o_oStatus : List Int32} {w_o_oTop : List Int32} {w_o_restIds : List Int32} {w_o_fIds : List Int32} {w_o_fQty : List Int32} {w_o_fPrice : List Int32} {w_o_restN : Int32} {w_o_fN : Int32}, f_applyLevel_2 o_lvlIds o_lvlA o_lvlN n o_oRem o_oFilled o_oStatus o_oTop o_restIds o_fIds o_fQty o_fPrice o_restN o_fN v1 v2 = some (w_o_oRem, w_o_oFilled, w_o_oStatus, w_o_oTop, w_o_restIds, w_o_fIds, w_o_fQty, w_o_fPrice, w_o_restN, w_o_fN) → OEnds own_P 27 2 [.val (.ref 1), .val (.int v1), .val (.int v2), d3, d4] [] (c0 :: bk0 o_oSide o_oPrice o_oRem o_oFilled o_oStatus o_oStamp o_oTop o_restIds o_fIds o_fQty o_fPrice o_lvlIds o_lvlR o_lvlA o_minAlloc o_topCap o_accepted o_stampCounter o_restN o_fN o_lvlN po) (none, (c0 :: bk0 o_oSide o_oPrice w_o_oRem w_o_oFilled w_o_oStatus o_oStamp w_o_oTop w_o_restIds w_o_fIds w_o_fQty w_o_fPrice o_lvlIds o_lvlR o_lvlA o_minAlloc o_topCap o_accepted o_stampCounter w_o_restN w_o_fN o_lvlN po), 0, 0) := by
  intro n
  induction n with
  | zero => intro o_oRem o_oFilled o_oStatus o_oTop o_restIds o_fIds o_fQty o_fPrice o_restN o_fN v1 v2 d3 d4 w_o_oRem w_o_oFilled w_o_oStatus w_o_oTop w_o_restIds w_o_fIds w_o_fQty w_o_fPrice w_o_restN w_o_fN h; cases h
  | succ n ih =>
    intro o_oRem o_oFilled o_oStatus o_oTop o_restIds o_fIds o_fQty o_fPrice o_restN o_fN v1 v2 d3 d4 w_o_oRem w_o_oFilled w_o_oStatus w_o_oTop w_o_restIds w_o_fIds w_o_fQty w_o_fPrice w_o_restN w_o_fN h
    unfold f_applyLevel_2 at h
    refine OEnds.adv hm_27 3 (pc' := 7) (L' := [.val (.ref 1), .val (.int v1), .val (.int v2), .unset, .unset]) (S' := [.int o_lvlN, .int v2]) (H' := (c0 :: bk0 o_oSide o_oPrice o_oRem o_oFilled o_oStatus o_oStamp o_oTop o_restIds o_fIds o_fQty o_fPrice o_lvlIds o_lvlR o_lvlA o_minAlloc o_topCap o_accepted o_stampCounter o_restN o_fN o_lvlN po)) rfl ?_
    by_cases hc60 : v2 < o_lvlN
    · simp only [if_pos hc60] at h
      refine OEnds.icmpF hm_27 rfl ((tlt hc60).2.1) ?_
      refine OEnds.adv hm_27 3 (pc' := 15) (L' := [.val (.ref 1), .val (.int v1), .val (.int v2), .unset, .unset]) (S' := [.int v2, .ref 15]) (H' := (c0 :: bk0 o_oSide o_oPrice o_oRem o_oFilled o_oStatus o_oStamp o_oTop o_restIds o_fIds o_fQty o_fPrice o_lvlIds o_lvlR o_lvlA o_minAlloc o_topCap o_accepted o_stampCounter o_restN o_fN o_lvlN po)) rfl ?_
      obtain ⟨x55, hx55, h⟩ := bnd h
      refine OEnds.plain hm_27 rfl rfl (x_iaload rfl hx55) ?_
      refine OEnds.adv hm_27 2 (pc' := 18) (L' := [.val (.ref 1), .val (.int v1), .val (.int v2), .val (.int x55), .unset]) (S' := [.int x55]) (H' := (c0 :: bk0 o_oSide o_oPrice o_oRem o_oFilled o_oStatus o_oStamp o_oTop o_restIds o_fIds o_fQty o_fPrice o_lvlIds o_lvlR o_lvlA o_minAlloc o_topCap o_accepted o_stampCounter o_restN o_fN o_lvlN po)) rfl ?_
      by_cases hc61 : (0 : Int32) < x55
      · simp only [if_pos hc61] at h
        refine OEnds.ifT hm_27 rfl (q := 24) rfl ((tlt hc61).2.2.1) ?_
        refine OEnds.adv hm_27 3 (pc' := 29) (L' := [.val (.ref 1), .val (.int v1), .val (.int v2), .val (.int x55), .unset]) (S' := [.int v2, .ref 13]) (H' := (c0 :: bk0 o_oSide o_oPrice o_oRem o_oFilled o_oStatus o_oStamp o_oTop o_restIds o_fIds o_fQty o_fPrice o_lvlIds o_lvlR o_lvlA o_minAlloc o_topCap o_accepted o_stampCounter o_restN o_fN o_lvlN po)) rfl ?_
        obtain ⟨x56, hx56, h⟩ := bnd h
        refine OEnds.plain hm_27 rfl rfl (x_iaload rfl hx56) ?_
        refine OEnds.adv hm_27 4 (pc' := 38) (L' := [.val (.ref 1), .val (.int v1), .val (.int v2), .val (.int x55), .val (.int x56)]) (S' := [.int 64, .int o_fN]) (H' := (c0 :: bk0 o_oSide o_oPrice o_oRem o_oFilled o_oStatus o_oStamp o_oTop o_restIds o_fIds o_fQty o_fPrice o_lvlIds o_lvlR o_lvlA o_minAlloc o_topCap o_accepted o_stampCounter o_restN o_fN o_lvlN po)) rfl ?_
        by_cases hc62 : o_fN < (64 : Int32)
        · simp only [if_pos hc62] at h
          refine OEnds.icmpF hm_27 rfl ((tlt hc62).2.1) ?_
          refine OEnds.adv hm_27 5 (pc' := 51) (L' := [.val (.ref 1), .val (.int v1), .val (.int v2), .val (.int x55), .val (.int x56)]) (S' := [.int x56, .int o_fN, .ref 10]) (H' := (c0 :: bk0 o_oSide o_oPrice o_oRem o_oFilled o_oStatus o_oStamp o_oTop o_restIds o_fIds o_fQty o_fPrice o_lvlIds o_lvlR o_lvlA o_minAlloc o_topCap o_accepted o_stampCounter o_restN o_fN o_lvlN po)) rfl ?_
          obtain ⟨A57, hA57, h⟩ := bnd h
          refine OEnds.plain hm_27 rfl rfl (x_iastore rfl (Nat.le_of_ble_eq_true rfl) hA57) ?_
          refine OEnds.adv hm_27 5 (pc' := 61) (L' := [.val (.ref 1), .val (.int v1), .val (.int v2), .val (.int x55), .val (.int x56)]) (S' := [.int v1, .int o_fN, .ref 12]) (H' := (c0 :: bk0 o_oSide o_oPrice o_oRem o_oFilled o_oStatus o_oStamp o_oTop o_restIds A57 o_fQty o_fPrice o_lvlIds o_lvlR o_lvlA o_minAlloc o_topCap o_accepted o_stampCounter o_restN o_fN o_lvlN po)) rfl ?_
          obtain ⟨A58, hA58, h⟩ := bnd h
          refine OEnds.plain hm_27 rfl rfl (x_iastore rfl (Nat.le_of_ble_eq_true rfl) hA58) ?_
          refine OEnds.adv hm_27 5 (pc' := 71) (L' := [.val (.ref 1), .val (.int v1), .val (.int v2), .val (.int x55), .val (.int x56)]) (S' := [.int x55, .int o_fN, .ref 11]) (H' := (c0 :: bk0 o_oSide o_oPrice o_oRem o_oFilled o_oStatus o_oStamp o_oTop o_restIds A57 o_fQty A58 o_lvlIds o_lvlR o_lvlA o_minAlloc o_topCap o_accepted o_stampCounter o_restN o_fN o_lvlN po)) rfl ?_
          obtain ⟨A59, hA59, h⟩ := bnd h
          refine OEnds.plain hm_27 rfl rfl (x_iastore rfl (Nat.le_of_ble_eq_true rfl) hA59) ?_
          refine OEnds.adv hm_27 6 (pc' := 82) (L' := [.val (.ref 1), .val (.int v1), .val (.int v2), .val (.int x55), .val (.int x56)]) (S' := []) (H' := (c0 :: bk0 o_oSide o_oPrice o_oRem o_oFilled o_oStatus o_oStamp o_oTop o_restIds A57 A59 A58 o_lvlIds o_lvlR o_lvlA o_minAlloc o_topCap o_accepted o_stampCounter o_restN (o_fN + (1 : Int32)) o_lvlN po)) rfl ?_
          exact ok_applyLevel_82 ih h
        · simp only [if_neg hc62] at h
          refine OEnds.icmpT hm_27 rfl (q := 82) rfl ((flt hc62).2.1) ?_
          show OEnds own_P 27 82 [.val (.ref 1), .val (.int v1), .val (.int v2), .val (.int x55), .val (.int x56)] [] (c0 :: bk0 o_oSide o_oPrice o_oRem o_oFilled o_oStatus o_oStamp o_oTop o_restIds o_fIds o_fQty o_fPrice o_lvlIds o_lvlR o_lvlA o_minAlloc o_topCap o_accepted o_stampCounter o_restN o_fN o_lvlN po) _
          exact ok_applyLevel_82 ih h
      · simp only [if_neg hc61] at h
        refine OEnds.ifF hm_27 rfl ((flt hc61).2.2.1) ?_
        refine OEnds.adv hm_27 3 (pc' := 2) (L' := [.val (.ref 1), .val (.int v1), .val (.int (v2 + (1 : Int32))), .val (.int x55), .unset]) (S' := []) (H' := (c0 :: bk0 o_oSide o_oPrice o_oRem o_oFilled o_oStatus o_oStamp o_oTop o_restIds o_fIds o_fQty o_fPrice o_lvlIds o_lvlR o_lvlA o_minAlloc o_topCap o_accepted o_stampCounter o_restN o_fN o_lvlN po)) rfl ?_
        exact ih h
    · simp only [if_neg hc60] at h
      refine OEnds.icmpT hm_27 rfl (q := 150) rfl ((flt hc60).2.1) ?_
      show OEnds own_P 27 150 [.val (.ref 1), .val (.int v1), .val (.int v2), .unset, .unset] [] (c0 :: bk0 o_oSide o_oPrice o_oRem o_oFilled o_oStatus o_oStamp o_oTop o_restIds o_fIds o_fQty o_fPrice o_lvlIds o_lvlR o_lvlA o_minAlloc o_topCap o_accepted o_stampCounter o_restN o_fN o_lvlN po) _
      cases h
      exact OEnds.vret hm_27 rfl rfl
theorem ok_applyLevel {o_oSide : List Int32} {o_oPrice : List Int32} {o_oStamp : List Int64} {o_lvlIds : List Int32} {o_lvlR : List Int32} {o_lvlA : List Int32} {o_minAlloc : Int32} {o_topCap : Int32} {o_accepted : Int32} {o_stampCounter : Int64} {o_lvlN : Int32} {c0 : ACell} {po : List ACell} {o_oRem : List Int32} {o_oFilled : List Int32} {o_oStatus : List Int32} {o_oTop : List Int32} {o_restIds : List Int32} {o_fIds : List Int32} {o_fQty : List Int32} {o_fPrice : List Int32} {o_restN : Int32} {o_fN : Int32} {v1 : Int32} {w_o_oRem : List Int32} {w_o_oFilled : List Int32} {w_o_oStatus : List Int32} {w_o_oTop : List Int32} {w_o_restIds : List Int32} {w_o_fIds : List Int32} {w_o_fQty : List Int32} {w_o_fPrice : List Int32} {w_o_restN : Int32} {w_o_fN : Int32} (h : f_applyLevel o_lvlIds o_lvlA o_lvlN o_oRem o_oFilled o_oStatus o_oTop o_restIds o_fIds o_fQty o_fPrice o_restN o_fN v1 = some (w_o_oRem, w_o_oFilled, w_o_oStatus, w_o_oTop, w_o_restIds, w_o_fIds, w_o_fQty, w_o_fPrice, w_o_restN, w_o_fN)) : OEnds own_P 27 0 [.val (.ref 1), .val (.int v1), .unset, .unset, .unset] [] (c0 :: bk0 o_oSide o_oPrice o_oRem o_oFilled o_oStatus o_oStamp o_oTop o_restIds o_fIds o_fQty o_fPrice o_lvlIds o_lvlR o_lvlA o_minAlloc o_topCap o_accepted o_stampCounter o_restN o_fN o_lvlN po) (none, (c0 :: bk0 o_oSide o_oPrice w_o_oRem w_o_oFilled w_o_oStatus o_oStamp w_o_oTop w_o_restIds w_o_fIds w_o_fQty w_o_fPrice o_lvlIds o_lvlR o_lvlA o_minAlloc o_topCap o_accepted o_stampCounter w_o_restN w_o_fN o_lvlN po), 0, 0) := by
  unfold f_applyLevel at h
  refine OEnds.adv hm_27 2 (pc' := 2) (L' := [.val (.ref 1), .val (.int v1), .val (.int 0), .unset, .unset]) (S' := []) (H' := (c0 :: bk0 o_oSide o_oPrice o_oRem o_oFilled o_oStatus o_oStamp o_oTop o_restIds o_fIds o_fQty o_fPrice o_lvlIds o_lvlR o_lvlA o_minAlloc o_topCap o_accepted o_stampCounter o_restN o_fN o_lvlN po)) rfl ?_
  exact ok_applyLevel_2 100000 h
theorem ok_matchLevel_59 {o_oSide : List Int32} {o_oPrice : List Int32} {o_oStamp : List Int64} {o_minAlloc : Int32} {o_topCap : Int32} {o_accepted : Int32} {o_stampCounter : Int64} {c0 : ACell} {po : List ACell} : ∀ {o_oRem : List Int32} {o_oFilled : List Int32} {o_oStatus : List Int32} {o_oTop : List Int32} {o_restIds : List Int32} {o_fIds : List Int32} {o_fQty : List Int32} {o_fPrice : List Int32} {o_lvlIds : List Int32} {o_lvlR : List Int32} {o_lvlA : List Int32} {o_restN : Int32} {o_fN : Int32} {o_lvlN : Int32} {v2 : Int32} {v3 : Int32} {d1 d4 d5 : Slot} {res : Int32} {w_o_oRem : List Int32} {w_o_oFilled : List Int32} {w_o_oStatus : List Int32} {w_o_oTop : List Int32} {w_o_restIds : List Int32} {w_o_fIds : List Int32} {w_o_fQty : List Int32} {w_o_fPrice : List Int32} {w_o_lvlIds : List Int32} {w_o_lvlR : List Int32} {w_o_lvlA : List Int32} {w_o_restN : Int32} {w_o_fN : Int32} {w_o_lvlN : Int32}, f_matchLevel_59 o_oSide o_oPrice o_oStamp o_minAlloc o_topCap o_oRem o_oFilled o_oStatus o_oTop o_restIds o_fIds o_fQty o_fPrice o_lvlIds o_lvlR o_lvlA o_restN o_fN o_lvlN v2 v3 = some (res, w_o_oRem, w_o_oFilled, w_o_oStatus, w_o_oTop, w_o_restIds, w_o_fIds, w_o_fQty, w_o_fPrice, w_o_lvlIds, w_o_lvlR, w_o_lvlA, w_o_restN, w_o_fN, w_o_lvlN) → OEnds own_P 21 59 [.val (.ref 1), d1, .val (.int v2), .val (.int v3), d4, d5] [] (c0 :: bk0 o_oSide o_oPrice o_oRem o_oFilled o_oStatus o_oStamp o_oTop o_restIds o_fIds o_fQty o_fPrice o_lvlIds o_lvlR o_lvlA o_minAlloc o_topCap o_accepted o_stampCounter o_restN o_fN o_lvlN po) (some (.int res), (c0 :: bk0 o_oSide o_oPrice w_o_oRem w_o_oFilled w_o_oStatus o_oStamp w_o_oTop w_o_restIds w_o_fIds w_o_fQty w_o_fPrice w_o_lvlIds w_o_lvlR w_o_lvlA o_minAlloc o_topCap o_accepted o_stampCounter w_o_restN w_o_fN w_o_lvlN po), 0, 0) := by
  intro o_oRem o_oFilled o_oStatus o_oTop o_restIds o_fIds o_fQty o_fPrice o_lvlIds o_lvlR o_lvlA o_restN o_fN o_lvlN v2 v3 d1 d4 d5 res w_o_oRem w_o_oFilled w_o_oStatus w_o_oTop w_o_restIds w_o_fIds w_o_fQty w_o_fPrice w_o_lvlIds w_o_lvlR w_o_lvlA w_o_restN w_o_fN w_o_lvlN h
  unfold f_matchLevel_59 at h
  refine OEnds.adv hm_21 2 (pc' := 61) (L' := [.val (.ref 1), .unset, .val (.int v2), .val (.int v3), .unset, .unset]) (S' := [.int v3, .ref 1]) (H' := (c0 :: bk0 o_oSide o_oPrice o_oRem o_oFilled o_oStatus o_oStamp o_oTop o_restIds o_fIds o_fQty o_fPrice o_lvlIds o_lvlR o_lvlA o_minAlloc o_topCap o_accepted o_stampCounter o_restN o_fN o_lvlN po)) rfl ?_
  obtain ⟨⟨r77, s78⟩, hq63, h⟩ := bnd h
  refine OEnds.call0 hm_21 rfl rfl (by decide) rfl (as := [.ref 1, .int v3]) (rest := []) rfl rfl (ok_allocate hq63) ?_
  refine OEnds.adv hm_21 3 (pc' := 68) (L' := [.val (.ref 1), .unset, .val (.int v2), .val (.int v3), .val (.int r77), .unset]) (S' := [.int v2, .ref 1]) (H' := (c0 :: bk0 o_oSide o_oPrice o_oRem o_oFilled o_oStatus o_oStamp o_oTop o_restIds o_fIds o_fQty o_fPrice o_lvlIds o_lvlR s78 o_minAlloc o_topCap o_accepted o_stampCounter o_restN o_fN o_lvlN po)) rfl ?_
  obtain ⟨⟨s79, s80, s81, s82, s83, s84, s85, s86, s87, s88⟩, hq64, h⟩ := bnd h
  refine OEnds.call0 hm_21 rfl rfl (by decide) rfl (as := [.ref 1, .int v2]) (rest := []) rfl rfl (ok_applyLevel hq64) ?_
  refine OEnds.adv hm_21 1 (pc' := 73) (L' := [.val (.ref 1), .unset, .val (.int v2), .val (.int v3), .val (.int r77), .unset]) (S' := [.int r77]) (H' := (c0 :: bk0 o_oSide o_oPrice s79 s80 s81 o_oStamp s82 s83 s84 s85 s86 o_lvlIds o_lvlR s78 o_minAlloc o_topCap o_accepted o_stampCounter s87 s88 o_lvlN po)) rfl ?_
  cases h
  exact OEnds.iret hm_21 rfl rfl
theorem ok_matchLevel_13 {o_oSide : List Int32} {o_oPrice : List Int32} {o_oStamp : List Int64} {o_minAlloc : Int32} {o_topCap : Int32} {o_accepted : Int32} {o_stampCounter : Int64} {c0 : ACell} {po : List ACell} {k59 : List Int32 → List Int32 → List Int32 → List Int32 → List Int32 → List Int32 → List Int32 → List Int32 → List Int32 → List Int32 → List Int32 → Int32 → Int32 → Int32 → Int32 → Int32 → Option (Int32 × List Int32 × List Int32 × List Int32 × List Int32 × List Int32 × List Int32 × List Int32 × List Int32 × List Int32 × List Int32 × List Int32 × Int32 × Int32 × Int32)} (hk59 : ∀ {o_oRem : List Int32} {o_oFilled : List Int32} {o_oStatus : List Int32} {o_oTop : List Int32} {o_restIds : List Int32} {o_fIds : List Int32} {o_fQty : List Int32} {o_fPrice : List Int32} {o_lvlIds : List Int32} {o_lvlR : List Int32} {o_lvlA : List Int32} {o_restN : Int32} {o_fN : Int32} {o_lvlN : Int32} {v2 : Int32} {v3 : Int32} {d1 d4 d5 : Slot} {res : Int32} {w_o_oRem : List Int32} {w_o_oFilled : List Int32} {w_o_oStatus : List Int32} {w_o_oTop : List Int32} {w_o_restIds : List Int32} {w_o_fIds : List Int32} {w_o_fQty : List Int32} {w_o_fPrice : List Int32} {w_o_lvlIds : List Int32} {w_o_lvlR : List Int32} {w_o_lvlA : List Int32} {w_o_restN : Int32} {w_o_fN : Int32} {w_o_lvlN : Int32}, k59 o_oRem o_oFilled o_oStatus o_oTop o_restIds o_fIds o_fQty o_fPrice o_lvlIds o_lvlR o_lvlA o_restN o_fN o_lvlN v2 v3 = some (res, w_o_oRem, w_o_oFilled, w_o_oStatus, w_o_oTop, w_o_restIds, w_o_fIds, w_o_fQty, w_o_fPrice, w_o_lvlIds, w_o_lvlR, w_o_lvlA, w_o_restN, w_o_fN, w_o_lvlN) → OEnds own_P 21 59 [.val (.ref 1), d1, .val (.int v2), .val (.int v3), d4, d5] [] (c0 :: bk0 o_oSide o_oPrice o_oRem o_oFilled o_oStatus o_oStamp o_oTop o_restIds o_fIds o_fQty o_fPrice o_lvlIds o_lvlR o_lvlA o_minAlloc o_topCap o_accepted o_stampCounter o_restN o_fN o_lvlN po) (some (.int res), (c0 :: bk0 o_oSide o_oPrice w_o_oRem w_o_oFilled w_o_oStatus o_oStamp w_o_oTop w_o_restIds w_o_fIds w_o_fQty w_o_fPrice w_o_lvlIds w_o_lvlR w_o_lvlA o_minAlloc o_topCap o_accepted o_stampCounter w_o_restN w_o_fN w_o_lvlN po), 0, 0)) : ∀ (n : Nat), ∀ {o_oRem : List Int32} {o_oFilled : List Int32} {o_oStatus : List Int32} {o_oTop : List Int32} {o_restIds : List Int32} {o_fIds : List Int32} {o_fQty : List Int32} {o_fPrice : List Int32} {o_lvlIds : List Int32} {o_lvlR : List Int32} {o_lvlA : List Int32} {o_restN : Int32} {o_fN : Int32} {o_lvlN : Int32} {v2 : Int32} {v3 : Int32} {v4 : Int32} {d1 d5 : Slot} {res : Int32} {w_o_oRem : List Int32} {w_o_oFilled : List Int32} {w_o_oStatus : List Int32} {w_o_oTop : List Int32} {w_o_restIds : List Int32} {w_o_fIds : List Int32} {w_o_fQty : List Int32} {w_o_fPrice : List Int32} {w_o_lvlIds : List Int32} {w_o_lvlR : List Int32} {w_o_lvlA : List Int32} {w_o_restN : Int32} {w_o_fN : Int32} {w_o_lvlN : Int32}, f_matchLevel_13 k59 o_oSide o_oPrice o_oStamp o_minAlloc o_topCap n o_oRem o_oFilled o_oStatus o_oTop o_restIds o_fIds o_fQty o_fPrice o_lvlIds o_lvlR o_lvlA o_restN o_fN o_lvlN v2 v3 v4 = some (res, w_o_oRem, w_o_oFilled, w_o_oStatus, w_o_oTop, w_o_restIds, w_o_fIds, w_o_fQty, w_o_fPrice, w_o_lvlIds, w_o_lvlR, w_o_lvlA, w_o_restN, w_o_fN, w_o_lvlN) → OEnds own_P 21 13 [.val (.ref 1), d1, .val (.int v2), .val (.int v3), .val (.int v4), d5] [] (c0 :: bk0 o_oSide o_oPrice o_oRem o_oFilled o_oStatus o_oStamp o_oTop o_restIds o_fIds o_fQty o_fPrice o_lvlIds o_lvlR o_lvlA o_minAlloc o_topCap o_accepted o_stampCounter o_restN o_fN o_lvlN po) (some (.int res), (c0 :: bk0 o_oSide o_oPrice w_o_oRem w_o_oFilled w_o_oStatus o_oStamp w_o_oTop w_o_restIds w_o_fIds w_o_fQty w_o_fPrice w_o_lvlIds w_o_lvlR w_o_lvlA o_minAlloc o_topCap o_accepted o_stampCounter w_o_restN w_o_fN w_o_lvlN po), 0, 0) := by
  intro n
  induction n with
  | zero => intro o_oRem o_oFilled o_oStatus o_oTop o_restIds o_fIds o_fQty o_fPrice o_lvlIds o_lvlR o_lvlA o_restN o_fN o_lvlN v2 v3 v4 d1 d5 res w_o_oRem w_o_oFilled w_o_oStatus w_o_oTop w_o_restIds w_o_fIds w_o_fQty w_o_fPrice w_o_lvlIds w_o_lvlR w_o_lvlA w_o_restN w_o_fN w_o_lvlN h; cases h
  | succ n ih =>
    intro o_oRem o_oFilled o_oStatus o_oTop o_restIds o_fIds o_fQty o_fPrice o_lvlIds o_lvlR o_lvlA o_restN o_fN o_lvlN v2 v3 v4 d1 d5 res w_o_oRem w_o_oFilled w_o_oStatus w_o_oTop w_o_restIds w_o_fIds w_o_fQty w_o_fPrice w_o_lvlIds w_o_lvlR w_o_lvlA w_o_restN w_o_fN w_o_lvlN h
    unfold f_matchLevel_13 at h
    refine OEnds.adv hm_21 3 (pc' := 19) (L' := [.val (.ref 1), .unset, .val (.int v2), .val (.int v3), .val (.int v4), .unset]) (S' := [.int o_lvlN, .int v4]) (H' := (c0 :: bk0 o_oSide o_oPrice o_oRem o_oFilled o_oStatus o_oStamp o_oTop o_restIds o_fIds o_fQty o_fPrice o_lvlIds o_lvlR o_lvlA o_minAlloc o_topCap o_accepted o_stampCounter o_restN o_fN o_lvlN po)) rfl ?_
    by_cases hc65 : v4 < o_lvlN
    · simp only [if_pos hc65] at h
      refine OEnds.icmpF hm_21 rfl ((tlt hc65).2.1) ?_
      refine OEnds.adv hm_21 3 (pc' := 28) (L' := [.val (.ref 1), .unset, .val (.int v2), .val (.int v3), .val (.int v4), .unset]) (S' := [.int v4, .ref 13]) (H' := (c0 :: bk0 o_oSide o_oPrice o_oRem o_oFilled o_oStatus o_oStamp o_oTop o_restIds o_fIds o_fQty o_fPrice o_lvlIds o_lvlR o_lvlA o_minAlloc o_topCap o_accepted o_stampCounter o_restN o_fN o_lvlN po)) rfl ?_
      obtain ⟨x73, hx73, h⟩ := bnd h
      refine OEnds.plain hm_21 rfl rfl (x_iaload rfl hx73) ?_
      refine OEnds.adv hm_21 7 (pc' := 43) (L' := [.val (.ref 1), .unset, .val (.int v2), .val (.int v3), .val (.int v4), .val (.int x73)]) (S' := [.int x73, .ref 4, .int v4, .ref 14]) (H' := (c0 :: bk0 o_oSide o_oPrice o_oRem o_oFilled o_oStatus o_oStamp o_oTop o_restIds o_fIds o_fQty o_fPrice o_lvlIds o_lvlR o_lvlA o_minAlloc o_topCap o_accepted o_stampCounter o_restN o_fN o_lvlN po)) rfl ?_
      obtain ⟨x74, hx74, h⟩ := bnd h
      refine OEnds.plain hm_21 rfl rfl (x_iaload rfl hx74) ?_
      show OEnds own_P 21 44 [.val (.ref 1), .unset, .val (.int v2), .val (.int v3), .val (.int v4), .val (.int x73)] [.int x74, .int v4, .ref 14] (c0 :: bk0 o_oSide o_oPrice o_oRem o_oFilled o_oStatus o_oStamp o_oTop o_restIds o_fIds o_fQty o_fPrice o_lvlIds o_lvlR o_lvlA o_minAlloc o_topCap o_accepted o_stampCounter o_restN o_fN o_lvlN po) _
      obtain ⟨A75, hA75, h⟩ := bnd h
      refine OEnds.plain hm_21 rfl rfl (x_iastore rfl (Nat.le_of_ble_eq_true rfl) hA75) ?_
      refine OEnds.adv hm_21 4 (pc' := 52) (L' := [.val (.ref 1), .unset, .val (.int v2), .val (.int v3), .val (.int v4), .val (.int x73)]) (S' := [.int 0, .int v4, .ref 15]) (H' := (c0 :: bk0 o_oSide o_oPrice o_oRem o_oFilled o_oStatus o_oStamp o_oTop o_restIds o_fIds o_fQty o_fPrice o_lvlIds A75 o_lvlA o_minAlloc o_topCap o_accepted o_stampCounter o_restN o_fN o_lvlN po)) rfl ?_
      obtain ⟨A76, hA76, h⟩ := bnd h
      refine OEnds.plain hm_21 rfl rfl (x_iastore rfl (Nat.le_of_ble_eq_true rfl) hA76) ?_
      refine OEnds.adv hm_21 2 (pc' := 13) (L' := [.val (.ref 1), .unset, .val (.int v2), .val (.int v3), .val (.int (v4 + (1 : Int32))), .val (.int x73)]) (S' := []) (H' := (c0 :: bk0 o_oSide o_oPrice o_oRem o_oFilled o_oStatus o_oStamp o_oTop o_restIds o_fIds o_fQty o_fPrice o_lvlIds A75 A76 o_minAlloc o_topCap o_accepted o_stampCounter o_restN o_fN o_lvlN po)) rfl ?_
      exact ih h
    · simp only [if_neg hc65] at h
      refine OEnds.icmpT hm_21 rfl (q := 59) rfl ((flt hc65).2.1) ?_
      show OEnds own_P 21 59 [.val (.ref 1), .unset, .val (.int v2), .val (.int v3), .val (.int v4), .unset] [] (c0 :: bk0 o_oSide o_oPrice o_oRem o_oFilled o_oStatus o_oStamp o_oTop o_restIds o_fIds o_fQty o_fPrice o_lvlIds o_lvlR o_lvlA o_minAlloc o_topCap o_accepted o_stampCounter o_restN o_fN o_lvlN po) _
      exact hk59 h
theorem ok_matchLevel {o_oSide : List Int32} {o_oPrice : List Int32} {o_oStamp : List Int64} {o_minAlloc : Int32} {o_topCap : Int32} {o_accepted : Int32} {o_stampCounter : Int64} {c0 : ACell} {po : List ACell} {o_oRem : List Int32} {o_oFilled : List Int32} {o_oStatus : List Int32} {o_oTop : List Int32} {o_restIds : List Int32} {o_fIds : List Int32} {o_fQty : List Int32} {o_fPrice : List Int32} {o_lvlIds : List Int32} {o_lvlR : List Int32} {o_lvlA : List Int32} {o_restN : Int32} {o_fN : Int32} {o_lvlN : Int32} {v1 : Int32} {v2 : Int32} {v3 : Int32} {res : Int32} {w_o_oRem : List Int32} {w_o_oFilled : List Int32} {w_o_oStatus : List Int32} {w_o_oTop : List Int32} {w_o_restIds : List Int32} {w_o_fIds : List Int32} {w_o_fQty : List Int32} {w_o_fPrice : List Int32} {w_o_lvlIds : List Int32} {w_o_lvlR : List Int32} {w_o_lvlA : List Int32} {w_o_restN : Int32} {w_o_fN : Int32} {w_o_lvlN : Int32} (h : f_matchLevel o_oSide o_oPrice o_oStamp o_minAlloc o_topCap o_oRem o_oFilled o_oStatus o_oTop o_restIds o_fIds o_fQty o_fPrice o_lvlIds o_lvlR o_lvlA o_restN o_fN o_lvlN v1 v2 v3 = some (res, w_o_oRem, w_o_oFilled, w_o_oStatus, w_o_oTop, w_o_restIds, w_o_fIds, w_o_fQty, w_o_fPrice, w_o_lvlIds, w_o_lvlR, w_o_lvlA, w_o_restN, w_o_fN, w_o_lvlN)) : OEnds own_P 21 0 [.val (.ref 1), .val (.int v1), .val (.int v2), .val (.int v3), .unset, .unset] [] (c0 :: bk0 o_oSide o_oPrice o_oRem o_oFilled o_oStatus o_oStamp o_oTop o_restIds o_fIds o_fQty o_fPrice o_lvlIds o_lvlR o_lvlA o_minAlloc o_topCap o_accepted o_stampCounter o_restN o_fN o_lvlN po) (some (.int res), (c0 :: bk0 o_oSide o_oPrice w_o_oRem w_o_oFilled w_o_oStatus o_oStamp w_o_oTop w_o_restIds w_o_fIds w_o_fQty w_o_fPrice w_o_lvlIds w_o_lvlR w_o_lvlA o_minAlloc o_topCap o_accepted o_stampCounter w_o_restN w_o_fN w_o_lvlN po), 0, 0) := by
  unfold f_matchLevel at h
  refine OEnds.adv hm_21 3 (pc' := 3) (L' := [.val (.ref 1), .val (.int v1), .val (.int v2), .val (.int v3), .unset, .unset]) (S' := [.int v2, .int v1, .ref 1]) (H' := (c0 :: bk0 o_oSide o_oPrice o_oRem o_oFilled o_oStatus o_oStamp o_oTop o_restIds o_fIds o_fQty o_fPrice o_lvlIds o_lvlR o_lvlA o_minAlloc o_topCap o_accepted o_stampCounter o_restN o_fN o_lvlN po)) rfl ?_
  obtain ⟨⟨s70, s71⟩, hq66, h⟩ := bnd h
  refine OEnds.call0 hm_21 rfl rfl (by decide) rfl (as := [.ref 1, .int v1, .int v2]) (rest := []) rfl rfl (ok_gatherLevel hq66) ?_
  refine OEnds.adv hm_21 1 (pc' := 7) (L' := [.val (.ref 1), .val (.int v1), .val (.int v2), .val (.int v3), .unset, .unset]) (S' := [.ref 1]) (H' := (c0 :: bk0 o_oSide o_oPrice o_oRem o_oFilled o_oStatus o_oStamp o_oTop o_restIds o_fIds o_fQty o_fPrice s70 o_lvlR o_lvlA o_minAlloc o_topCap o_accepted o_stampCounter o_restN o_fN s71 po)) rfl ?_
  obtain ⟨s72, hq67, h⟩ := bnd h
  refine OEnds.call0 hm_21 rfl rfl (by decide) rfl (as := [.ref 1]) (rest := []) rfl rfl (ok_sortLevel hq67) ?_
  refine OEnds.adv hm_21 2 (pc' := 13) (L' := [.val (.ref 1), .val (.int v1), .val (.int v2), .val (.int v3), .val (.int 0), .unset]) (S' := []) (H' := (c0 :: bk0 o_oSide o_oPrice o_oRem o_oFilled o_oStatus o_oStamp o_oTop o_restIds o_fIds o_fQty o_fPrice s72 o_lvlR o_lvlA o_minAlloc o_topCap o_accepted o_stampCounter o_restN o_fN s71 po)) rfl ?_
  exact ok_matchLevel_13 (k59 := f_matchLevel_59 o_oSide o_oPrice o_oStamp o_minAlloc o_topCap) ok_matchLevel_59 100000 h
theorem ok_matchIncoming_12 {o_oSide : List Int32} {o_oPrice : List Int32} {o_oStamp : List Int64} {o_minAlloc : Int32} {o_topCap : Int32} {o_accepted : Int32} {o_stampCounter : Int64} {c0 : ACell} {po : List ACell} : ∀ (n : Nat), ∀ {o_oRem : List Int32} {o_oFilled : List Int32} {o_oStatus : List Int32} {o_oTop : List Int32} {o_restIds : List Int32} {o_fIds : List Int32} {o_fQty : List Int32} {o_fPrice : List Int32} {o_lvlIds : List Int32} {o_lvlR : List Int32} {o_lvlA : List Int32} {o_restN : Int32} {o_fN : Int32} {o_lvlN : Int32} {v1 : Int32} {v2 : Int32} {v3 : Int32} {v5 : Int32} {v6 : Int32} {v7 : Int32} {d4 d8 d9 : Slot} {res : Int32} {w_o_oRem : List Int32} {w_o_oFilled : List Int32} {w_o_oStatus : List Int32} {w_o_oTop : List Int32} {w_o_restIds : List Int32} {w_o_fIds : List Int32} {w_o_fQty : List Int32} {w_o_fPrice : List Int32} {w_o_lvlIds : List Int32} {w_o_lvlR : List Int32} {w_o_lvlA : List Int32} {w_o_restN : Int32} {w_o_fN : Int32} {w_o_lvlN : Int32}, f_matchIncoming_12 o_oSide o_oPrice o_oStamp o_minAlloc o_topCap n o_oRem o_oFilled o_oStatus o_oTop o_restIds o_fIds o_fQty o_fPrice o_lvlIds o_lvlR o_lvlA o_restN o_fN o_lvlN v1 v2 v3 v5 v6 v7 = some (res, w_o_oRem, w_o_oFilled, w_o_oStatus, w_o_oTop, w_o_restIds, w_o_fIds, w_o_fQty, w_o_fPrice, w_o_lvlIds, w_o_lvlR, w_o_lvlA, w_o_restN, w_o_fN, w_o_lvlN) → OEnds own_P 15 12 [.val (.ref 1), .val (.int v1), .val (.int v2), .val (.int v3), d4, .val (.int v5), .val (.int v6), .val (.int v7), d8, d9] [] (c0 :: bk0 o_oSide o_oPrice o_oRem o_oFilled o_oStatus o_oStamp o_oTop o_restIds o_fIds o_fQty o_fPrice o_lvlIds o_lvlR o_lvlA o_minAlloc o_topCap o_accepted o_stampCounter o_restN o_fN o_lvlN po) (some (.int res), (c0 :: bk0 o_oSide o_oPrice w_o_oRem w_o_oFilled w_o_oStatus o_oStamp w_o_oTop w_o_restIds w_o_fIds w_o_fQty w_o_fPrice w_o_lvlIds w_o_lvlR w_o_lvlA o_minAlloc o_topCap o_accepted o_stampCounter w_o_restN w_o_fN w_o_lvlN po), 0, 0) := by
  intro n
  induction n with
  | zero => intro o_oRem o_oFilled o_oStatus o_oTop o_restIds o_fIds o_fQty o_fPrice o_lvlIds o_lvlR o_lvlA o_restN o_fN o_lvlN v1 v2 v3 v5 v6 v7 d4 d8 d9 res w_o_oRem w_o_oFilled w_o_oStatus w_o_oTop w_o_restIds w_o_fIds w_o_fQty w_o_fPrice w_o_lvlIds w_o_lvlR w_o_lvlA w_o_restN w_o_fN w_o_lvlN h; cases h
  | succ n ih =>
    intro o_oRem o_oFilled o_oStatus o_oTop o_restIds o_fIds o_fQty o_fPrice o_lvlIds o_lvlR o_lvlA o_restN o_fN o_lvlN v1 v2 v3 v5 v6 v7 d4 d8 d9 res w_o_oRem w_o_oFilled w_o_oStatus w_o_oTop w_o_restIds w_o_fIds w_o_fQty w_o_fPrice w_o_lvlIds w_o_lvlR w_o_lvlA w_o_restN w_o_fN w_o_lvlN h
    unfold f_matchIncoming_12 at h
    refine OEnds.adv hm_15 2 (pc' := 16) (L' := [.val (.ref 1), .val (.int v1), .val (.int v2), .val (.int v3), .unset, .val (.int v5), .val (.int v6), .val (.int v7), .unset, .unset]) (S' := [.int 64, .int v7]) (H' := (c0 :: bk0 o_oSide o_oPrice o_oRem o_oFilled o_oStatus o_oStamp o_oTop o_restIds o_fIds o_fQty o_fPrice o_lvlIds o_lvlR o_lvlA o_minAlloc o_topCap o_accepted o_stampCounter o_restN o_fN o_lvlN po)) rfl ?_
    by_cases hc68 : (64 : Int32) < v7
    · simp only [if_pos hc68] at h
      refine OEnds.icmpT hm_15 rfl (q := 98) rfl ((tlt hc68).2.2.1) ?_
      refine OEnds.adv hm_15 1 (pc' := 100) (L' := [.val (.ref 1), .val (.int v1), .val (.int v2), .val (.int v3), .unset, .val (.int v5), .val (.int v6), .val (.int v7), .unset, .unset]) (S' := [.int v5]) (H' := (c0 :: bk0 o_oSide o_oPrice o_oRem o_oFilled o_oStatus o_oStamp o_oTop o_restIds o_fIds o_fQty o_fPrice o_lvlIds o_lvlR o_lvlA o_minAlloc o_topCap o_accepted o_stampCounter o_restN o_fN o_lvlN po)) rfl ?_
      cases h
      exact OEnds.iret hm_15 rfl rfl
    · simp only [if_neg hc68] at h
      refine OEnds.icmpF hm_15 rfl ((flt hc68).2.2.1) ?_
      refine OEnds.adv hm_15 1 (pc' := 21) (L' := [.val (.ref 1), .val (.int v1), .val (.int v2), .val (.int v3), .unset, .val (.int v5), .val (.int v6), .val (.int v7), .unset, .unset]) (S' := [.int v5]) (H' := (c0 :: bk0 o_oSide o_oPrice o_oRem o_oFilled o_oStatus o_oStamp o_oTop o_restIds o_fIds o_fQty o_fPrice o_lvlIds o_lvlR o_lvlA o_minAlloc o_topCap o_accepted o_stampCounter o_restN o_fN o_lvlN po)) rfl ?_
      by_cases hc69 : (0 : Int32) < v5
      · simp only [if_pos hc69] at h
        refine OEnds.ifF hm_15 rfl ((tlt hc69).2.2.2) ?_
        refine OEnds.adv hm_15 2 (pc' := 27) (L' := [.val (.ref 1), .val (.int v1), .val (.int v2), .val (.int v3), .unset, .val (.int v5), .val (.int v6), .val (.int v7), .unset, .unset]) (S' := [.int v6, .ref 1]) (H' := (c0 :: bk0 o_oSide o_oPrice o_oRem o_oFilled o_oStatus o_oStamp o_oTop o_restIds o_fIds o_fQty o_fPrice o_lvlIds o_lvlR o_lvlA o_minAlloc o_topCap o_accepted o_stampCounter o_restN o_fN o_lvlN po)) rfl ?_
        obtain ⟨r89, hq70, h⟩ := bnd h
        refine OEnds.call0 hm_15 rfl rfl (by decide) rfl (as := [.ref 1, .int v6]) (rest := []) rfl rfl (ok_bestOf hq70) ?_
        refine OEnds.adv hm_15 2 (pc' := 34) (L' := [.val (.ref 1), .val (.int v1), .val (.int v2), .val (.int v3), .unset, .val (.int v5), .val (.int v6), .val (.int v7), .val (.int r89), .unset]) (S' := [.int r89]) (H' := (c0 :: bk0 o_oSide o_oPrice o_oRem o_oFilled o_oStatus o_oStamp o_oTop o_restIds o_fIds o_fQty o_fPrice o_lvlIds o_lvlR o_lvlA o_minAlloc o_topCap o_accepted o_stampCounter o_restN o_fN o_lvlN po)) rfl ?_
        by_cases hc71 : r89 = (0 : Int32)
        · simp only [if_pos hc71] at h
          refine OEnds.ifF hm_15 rfl ((teq hc71).2) ?_
          refine OEnds.adv hm_15 2 (pc' := 100) (L' := [.val (.ref 1), .val (.int v1), .val (.int v2), .val (.int v3), .unset, .val (.int v5), .val (.int v6), .val (.int v7), .val (.int r89), .unset]) (S' := [.int v5]) (H' := (c0 :: bk0 o_oSide o_oPrice o_oRem o_oFilled o_oStatus o_oStamp o_oTop o_restIds o_fIds o_fQty o_fPrice o_lvlIds o_lvlR o_lvlA o_minAlloc o_topCap o_accepted o_stampCounter o_restN o_fN o_lvlN po)) rfl ?_
          cases h
          exact OEnds.iret hm_15 rfl rfl
        · simp only [if_neg hc71] at h
          refine OEnds.ifT hm_15 rfl (q := 40) rfl ((feq hc71).2) ?_
          refine OEnds.adv hm_15 4 (pc' := 45) (L' := [.val (.ref 1), .val (.int v1), .val (.int v2), .val (.int v3), .unset, .val (.int v5), .val (.int v6), .val (.int v7), .val (.int r89), .unset]) (S' := [.int r89, .int v3, .int v2, .ref 1]) (H' := (c0 :: bk0 o_oSide o_oPrice o_oRem o_oFilled o_oStatus o_oStamp o_oTop o_restIds o_fIds o_fQty o_fPrice o_lvlIds o_lvlR o_lvlA o_minAlloc o_topCap o_accepted o_stampCounter o_restN o_fN o_lvlN po)) rfl ?_
          obtain ⟨r90, hq72, h⟩ := bnd h
          refine OEnds.call0 hm_15 rfl rfl (by decide) rfl (as := [.ref 1, .int v2, .int v3, .int r89]) (rest := []) rfl rfl (ok_crosses hq72) ?_
          show OEnds own_P 15 48 [.val (.ref 1), .val (.int v1), .val (.int v2), .val (.int v3), .unset, .val (.int v5), .val (.int v6), .val (.int v7), .val (.int r89), .unset] [.int r90] (c0 :: bk0 o_oSide o_oPrice o_oRem o_oFilled o_oStatus o_oStamp o_oTop o_restIds o_fIds o_fQty o_fPrice o_lvlIds o_lvlR o_lvlA o_minAlloc o_topCap o_accepted o_stampCounter o_restN o_fN o_lvlN po) _
          by_cases hc73 : r90 = (0 : Int32)
          · simp only [if_pos hc73] at h
            refine OEnds.ifF hm_15 rfl ((teq hc73).2) ?_
            refine OEnds.adv hm_15 2 (pc' := 100) (L' := [.val (.ref 1), .val (.int v1), .val (.int v2), .val (.int v3), .unset, .val (.int v5), .val (.int v6), .val (.int v7), .val (.int r89), .unset]) (S' := [.int v5]) (H' := (c0 :: bk0 o_oSide o_oPrice o_oRem o_oFilled o_oStatus o_oStamp o_oTop o_restIds o_fIds o_fQty o_fPrice o_lvlIds o_lvlR o_lvlA o_minAlloc o_topCap o_accepted o_stampCounter o_restN o_fN o_lvlN po)) rfl ?_
            cases h
            exact OEnds.iret hm_15 rfl rfl
          · simp only [if_neg hc73] at h
            refine OEnds.ifT hm_15 rfl (q := 54) rfl ((feq hc73).2) ?_
            refine OEnds.adv hm_15 4 (pc' := 61) (L' := [.val (.ref 1), .val (.int v1), .val (.int v2), .val (.int v3), .unset, .val (.int v5), .val (.int v6), .val (.int v7), .val (.int r89), .unset]) (S' := [.int v5, .int r89, .int v6, .ref 1]) (H' := (c0 :: bk0 o_oSide o_oPrice o_oRem o_oFilled o_oStatus o_oStamp o_oTop o_restIds o_fIds o_fQty o_fPrice o_lvlIds o_lvlR o_lvlA o_minAlloc o_topCap o_accepted o_stampCounter o_restN o_fN o_lvlN po)) rfl ?_
            obtain ⟨⟨r91, s92, s93, s94, s95, s96, s97, s98, s99, s100, s101, s102, s103, s104, s105⟩, hq74, h⟩ := bnd h
            refine OEnds.call0 hm_15 rfl rfl (by decide) rfl (as := [.ref 1, .int v6, .int r89, .int v5]) (rest := []) rfl rfl (ok_matchLevel hq74) ?_
            refine OEnds.adv hm_15 2 (pc' := 68) (L' := [.val (.ref 1), .val (.int v1), .val (.int v2), .val (.int v3), .unset, .val (.int v5), .val (.int v6), .val (.int v7), .val (.int r89), .val (.int r91)]) (S' := [.int r91]) (H' := (c0 :: bk0 o_oSide o_oPrice s92 s93 s94 o_oStamp s95 s96 s97 s98 s99 s100 s101 s102 o_minAlloc o_topCap o_accepted o_stampCounter s103 s104 s105 po)) rfl ?_
            by_cases hc75 : (0 : Int32) < r91
            · simp only [if_pos hc75] at h
              refine OEnds.ifT hm_15 rfl (q := 74) rfl ((tlt hc75).2.2.1) ?_
              refine OEnds.adv hm_15 8 (pc' := 87) (L' := [.val (.ref 1), .val (.int v1), .val (.int v2), .val (.int v3), .unset, .val (.int (v5 - r91)), .val (.int v6), .val (.int v7), .val (.int r89), .val (.int r91)]) (S' := [.int v1, .ref 5, .int v1, .ref 5]) (H' := (c0 :: bk0 o_oSide o_oPrice s92 s93 s94 o_oStamp s95 s96 s97 s98 s99 s100 s101 s102 o_minAlloc o_topCap o_accepted o_stampCounter s103 s104 s105 po)) rfl ?_
              obtain ⟨x106, hx106, h⟩ := bnd h
              refine OEnds.plain hm_15 rfl rfl (x_iaload rfl hx106) ?_
              refine OEnds.adv hm_15 2 (pc' := 91) (L' := [.val (.ref 1), .val (.int v1), .val (.int v2), .val (.int v3), .unset, .val (.int (v5 - r91)), .val (.int v6), .val (.int v7), .val (.int r89), .val (.int r91)]) (S' := [.int (x106 + r91), .int v1, .ref 5]) (H' := (c0 :: bk0 o_oSide o_oPrice s92 s93 s94 o_oStamp s95 s96 s97 s98 s99 s100 s101 s102 o_minAlloc o_topCap o_accepted o_stampCounter s103 s104 s105 po)) rfl ?_
              obtain ⟨A107, hA107, h⟩ := bnd h
              refine OEnds.plain hm_15 rfl rfl (x_iastore rfl (Nat.le_of_ble_eq_true rfl) hA107) ?_
              refine OEnds.adv hm_15 2 (pc' := 12) (L' := [.val (.ref 1), .val (.int v1), .val (.int v2), .val (.int v3), .unset, .val (.int (v5 - r91)), .val (.int v6), .val (.int (v7 + (1 : Int32))), .val (.int r89), .val (.int r91)]) (S' := []) (H' := (c0 :: bk0 o_oSide o_oPrice s92 A107 s94 o_oStamp s95 s96 s97 s98 s99 s100 s101 s102 o_minAlloc o_topCap o_accepted o_stampCounter s103 s104 s105 po)) rfl ?_
              exact ih h
            · simp only [if_neg hc75] at h
              refine OEnds.ifF hm_15 rfl ((flt hc75).2.2.1) ?_
              refine OEnds.adv hm_15 2 (pc' := 100) (L' := [.val (.ref 1), .val (.int v1), .val (.int v2), .val (.int v3), .unset, .val (.int v5), .val (.int v6), .val (.int v7), .val (.int r89), .val (.int r91)]) (S' := [.int v5]) (H' := (c0 :: bk0 o_oSide o_oPrice s92 s93 s94 o_oStamp s95 s96 s97 s98 s99 s100 s101 s102 o_minAlloc o_topCap o_accepted o_stampCounter s103 s104 s105 po)) rfl ?_
              cases h
              exact OEnds.iret hm_15 rfl rfl
      · simp only [if_neg hc69] at h
        refine OEnds.ifT hm_15 rfl (q := 98) rfl ((flt hc69).2.2.2) ?_
        refine OEnds.adv hm_15 1 (pc' := 100) (L' := [.val (.ref 1), .val (.int v1), .val (.int v2), .val (.int v3), .unset, .val (.int v5), .val (.int v6), .val (.int v7), .unset, .unset]) (S' := [.int v5]) (H' := (c0 :: bk0 o_oSide o_oPrice o_oRem o_oFilled o_oStatus o_oStamp o_oTop o_restIds o_fIds o_fQty o_fPrice o_lvlIds o_lvlR o_lvlA o_minAlloc o_topCap o_accepted o_stampCounter o_restN o_fN o_lvlN po)) rfl ?_
        cases h
        exact OEnds.iret hm_15 rfl rfl
theorem ok_matchIncoming {o_oSide : List Int32} {o_oPrice : List Int32} {o_oStamp : List Int64} {o_minAlloc : Int32} {o_topCap : Int32} {o_accepted : Int32} {o_stampCounter : Int64} {c0 : ACell} {po : List ACell} {o_oRem : List Int32} {o_oFilled : List Int32} {o_oStatus : List Int32} {o_oTop : List Int32} {o_restIds : List Int32} {o_fIds : List Int32} {o_fQty : List Int32} {o_fPrice : List Int32} {o_lvlIds : List Int32} {o_lvlR : List Int32} {o_lvlA : List Int32} {o_restN : Int32} {o_fN : Int32} {o_lvlN : Int32} {v1 : Int32} {v2 : Int32} {v3 : Int32} {v4 : Int32} {res : Int32} {w_o_oRem : List Int32} {w_o_oFilled : List Int32} {w_o_oStatus : List Int32} {w_o_oTop : List Int32} {w_o_restIds : List Int32} {w_o_fIds : List Int32} {w_o_fQty : List Int32} {w_o_fPrice : List Int32} {w_o_lvlIds : List Int32} {w_o_lvlR : List Int32} {w_o_lvlA : List Int32} {w_o_restN : Int32} {w_o_fN : Int32} {w_o_lvlN : Int32} (h : f_matchIncoming o_oSide o_oPrice o_oStamp o_minAlloc o_topCap o_oRem o_oFilled o_oStatus o_oTop o_restIds o_fIds o_fQty o_fPrice o_lvlIds o_lvlR o_lvlA o_restN o_fN o_lvlN v1 v2 v3 v4 = some (res, w_o_oRem, w_o_oFilled, w_o_oStatus, w_o_oTop, w_o_restIds, w_o_fIds, w_o_fQty, w_o_fPrice, w_o_lvlIds, w_o_lvlR, w_o_lvlA, w_o_restN, w_o_fN, w_o_lvlN)) : OEnds own_P 15 0 [.val (.ref 1), .val (.int v1), .val (.int v2), .val (.int v3), .val (.int v4), .unset, .unset, .unset, .unset, .unset] [] (c0 :: bk0 o_oSide o_oPrice o_oRem o_oFilled o_oStatus o_oStamp o_oTop o_restIds o_fIds o_fQty o_fPrice o_lvlIds o_lvlR o_lvlA o_minAlloc o_topCap o_accepted o_stampCounter o_restN o_fN o_lvlN po) (some (.int res), (c0 :: bk0 o_oSide o_oPrice w_o_oRem w_o_oFilled w_o_oStatus o_oStamp w_o_oTop w_o_restIds w_o_fIds w_o_fQty w_o_fPrice w_o_lvlIds w_o_lvlR w_o_lvlA o_minAlloc o_topCap o_accepted o_stampCounter w_o_restN w_o_fN w_o_lvlN po), 0, 0) := by
  unfold f_matchIncoming at h
  refine OEnds.adv hm_15 8 (pc' := 12) (L' := [.val (.ref 1), .val (.int v1), .val (.int v2), .val (.int v3), .val (.int v4), .val (.int v4), .val (.int ((1 : Int32) - v2)), .val (.int 0), .unset, .unset]) (S' := []) (H' := (c0 :: bk0 o_oSide o_oPrice o_oRem o_oFilled o_oStatus o_oStamp o_oTop o_restIds o_fIds o_fQty o_fPrice o_lvlIds o_lvlR o_lvlA o_minAlloc o_topCap o_accepted o_stampCounter o_restN o_fN o_lvlN po)) rfl ?_
  exact ok_matchIncoming_12 100000 h
theorem ok_clearFlags_2 {o_oSide : List Int32} {o_oPrice : List Int32} {o_oRem : List Int32} {o_oFilled : List Int32} {o_oStatus : List Int32} {o_oStamp : List Int64} {o_restIds : List Int32} {o_fIds : List Int32} {o_fQty : List Int32} {o_fPrice : List Int32} {o_lvlIds : List Int32} {o_lvlR : List Int32} {o_lvlA : List Int32} {o_minAlloc : Int32} {o_topCap : Int32} {o_accepted : Int32} {o_stampCounter : Int64} {o_restN : Int32} {o_fN : Int32} {o_lvlN : Int32} {c0 : ACell} {po : List ACell} : ∀ (n : Nat), ∀ {o_oTop : List Int32} {v1 : Int32} {v2 : Int32} {d3 : Slot} {w_o_oTop : List Int32}, f_clearFlags_2 o_oSide o_restIds o_restN n o_oTop v1 v2 = some w_o_oTop → OEnds own_P 17 2 [.val (.ref 1), .val (.int v1), .val (.int v2), d3] [] (c0 :: bk0 o_oSide o_oPrice o_oRem o_oFilled o_oStatus o_oStamp o_oTop o_restIds o_fIds o_fQty o_fPrice o_lvlIds o_lvlR o_lvlA o_minAlloc o_topCap o_accepted o_stampCounter o_restN o_fN o_lvlN po) (none, (c0 :: bk0 o_oSide o_oPrice o_oRem o_oFilled o_oStatus o_oStamp w_o_oTop o_restIds o_fIds o_fQty o_fPrice o_lvlIds o_lvlR o_lvlA o_minAlloc o_topCap o_accepted o_stampCounter o_restN o_fN o_lvlN po), 0, 0) := by
  intro n
  induction n with
  | zero => intro o_oTop v1 v2 d3 w_o_oTop h; cases h
  | succ n ih =>
    intro o_oTop v1 v2 d3 w_o_oTop h
    unfold f_clearFlags_2 at h
    refine OEnds.adv hm_17 3 (pc' := 7) (L' := [.val (.ref 1), .val (.int v1), .val (.int v2), .unset]) (S' := [.int o_restN, .int v2]) (H' := (c0 :: bk0 o_oSide o_oPrice o_oRem o_oFilled o_oStatus o_oStamp o_oTop o_restIds o_fIds o_fQty o_fPrice o_lvlIds o_lvlR o_lvlA o_minAlloc o_topCap o_accepted o_stampCounter o_restN o_fN o_lvlN po)) rfl ?_
    by_cases hc76 : v2 < o_restN
    · simp only [if_pos hc76] at h
      refine OEnds.icmpF hm_17 rfl ((tlt hc76).2.1) ?_
      refine OEnds.adv hm_17 3 (pc' := 15) (L' := [.val (.ref 1), .val (.int v1), .val (.int v2), .unset]) (S' := [.int v2, .ref 9]) (H' := (c0 :: bk0 o_oSide o_oPrice o_oRem o_oFilled o_oStatus o_oStamp o_oTop o_restIds o_fIds o_fQty o_fPrice o_lvlIds o_lvlR o_lvlA o_minAlloc o_topCap o_accepted o_stampCounter o_restN o_fN o_lvlN po)) rfl ?_
      obtain ⟨x108, hx108, h⟩ := bnd h
      refine OEnds.plain hm_17 rfl rfl (x_iaload rfl hx108) ?_
      refine OEnds.adv hm_17 4 (pc' := 22) (L' := [.val (.ref 1), .val (.int v1), .val (.int v2), .val (.int x108)]) (S' := [.int x108, .ref 2]) (H' := (c0 :: bk0 o_oSide o_oPrice o_oRem o_oFilled o_oStatus o_oStamp o_oTop o_restIds o_fIds o_fQty o_fPrice o_lvlIds o_lvlR o_lvlA o_minAlloc o_topCap o_accepted o_stampCounter o_restN o_fN o_lvlN po)) rfl ?_
      obtain ⟨x109, hx109, h⟩ := bnd h
      refine OEnds.plain hm_17 rfl rfl (x_iaload rfl hx109) ?_
      refine OEnds.adv hm_17 1 (pc' := 24) (L' := [.val (.ref 1), .val (.int v1), .val (.int v2), .val (.int x108)]) (S' := [.int v1, .int x109]) (H' := (c0 :: bk0 o_oSide o_oPrice o_oRem o_oFilled o_oStatus o_oStamp o_oTop o_restIds o_fIds o_fQty o_fPrice o_lvlIds o_lvlR o_lvlA o_minAlloc o_topCap o_accepted o_stampCounter o_restN o_fN o_lvlN po)) rfl ?_
      by_cases hc77 : x109 = v1
      · simp only [if_pos hc77] at h
        refine OEnds.icmpF hm_17 rfl ((teq hc77).2) ?_
        refine OEnds.adv hm_17 4 (pc' := 33) (L' := [.val (.ref 1), .val (.int v1), .val (.int v2), .val (.int x108)]) (S' := [.int 0, .int x108, .ref 8]) (H' := (c0 :: bk0 o_oSide o_oPrice o_oRem o_oFilled o_oStatus o_oStamp o_oTop o_restIds o_fIds o_fQty o_fPrice o_lvlIds o_lvlR o_lvlA o_minAlloc o_topCap o_accepted o_stampCounter o_restN o_fN o_lvlN po)) rfl ?_
        obtain ⟨A110, hA110, h⟩ := bnd h
        refine OEnds.plain hm_17 rfl rfl (x_bastore rfl (Nat.le_of_ble_eq_true rfl) hA110) ?_
        refine OEnds.adv hm_17 2 (pc' := 2) (L' := [.val (.ref 1), .val (.int v1), .val (.int (v2 + (1 : Int32))), .val (.int x108)]) (S' := []) (H' := (c0 :: bk0 o_oSide o_oPrice o_oRem o_oFilled o_oStatus o_oStamp A110 o_restIds o_fIds o_fQty o_fPrice o_lvlIds o_lvlR o_lvlA o_minAlloc o_topCap o_accepted o_stampCounter o_restN o_fN o_lvlN po)) rfl ?_
        exact ih h
      · simp only [if_neg hc77] at h
        refine OEnds.icmpT hm_17 rfl (q := 34) rfl ((feq hc77).2) ?_
        refine OEnds.adv hm_17 2 (pc' := 2) (L' := [.val (.ref 1), .val (.int v1), .val (.int (v2 + (1 : Int32))), .val (.int x108)]) (S' := []) (H' := (c0 :: bk0 o_oSide o_oPrice o_oRem o_oFilled o_oStatus o_oStamp o_oTop o_restIds o_fIds o_fQty o_fPrice o_lvlIds o_lvlR o_lvlA o_minAlloc o_topCap o_accepted o_stampCounter o_restN o_fN o_lvlN po)) rfl ?_
        exact ih h
    · simp only [if_neg hc76] at h
      refine OEnds.icmpT hm_17 rfl (q := 40) rfl ((flt hc76).2.1) ?_
      show OEnds own_P 17 40 [.val (.ref 1), .val (.int v1), .val (.int v2), .unset] [] (c0 :: bk0 o_oSide o_oPrice o_oRem o_oFilled o_oStatus o_oStamp o_oTop o_restIds o_fIds o_fQty o_fPrice o_lvlIds o_lvlR o_lvlA o_minAlloc o_topCap o_accepted o_stampCounter o_restN o_fN o_lvlN po) _
      cases h
      exact OEnds.vret hm_17 rfl rfl
theorem ok_clearFlags {o_oSide : List Int32} {o_oPrice : List Int32} {o_oRem : List Int32} {o_oFilled : List Int32} {o_oStatus : List Int32} {o_oStamp : List Int64} {o_restIds : List Int32} {o_fIds : List Int32} {o_fQty : List Int32} {o_fPrice : List Int32} {o_lvlIds : List Int32} {o_lvlR : List Int32} {o_lvlA : List Int32} {o_minAlloc : Int32} {o_topCap : Int32} {o_accepted : Int32} {o_stampCounter : Int64} {o_restN : Int32} {o_fN : Int32} {o_lvlN : Int32} {c0 : ACell} {po : List ACell} {o_oTop : List Int32} {v1 : Int32} {w_o_oTop : List Int32} (h : f_clearFlags o_oSide o_restIds o_restN o_oTop v1 = some w_o_oTop) : OEnds own_P 17 0 [.val (.ref 1), .val (.int v1), .unset, .unset] [] (c0 :: bk0 o_oSide o_oPrice o_oRem o_oFilled o_oStatus o_oStamp o_oTop o_restIds o_fIds o_fQty o_fPrice o_lvlIds o_lvlR o_lvlA o_minAlloc o_topCap o_accepted o_stampCounter o_restN o_fN o_lvlN po) (none, (c0 :: bk0 o_oSide o_oPrice o_oRem o_oFilled o_oStatus o_oStamp w_o_oTop o_restIds o_fIds o_fQty o_fPrice o_lvlIds o_lvlR o_lvlA o_minAlloc o_topCap o_accepted o_stampCounter o_restN o_fN o_lvlN po), 0, 0) := by
  unfold f_clearFlags at h
  refine OEnds.adv hm_17 2 (pc' := 2) (L' := [.val (.ref 1), .val (.int v1), .val (.int 0), .unset]) (S' := []) (H' := (c0 :: bk0 o_oSide o_oPrice o_oRem o_oFilled o_oStatus o_oStamp o_oTop o_restIds o_fIds o_fQty o_fPrice o_lvlIds o_lvlR o_lvlA o_minAlloc o_topCap o_accepted o_stampCounter o_restN o_fN o_lvlN po)) rfl ?_
  exact ok_clearFlags_2 100000 h
theorem ok_finishIncoming_90 {o_oSide : List Int32} {o_oPrice : List Int32} {o_oFilled : List Int32} {o_fIds : List Int32} {o_fQty : List Int32} {o_fPrice : List Int32} {o_lvlIds : List Int32} {o_lvlR : List Int32} {o_lvlA : List Int32} {o_minAlloc : Int32} {o_topCap : Int32} {o_accepted : Int32} {o_fN : Int32} {o_lvlN : Int32} {c0 : ACell} {po : List ACell} : ∀ {o_oRem : List Int32} {o_oStatus : List Int32} {o_oStamp : List Int64} {o_oTop : List Int32} {o_restIds : List Int32} {o_stampCounter : Int64} {o_restN : Int32} {v1 : Int32} {v4 : Int32} {v7 : Int32} {d2 d3 d5 d6 : Slot} {w_o_oRem : List Int32} {w_o_oStatus : List Int32} {w_o_oStamp : List Int64} {w_o_oTop : List Int32} {w_o_restIds : List Int32} {w_o_stampCounter : Int64} {w_o_restN : Int32}, f_finishIncoming_90 o_oSide o_oPrice o_oRem o_oStatus o_oStamp o_oTop o_restIds o_stampCounter o_restN v1 v4 v7 = some (w_o_oRem, w_o_oStatus, w_o_oStamp, w_o_oTop, w_o_restIds, w_o_stampCounter, w_o_restN) → OEnds own_P 16 90 [.val (.ref 1), .val (.int v1), d2, d3, .val (.int v4), d5, d6, .val (.int v7)] [] (c0 :: bk0 o_oSide o_oPrice o_oRem o_oFilled o_oStatus o_oStamp o_oTop o_restIds o_fIds o_fQty o_fPrice o_lvlIds o_lvlR o_lvlA o_minAlloc o_topCap o_accepted o_stampCounter o_restN o_fN o_lvlN po) (none, (c0 :: bk0 o_oSide o_oPrice w_o_oRem o_oFilled w_o_oStatus w_o_oStamp w_o_oTop w_o_restIds o_fIds o_fQty o_fPrice o_lvlIds o_lvlR o_lvlA o_minAlloc o_topCap o_accepted w_o_stampCounter w_o_restN o_fN o_lvlN po), 0, 0) := by
  intro o_oRem o_oStatus o_oStamp o_oTop o_restIds o_stampCounter o_restN v1 v4 v7 d2 d3 d5 d6 w_o_oRem w_o_oStatus w_o_oStamp w_o_oTop w_o_restIds w_o_stampCounter w_o_restN h
  unfold f_finishIncoming_90 at h
  refine OEnds.adv hm_16 11 (pc' := 109) (L' := [.val (.ref 1), .val (.int v1), .unset, .unset, .val (.int v4), .unset, .unset, .val (.int v7)]) (S' := [.long (o_stampCounter + (1 : Int64)), .int v1, .ref 7]) (H' := (c0 :: bk0 o_oSide o_oPrice o_oRem o_oFilled o_oStatus o_oStamp o_oTop o_restIds o_fIds o_fQty o_fPrice o_lvlIds o_lvlR o_lvlA o_minAlloc o_topCap o_accepted (o_stampCounter + (1 : Int64)) o_restN o_fN o_lvlN po)) rfl ?_
  obtain ⟨A116, hA116, h⟩ := bnd h
  refine OEnds.plain hm_16 rfl rfl (x_lastore rfl (Nat.le_of_ble_eq_true rfl) hA116) ?_
  refine OEnds.adv hm_16 4 (pc' := 117) (L' := [.val (.ref 1), .val (.int v1), .unset, .unset, .val (.int v4), .unset, .unset, .val (.int v7)]) (S' := [.int v4, .int v1, .ref 4]) (H' := (c0 :: bk0 o_oSide o_oPrice o_oRem o_oFilled o_oStatus A116 o_oTop o_restIds o_fIds o_fQty o_fPrice o_lvlIds o_lvlR o_lvlA o_minAlloc o_topCap o_accepted (o_stampCounter + (1 : Int64)) o_restN o_fN o_lvlN po)) rfl ?_
  obtain ⟨A117, hA117, h⟩ := bnd h
  refine OEnds.plain hm_16 rfl rfl (x_iastore rfl (Nat.le_of_ble_eq_true rfl) hA117) ?_
  refine OEnds.adv hm_16 4 (pc' := 124) (L' := [.val (.ref 1), .val (.int v1), .unset, .unset, .val (.int v4), .unset, .unset, .val (.int v7)]) (S' := [.int 1, .int v1, .ref 6]) (H' := (c0 :: bk0 o_oSide o_oPrice A117 o_oFilled o_oStatus A116 o_oTop o_restIds o_fIds o_fQty o_fPrice o_lvlIds o_lvlR o_lvlA o_minAlloc o_topCap o_accepted (o_stampCounter + (1 : Int64)) o_restN o_fN o_lvlN po)) rfl ?_
  obtain ⟨A118, hA118, h⟩ := bnd h
  refine OEnds.plain hm_16 rfl rfl (x_iastore rfl (Nat.le_of_ble_eq_true rfl) hA118) ?_
  refine OEnds.adv hm_16 4 (pc' := 132) (L' := [.val (.ref 1), .val (.int v1), .unset, .unset, .val (.int v4), .unset, .unset, .val (.int v7)]) (S' := [.int v7, .int v1, .ref 8]) (H' := (c0 :: bk0 o_oSide o_oPrice A117 o_oFilled A118 A116 o_oTop o_restIds o_fIds o_fQty o_fPrice o_lvlIds o_lvlR o_lvlA o_minAlloc o_topCap o_accepted (o_stampCounter + (1 : Int64)) o_restN o_fN o_lvlN po)) rfl ?_
  obtain ⟨A119, hA119, h⟩ := bnd h
  refine OEnds.plain hm_16 rfl rfl (x_bastore rfl (Nat.le_of_ble_eq_true rfl) hA119) ?_
  refine OEnds.adv hm_16 5 (pc' := 142) (L' := [.val (.ref 1), .val (.int v1), .unset, .unset, .val (.int v4), .unset, .unset, .val (.int v7)]) (S' := [.int v1, .int o_restN, .ref 9]) (H' := (c0 :: bk0 o_oSide o_oPrice A117 o_oFilled A118 A116 A119 o_restIds o_fIds o_fQty o_fPrice o_lvlIds o_lvlR o_lvlA o_minAlloc o_topCap o_accepted (o_stampCounter + (1 : Int64)) o_restN o_fN o_lvlN po)) rfl ?_
  obtain ⟨A120, hA120, h⟩ := bnd h
  refine OEnds.plain hm_16 rfl rfl (x_iastore rfl (Nat.le_of_ble_eq_true rfl) hA120) ?_
  refine OEnds.adv hm_16 6 (pc' := 153) (L' := [.val (.ref 1), .val (.int v1), .unset, .unset, .val (.int v4), .unset, .unset, .val (.int v7)]) (S' := []) (H' := (c0 :: bk0 o_oSide o_oPrice A117 o_oFilled A118 A116 A119 A120 o_fIds o_fQty o_fPrice o_lvlIds o_lvlR o_lvlA o_minAlloc o_topCap o_accepted (o_stampCounter + (1 : Int64)) (o_restN + (1 : Int32)) o_fN o_lvlN po)) rfl ?_
  cases h
  exact OEnds.vret hm_16 rfl rfl
theorem ok_finishIncoming_78 {o_oSide : List Int32} {o_oPrice : List Int32} {o_oFilled : List Int32} {o_fIds : List Int32} {o_fQty : List Int32} {o_fPrice : List Int32} {o_lvlIds : List Int32} {o_lvlR : List Int32} {o_lvlA : List Int32} {o_minAlloc : Int32} {o_topCap : Int32} {o_accepted : Int32} {o_fN : Int32} {o_lvlN : Int32} {c0 : ACell} {po : List ACell} : ∀ {o_oRem : List Int32} {o_oStatus : List Int32} {o_oStamp : List Int64} {o_oTop : List Int32} {o_restIds : List Int32} {o_stampCounter : Int64} {o_restN : Int32} {v1 : Int32} {v2 : Int32} {v4 : Int32} {t0 : Int32} {d3 d5 d6 d7 : Slot} {w_o_oRem : List Int32} {w_o_oStatus : List Int32} {w_o_oStamp : List Int64} {w_o_oTop : List Int32} {w_o_restIds : List Int32} {w_o_stampCounter : Int64} {w_o_restN : Int32}, f_finishIncoming_78 o_oSide o_oPrice o_oRem o_oStatus o_oStamp o_oTop o_restIds o_stampCounter o_restN v1 v2 v4 t0 = some (w_o_oRem, w_o_oStatus, w_o_oStamp, w_o_oTop, w_o_restIds, w_o_stampCounter, w_o_restN) → OEnds own_P 16 78 [.val (.ref 1), .val (.int v1), .val (.int v2), d3, .val (.int v4), d5, d6, d7] [.int t0] (c0 :: bk0 o_oSide o_oPrice o_oRem o_oFilled o_oStatus o_oStamp o_oTop o_restIds o_fIds o_fQty o_fPrice o_lvlIds o_lvlR o_lvlA o_minAlloc o_topCap o_accepted o_stampCounter o_restN o_fN o_lvlN po) (none, (c0 :: bk0 o_oSide o_oPrice w_o_oRem o_oFilled w_o_oStatus w_o_oStamp w_o_oTop w_o_restIds o_fIds o_fQty o_fPrice o_lvlIds o_lvlR o_lvlA o_minAlloc o_topCap o_accepted w_o_stampCounter w_o_restN o_fN o_lvlN po), 0, 0) := by
  intro o_oRem o_oStatus o_oStamp o_oTop o_restIds o_stampCounter o_restN v1 v2 v4 t0 d3 d5 d6 d7 w_o_oRem w_o_oStatus w_o_oStamp w_o_oTop w_o_restIds w_o_stampCounter w_o_restN h
  unfold f_finishIncoming_78 at h
  refine OEnds.adv hm_16 2 (pc' := 82) (L' := [.val (.ref 1), .val (.int v1), .val (.int v2), .unset, .val (.int v4), .unset, .unset, .val (.int t0)]) (S' := [.int t0]) (H' := (c0 :: bk0 o_oSide o_oPrice o_oRem o_oFilled o_oStatus o_oStamp o_oTop o_restIds o_fIds o_fQty o_fPrice o_lvlIds o_lvlR o_lvlA o_minAlloc o_topCap o_accepted o_stampCounter o_restN o_fN o_lvlN po)) rfl ?_
  by_cases hc78 : t0 = (0 : Int32)
  · simp only [if_pos hc78] at h
    refine OEnds.ifT hm_16 rfl (q := 90) rfl ((teq hc78).1) ?_
    show OEnds own_P 16 90 [.val (.ref 1), .val (.int v1), .val (.int v2), .unset, .val (.int v4), .unset, .unset, .val (.int t0)] [] (c0 :: bk0 o_oSide o_oPrice o_oRem o_oFilled o_oStatus o_oStamp o_oTop o_restIds o_fIds o_fQty o_fPrice o_lvlIds o_lvlR o_lvlA o_minAlloc o_topCap o_accepted o_stampCounter o_restN o_fN o_lvlN po) _
    exact ok_finishIncoming_90 h
  · simp only [if_neg hc78] at h
    refine OEnds.ifF hm_16 rfl ((feq hc78).1) ?_
    refine OEnds.adv hm_16 2 (pc' := 87) (L' := [.val (.ref 1), .val (.int v1), .val (.int v2), .unset, .val (.int v4), .unset, .unset, .val (.int t0)]) (S' := [.int v2, .ref 1]) (H' := (c0 :: bk0 o_oSide o_oPrice o_oRem o_oFilled o_oStatus o_oStamp o_oTop o_restIds o_fIds o_fQty o_fPrice o_lvlIds o_lvlR o_lvlA o_minAlloc o_topCap o_accepted o_stampCounter o_restN o_fN o_lvlN po)) rfl ?_
    obtain ⟨s115, hq79, h⟩ := bnd h
    refine OEnds.call0 hm_16 rfl rfl (by decide) rfl (as := [.ref 1, .int v2]) (rest := []) rfl rfl (ok_clearFlags hq79) ?_
    show OEnds own_P 16 90 [.val (.ref 1), .val (.int v1), .val (.int v2), .unset, .val (.int v4), .unset, .unset, .val (.int t0)] [] (c0 :: bk0 o_oSide o_oPrice o_oRem o_oFilled o_oStatus o_oStamp s115 o_restIds o_fIds o_fQty o_fPrice o_lvlIds o_lvlR o_lvlA o_minAlloc o_topCap o_accepted o_stampCounter o_restN o_fN o_lvlN po) _
    exact ok_finishIncoming_90 h
theorem ok_finishIncoming_35 {o_oSide : List Int32} {o_oPrice : List Int32} {o_oFilled : List Int32} {o_fIds : List Int32} {o_fQty : List Int32} {o_fPrice : List Int32} {o_lvlIds : List Int32} {o_lvlR : List Int32} {o_lvlA : List Int32} {o_minAlloc : Int32} {o_topCap : Int32} {o_accepted : Int32} {o_fN : Int32} {o_lvlN : Int32} {c0 : ACell} {po : List ACell} : ∀ {o_oRem : List Int32} {o_oStatus : List Int32} {o_oStamp : List Int64} {o_oTop : List Int32} {o_restIds : List Int32} {o_stampCounter : Int64} {o_restN : Int32} {v1 : Int32} {d2 d3 d4 d5 d6 d7 : Slot} {w_o_oRem : List Int32} {w_o_oStatus : List Int32} {w_o_oStamp : List Int64} {w_o_oTop : List Int32} {w_o_restIds : List Int32} {w_o_stampCounter : Int64} {w_o_restN : Int32}, f_finishIncoming_35 o_oSide o_oPrice o_oRem o_oStatus o_oStamp o_oTop o_restIds o_stampCounter o_restN v1 = some (w_o_oRem, w_o_oStatus, w_o_oStamp, w_o_oTop, w_o_restIds, w_o_stampCounter, w_o_restN) → OEnds own_P 16 35 [.val (.ref 1), .val (.int v1), d2, d3, d4, d5, d6, d7] [] (c0 :: bk0 o_oSide o_oPrice o_oRem o_oFilled o_oStatus o_oStamp o_oTop o_restIds o_fIds o_fQty o_fPrice o_lvlIds o_lvlR o_lvlA o_minAlloc o_topCap o_accepted o_stampCounter o_restN o_fN o_lvlN po) (none, (c0 :: bk0 o_oSide o_oPrice w_o_oRem o_oFilled w_o_oStatus w_o_oStamp w_o_oTop w_o_restIds o_fIds o_fQty o_fPrice o_lvlIds o_lvlR o_lvlA o_minAlloc o_topCap o_accepted w_o_stampCounter w_o_restN o_fN o_lvlN po), 0, 0) := by
  intro o_oRem o_oStatus o_oStamp o_oTop o_restIds o_stampCounter o_restN v1 d2 d3 d4 d5 d6 d7 w_o_oRem w_o_oStatus w_o_oStamp w_o_oTop w_o_restIds w_o_stampCounter w_o_restN h
  unfold f_finishIncoming_35 at h
  refine OEnds.adv hm_16 4 (pc' := 41) (L' := [.val (.ref 1), .val (.int v1), .unset, .unset, .unset, .unset, .unset, .unset]) (S' := [.int 4, .int v1, .ref 6]) (H' := (c0 :: bk0 o_oSide o_oPrice o_oRem o_oFilled o_oStatus o_oStamp o_oTop o_restIds o_fIds o_fQty o_fPrice o_lvlIds o_lvlR o_lvlA o_minAlloc o_topCap o_accepted o_stampCounter o_restN o_fN o_lvlN po)) rfl ?_
  obtain ⟨A121, hA121, h⟩ := bnd h
  refine OEnds.plain hm_16 rfl rfl (x_iastore rfl (Nat.le_of_ble_eq_true rfl) hA121) ?_
  refine OEnds.adv hm_16 4 (pc' := 48) (L' := [.val (.ref 1), .val (.int v1), .unset, .unset, .unset, .unset, .unset, .unset]) (S' := [.int 0, .int v1, .ref 4]) (H' := (c0 :: bk0 o_oSide o_oPrice o_oRem o_oFilled A121 o_oStamp o_oTop o_restIds o_fIds o_fQty o_fPrice o_lvlIds o_lvlR o_lvlA o_minAlloc o_topCap o_accepted o_stampCounter o_restN o_fN o_lvlN po)) rfl ?_
  obtain ⟨A122, hA122, h⟩ := bnd h
  refine OEnds.plain hm_16 rfl rfl (x_iastore rfl (Nat.le_of_ble_eq_true rfl) hA122) ?_
  show OEnds own_P 16 49 [.val (.ref 1), .val (.int v1), .unset, .unset, .unset, .unset, .unset, .unset] [] (c0 :: bk0 o_oSide o_oPrice A122 o_oFilled A121 o_oStamp o_oTop o_restIds o_fIds o_fQty o_fPrice o_lvlIds o_lvlR o_lvlA o_minAlloc o_topCap o_accepted o_stampCounter o_restN o_fN o_lvlN po) _
  cases h
  exact OEnds.vret hm_16 rfl rfl
theorem ok_finishIncoming {o_oSide : List Int32} {o_oPrice : List Int32} {o_oFilled : List Int32} {o_fIds : List Int32} {o_fQty : List Int32} {o_fPrice : List Int32} {o_lvlIds : List Int32} {o_lvlR : List Int32} {o_lvlA : List Int32} {o_minAlloc : Int32} {o_topCap : Int32} {o_accepted : Int32} {o_fN : Int32} {o_lvlN : Int32} {c0 : ACell} {po : List ACell} {o_oRem : List Int32} {o_oStatus : List Int32} {o_oStamp : List Int64} {o_oTop : List Int32} {o_restIds : List Int32} {o_stampCounter : Int64} {o_restN : Int32} {v1 : Int32} {v2 : Int32} {v3 : Int32} {v4 : Int32} {v5 : Int32} {w_o_oRem : List Int32} {w_o_oStatus : List Int32} {w_o_oStamp : List Int64} {w_o_oTop : List Int32} {w_o_restIds : List Int32} {w_o_stampCounter : Int64} {w_o_restN : Int32} (h : f_finishIncoming o_oSide o_oPrice o_oRem o_oStatus o_oStamp o_oTop o_restIds o_stampCounter o_restN v1 v2 v3 v4 v5 = some (w_o_oRem, w_o_oStatus, w_o_oStamp, w_o_oTop, w_o_restIds, w_o_stampCounter, w_o_restN)) : OEnds own_P 16 0 [.val (.ref 1), .val (.int v1), .val (.int v2), .val (.int v3), .val (.int v4), .val (.int v5), .unset, .unset] [] (c0 :: bk0 o_oSide o_oPrice o_oRem o_oFilled o_oStatus o_oStamp o_oTop o_restIds o_fIds o_fQty o_fPrice o_lvlIds o_lvlR o_lvlA o_minAlloc o_topCap o_accepted o_stampCounter o_restN o_fN o_lvlN po) (none, (c0 :: bk0 o_oSide o_oPrice w_o_oRem o_oFilled w_o_oStatus w_o_oStamp w_o_oTop w_o_restIds o_fIds o_fQty o_fPrice o_lvlIds o_lvlR o_lvlA o_minAlloc o_topCap o_accepted w_o_stampCounter w_o_restN o_fN o_lvlN po), 0, 0) := by
  unfold f_finishIncoming at h
  refine OEnds.adv hm_16 1 (pc' := 2) (L' := [.val (.ref 1), .val (.int v1), .val (.int v2), .val (.int v3), .val (.int v4), .val (.int v5), .unset, .unset]) (S' := [.int v4]) (H' := (c0 :: bk0 o_oSide o_oPrice o_oRem o_oFilled o_oStatus o_oStamp o_oTop o_restIds o_fIds o_fQty o_fPrice o_lvlIds o_lvlR o_lvlA o_minAlloc o_topCap o_accepted o_stampCounter o_restN o_fN o_lvlN po)) rfl ?_
  by_cases hc80 : v4 = (0 : Int32)
  · simp only [if_pos hc80] at h
    refine OEnds.ifF hm_16 rfl ((teq hc80).2) ?_
    refine OEnds.adv hm_16 4 (pc' := 11) (L' := [.val (.ref 1), .val (.int v1), .val (.int v2), .val (.int v3), .val (.int v4), .val (.int v5), .unset, .unset]) (S' := [.int 2, .int v1, .ref 6]) (H' := (c0 :: bk0 o_oSide o_oPrice o_oRem o_oFilled o_oStatus o_oStamp o_oTop o_restIds o_fIds o_fQty o_fPrice o_lvlIds o_lvlR o_lvlA o_minAlloc o_topCap o_accepted o_stampCounter o_restN o_fN o_lvlN po)) rfl ?_
    obtain ⟨A113, hA113, h⟩ := bnd h
    refine OEnds.plain hm_16 rfl rfl (x_iastore rfl (Nat.le_of_ble_eq_true rfl) hA113) ?_
    refine OEnds.adv hm_16 4 (pc' := 18) (L' := [.val (.ref 1), .val (.int v1), .val (.int v2), .val (.int v3), .val (.int v4), .val (.int v5), .unset, .unset]) (S' := [.int 0, .int v1, .ref 4]) (H' := (c0 :: bk0 o_oSide o_oPrice o_oRem o_oFilled A113 o_oStamp o_oTop o_restIds o_fIds o_fQty o_fPrice o_lvlIds o_lvlR o_lvlA o_minAlloc o_topCap o_accepted o_stampCounter o_restN o_fN o_lvlN po)) rfl ?_
    obtain ⟨A114, hA114, h⟩ := bnd h
    refine OEnds.plain hm_16 rfl rfl (x_iastore rfl (Nat.le_of_ble_eq_true rfl) hA114) ?_
    show OEnds own_P 16 19 [.val (.ref 1), .val (.int v1), .val (.int v2), .val (.int v3), .val (.int v4), .val (.int v5), .unset, .unset] [] (c0 :: bk0 o_oSide o_oPrice A114 o_oFilled A113 o_oStamp o_oTop o_restIds o_fIds o_fQty o_fPrice o_lvlIds o_lvlR o_lvlA o_minAlloc o_topCap o_accepted o_stampCounter o_restN o_fN o_lvlN po) _
    cases h
    exact OEnds.vret hm_16 rfl rfl
  · simp only [if_neg hc80] at h
    refine OEnds.ifT hm_16 rfl (q := 20) rfl ((feq hc80).2) ?_
    refine OEnds.adv hm_16 2 (pc' := 23) (L' := [.val (.ref 1), .val (.int v1), .val (.int v2), .val (.int v3), .val (.int v4), .val (.int v5), .unset, .unset]) (S' := [.int 1, .int v5]) (H' := (c0 :: bk0 o_oSide o_oPrice o_oRem o_oFilled o_oStatus o_oStamp o_oTop o_restIds o_fIds o_fQty o_fPrice o_lvlIds o_lvlR o_lvlA o_minAlloc o_topCap o_accepted o_stampCounter o_restN o_fN o_lvlN po)) rfl ?_
    by_cases hc81 : v5 = (1 : Int32)
    · simp only [if_pos hc81] at h
      refine OEnds.icmpT hm_16 rfl (q := 35) rfl ((teq hc81).1) ?_
      show OEnds own_P 16 35 [.val (.ref 1), .val (.int v1), .val (.int v2), .val (.int v3), .val (.int v4), .val (.int v5), .unset, .unset] [] (c0 :: bk0 o_oSide o_oPrice o_oRem o_oFilled o_oStatus o_oStamp o_oTop o_restIds o_fIds o_fQty o_fPrice o_lvlIds o_lvlR o_lvlA o_minAlloc o_topCap o_accepted o_stampCounter o_restN o_fN o_lvlN po) _
      exact ok_finishIncoming_35 h
    · simp only [if_neg hc81] at h
      refine OEnds.icmpF hm_16 rfl ((feq hc81).1) ?_
      refine OEnds.adv hm_16 3 (pc' := 32) (L' := [.val (.ref 1), .val (.int v1), .val (.int v2), .val (.int v3), .val (.int v4), .val (.int v5), .unset, .unset]) (S' := [.int 64, .int o_restN]) (H' := (c0 :: bk0 o_oSide o_oPrice o_oRem o_oFilled o_oStatus o_oStamp o_oTop o_restIds o_fIds o_fQty o_fPrice o_lvlIds o_lvlR o_lvlA o_minAlloc o_topCap o_accepted o_stampCounter o_restN o_fN o_lvlN po)) rfl ?_
      by_cases hc82 : o_restN < (64 : Int32)
      · simp only [if_pos hc82] at h
        refine OEnds.icmpT hm_16 rfl (q := 50) rfl ((tlt hc82).1) ?_
        refine OEnds.adv hm_16 2 (pc' := 52) (L' := [.val (.ref 1), .val (.int v1), .val (.int v2), .val (.int v3), .val (.int v4), .val (.int v5), .unset, .unset]) (S' := [.int v2, .ref 1]) (H' := (c0 :: bk0 o_oSide o_oPrice o_oRem o_oFilled o_oStatus o_oStamp o_oTop o_restIds o_fIds o_fQty o_fPrice o_lvlIds o_lvlR o_lvlA o_minAlloc o_topCap o_accepted o_stampCounter o_restN o_fN o_lvlN po)) rfl ?_
        obtain ⟨r111, hq83, h⟩ := bnd h
        refine OEnds.call0 hm_16 rfl rfl (by decide) rfl (as := [.ref 1, .int v2]) (rest := []) rfl rfl (ok_bestOf hq83) ?_
        refine OEnds.adv hm_16 2 (pc' := 59) (L' := [.val (.ref 1), .val (.int v1), .val (.int v2), .val (.int v3), .val (.int v4), .val (.int v5), .val (.int r111), .unset]) (S' := [.int r111]) (H' := (c0 :: bk0 o_oSide o_oPrice o_oRem o_oFilled o_oStatus o_oStamp o_oTop o_restIds o_fIds o_fQty o_fPrice o_lvlIds o_lvlR o_lvlA o_minAlloc o_topCap o_accepted o_stampCounter o_restN o_fN o_lvlN po)) rfl ?_
        by_cases hc84 : r111 = (0 : Int32)
        · simp only [if_pos hc84] at h
          refine OEnds.ifT hm_16 rfl (q := 73) rfl ((teq hc84).1) ?_
          refine OEnds.adv hm_16 2 (pc' := 78) (L' := [.val (.ref 1), .val (.int v1), .val (.int v2), .val (.int v3), .val (.int v4), .val (.int v5), .val (.int r111), .unset]) (S' := [.int 1]) (H' := (c0 :: bk0 o_oSide o_oPrice o_oRem o_oFilled o_oStatus o_oStamp o_oTop o_restIds o_fIds o_fQty o_fPrice o_lvlIds o_lvlR o_lvlA o_minAlloc o_topCap o_accepted o_stampCounter o_restN o_fN o_lvlN po)) rfl ?_
          exact ok_finishIncoming_78 h
        · simp only [if_neg hc84] at h
          refine OEnds.ifF hm_16 rfl ((feq hc84).1) ?_
          refine OEnds.adv hm_16 4 (pc' := 67) (L' := [.val (.ref 1), .val (.int v1), .val (.int v2), .val (.int v3), .val (.int v4), .val (.int v5), .val (.int r111), .unset]) (S' := [.int r111, .int v3, .int v2, .ref 1]) (H' := (c0 :: bk0 o_oSide o_oPrice o_oRem o_oFilled o_oStatus o_oStamp o_oTop o_restIds o_fIds o_fQty o_fPrice o_lvlIds o_lvlR o_lvlA o_minAlloc o_topCap o_accepted o_stampCounter o_restN o_fN o_lvlN po)) rfl ?_
          obtain ⟨r112, hq85, h⟩ := bnd h
          refine OEnds.call0 hm_16 rfl rfl (by decide) rfl (as := [.ref 1, .int v2, .int v3, .int r111]) (rest := []) rfl rfl (ok_better hq85) ?_
          show OEnds own_P 16 70 [.val (.ref 1), .val (.int v1), .val (.int v2), .val (.int v3), .val (.int v4), .val (.int v5), .val (.int r111), .unset] [.int r112] (c0 :: bk0 o_oSide o_oPrice o_oRem o_oFilled o_oStatus o_oStamp o_oTop o_restIds o_fIds o_fQty o_fPrice o_lvlIds o_lvlR o_lvlA o_minAlloc o_topCap o_accepted o_stampCounter o_restN o_fN o_lvlN po) _
          by_cases hc86 : r112 = (0 : Int32)
          · simp only [if_pos hc86] at h
            refine OEnds.ifT hm_16 rfl (q := 77) rfl ((teq hc86).1) ?_
            refine OEnds.adv hm_16 1 (pc' := 78) (L' := [.val (.ref 1), .val (.int v1), .val (.int v2), .val (.int v3), .val (.int v4), .val (.int v5), .val (.int r111), .unset]) (S' := [.int 0]) (H' := (c0 :: bk0 o_oSide o_oPrice o_oRem o_oFilled o_oStatus o_oStamp o_oTop o_restIds o_fIds o_fQty o_fPrice o_lvlIds o_lvlR o_lvlA o_minAlloc o_topCap o_accepted o_stampCounter o_restN o_fN o_lvlN po)) rfl ?_
            exact ok_finishIncoming_78 h
          · simp only [if_neg hc86] at h
            refine OEnds.ifF hm_16 rfl ((feq hc86).1) ?_
            refine OEnds.adv hm_16 2 (pc' := 78) (L' := [.val (.ref 1), .val (.int v1), .val (.int v2), .val (.int v3), .val (.int v4), .val (.int v5), .val (.int r111), .unset]) (S' := [.int 1]) (H' := (c0 :: bk0 o_oSide o_oPrice o_oRem o_oFilled o_oStatus o_oStamp o_oTop o_restIds o_fIds o_fQty o_fPrice o_lvlIds o_lvlR o_lvlA o_minAlloc o_topCap o_accepted o_stampCounter o_restN o_fN o_lvlN po)) rfl ?_
            exact ok_finishIncoming_78 h
      · simp only [if_neg hc82] at h
        refine OEnds.icmpF hm_16 rfl ((flt hc82).1) ?_
        show OEnds own_P 16 35 [.val (.ref 1), .val (.int v1), .val (.int v2), .val (.int v3), .val (.int v4), .val (.int v5), .unset, .unset] [] (c0 :: bk0 o_oSide o_oPrice o_oRem o_oFilled o_oStatus o_oStamp o_oTop o_restIds o_fIds o_fQty o_fPrice o_lvlIds o_lvlR o_lvlA o_minAlloc o_topCap o_accepted o_stampCounter o_restN o_fN o_lvlN po) _
        exact ok_finishIncoming_35 h
theorem ok_submit_55 {o_minAlloc : Int32} {o_topCap : Int32} {c0 : ACell} {po : List ACell} : ∀ {o_oSide : List Int32} {o_oPrice : List Int32} {o_oRem : List Int32} {o_oFilled : List Int32} {o_oStatus : List Int32} {o_oStamp : List Int64} {o_oTop : List Int32} {o_restIds : List Int32} {o_fIds : List Int32} {o_fQty : List Int32} {o_fPrice : List Int32} {o_lvlIds : List Int32} {o_lvlR : List Int32} {o_lvlA : List Int32} {o_accepted : Int32} {o_stampCounter : Int64} {o_restN : Int32} {o_fN : Int32} {o_lvlN : Int32} {v1 : Int32} {v2 : Int32} {v3 : Int32} {v4 : Int32} {d5 d6 : Slot} {res : Int32} {w_o_oSide : List Int32} {w_o_oPrice : List Int32} {w_o_oRem : List Int32} {w_o_oFilled : List Int32} {w_o_oStatus : List Int32} {w_o_oStamp : List Int64} {w_o_oTop : List Int32} {w_o_restIds : List Int32} {w_o_fIds : List Int32} {w_o_fQty : List Int32} {w_o_fPrice : List Int32} {w_o_lvlIds : List Int32} {w_o_lvlR : List Int32} {w_o_lvlA : List Int32} {w_o_accepted : Int32} {w_o_stampCounter : Int64} {w_o_restN : Int32} {w_o_fN : Int32} {w_o_lvlN : Int32}, f_submit_55 o_minAlloc o_topCap o_oSide o_oPrice o_oRem o_oFilled o_oStatus o_oStamp o_oTop o_restIds o_fIds o_fQty o_fPrice o_lvlIds o_lvlR o_lvlA o_accepted o_stampCounter o_restN o_fN o_lvlN v1 v2 v3 v4 = some (res, w_o_oSide, w_o_oPrice, w_o_oRem, w_o_oFilled, w_o_oStatus, w_o_oStamp, w_o_oTop, w_o_restIds, w_o_fIds, w_o_fQty, w_o_fPrice, w_o_lvlIds, w_o_lvlR, w_o_lvlA, w_o_accepted, w_o_stampCounter, w_o_restN, w_o_fN, w_o_lvlN) → OEnds own_P 2 55 [.val (.ref 1), .val (.int v1), .val (.int v2), .val (.int v3), .val (.int v4), d5, d6] [] (c0 :: bk0 o_oSide o_oPrice o_oRem o_oFilled o_oStatus o_oStamp o_oTop o_restIds o_fIds o_fQty o_fPrice o_lvlIds o_lvlR o_lvlA o_minAlloc o_topCap o_accepted o_stampCounter o_restN o_fN o_lvlN po) (some (.int res), (c0 :: bk0 w_o_oSide w_o_oPrice w_o_oRem w_o_oFilled w_o_oStatus w_o_oStamp w_o_oTop w_o_restIds w_o_fIds w_o_fQty w_o_fPrice w_o_lvlIds w_o_lvlR w_o_lvlA o_minAlloc o_topCap w_o_accepted w_o_stampCounter w_o_restN w_o_fN w_o_lvlN po), 0, 0) := by
  intro o_oSide o_oPrice o_oRem o_oFilled o_oStatus o_oStamp o_oTop o_restIds o_fIds o_fQty o_fPrice o_lvlIds o_lvlR o_lvlA o_accepted o_stampCounter o_restN o_fN o_lvlN v1 v2 v3 v4 d5 d6 res w_o_oSide w_o_oPrice w_o_oRem w_o_oFilled w_o_oStatus w_o_oStamp w_o_oTop w_o_restIds w_o_fIds w_o_fQty w_o_fPrice w_o_lvlIds w_o_lvlR w_o_lvlA w_o_accepted w_o_stampCounter w_o_restN w_o_fN w_o_lvlN h
  unfold f_submit_55 at h
  refine OEnds.adv hm_2 3 (pc' := 62) (L' := [.val (.ref 1), .val (.int v1), .val (.int v2), .val (.int v3), .val (.int v4), .unset, .unset]) (S' := [.int 255, .int o_accepted]) (H' := (c0 :: bk0 o_oSide o_oPrice o_oRem o_oFilled o_oStatus o_oStamp o_oTop o_restIds o_fIds o_fQty o_fPrice o_lvlIds o_lvlR o_lvlA o_minAlloc o_topCap o_accepted o_stampCounter o_restN o_fN o_lvlN po)) rfl ?_
  by_cases hc87 : o_accepted < (255 : Int32)
  · simp only [if_pos hc87] at h
    refine OEnds.icmpT hm_2 rfl (q := 68) rfl ((tlt hc87).1) ?_
    refine OEnds.adv hm_2 16 (pc' := 96) (L' := [.val (.ref 1), .val (.int v1), .val (.int v2), .val (.int v3), .val (.int v4), .val (.int (o_accepted + (1 : Int32))), .unset]) (S' := [.int v1, .int (o_accepted + (1 : Int32)), .ref 2]) (H' := (c0 :: bk0 o_oSide o_oPrice o_oRem o_oFilled o_oStatus o_oStamp o_oTop o_restIds o_fIds o_fQty o_fPrice o_lvlIds o_lvlR o_lvlA o_minAlloc o_topCap (o_accepted + (1 : Int32)) o_stampCounter o_restN 0 o_lvlN po)) rfl ?_
    obtain ⟨A123, hA123, h⟩ := bnd h
    refine OEnds.plain hm_2 rfl rfl (x_iastore rfl (Nat.le_of_ble_eq_true rfl) hA123) ?_
    refine OEnds.adv hm_2 4 (pc' := 104) (L' := [.val (.ref 1), .val (.int v1), .val (.int v2), .val (.int v3), .val (.int v4), .val (.int (o_accepted + (1 : Int32))), .unset]) (S' := [.int v2, .int (o_accepted + (1 : Int32)), .ref 3]) (H' := (c0 :: bk0 A123 o_oPrice o_oRem o_oFilled o_oStatus o_oStamp o_oTop o_restIds o_fIds o_fQty o_fPrice o_lvlIds o_lvlR o_lvlA o_minAlloc o_topCap (o_accepted + (1 : Int32)) o_stampCounter o_restN 0 o_lvlN po)) rfl ?_
    obtain ⟨A124, hA124, h⟩ := bnd h
    refine OEnds.plain hm_2 rfl rfl (x_iastore rfl (Nat.le_of_ble_eq_true rfl) hA124) ?_
    refine OEnds.adv hm_2 4 (pc' := 112) (L' := [.val (.ref 1), .val (.int v1), .val (.int v2), .val (.int v3), .val (.int v4), .val (.int (o_accepted + (1 : Int32))), .unset]) (S' := [.int 0, .int (o_accepted + (1 : Int32)), .ref 4]) (H' := (c0 :: bk0 A123 A124 o_oRem o_oFilled o_oStatus o_oStamp o_oTop o_restIds o_fIds o_fQty o_fPrice o_lvlIds o_lvlR o_lvlA o_minAlloc o_topCap (o_accepted + (1 : Int32)) o_stampCounter o_restN 0 o_lvlN po)) rfl ?_
    obtain ⟨A125, hA125, h⟩ := bnd h
    refine OEnds.plain hm_2 rfl rfl (x_iastore rfl (Nat.le_of_ble_eq_true rfl) hA125) ?_
    refine OEnds.adv hm_2 4 (pc' := 120) (L' := [.val (.ref 1), .val (.int v1), .val (.int v2), .val (.int v3), .val (.int v4), .val (.int (o_accepted + (1 : Int32))), .unset]) (S' := [.int 0, .int (o_accepted + (1 : Int32)), .ref 5]) (H' := (c0 :: bk0 A123 A124 A125 o_oFilled o_oStatus o_oStamp o_oTop o_restIds o_fIds o_fQty o_fPrice o_lvlIds o_lvlR o_lvlA o_minAlloc o_topCap (o_accepted + (1 : Int32)) o_stampCounter o_restN 0 o_lvlN po)) rfl ?_
    obtain ⟨A126, hA126, h⟩ := bnd h
    refine OEnds.plain hm_2 rfl rfl (x_iastore rfl (Nat.le_of_ble_eq_true rfl) hA126) ?_
    refine OEnds.adv hm_2 4 (pc' := 128) (L' := [.val (.ref 1), .val (.int v1), .val (.int v2), .val (.int v3), .val (.int v4), .val (.int (o_accepted + (1 : Int32))), .unset]) (S' := [.int 0, .int (o_accepted + (1 : Int32)), .ref 8]) (H' := (c0 :: bk0 A123 A124 A125 A126 o_oStatus o_oStamp o_oTop o_restIds o_fIds o_fQty o_fPrice o_lvlIds o_lvlR o_lvlA o_minAlloc o_topCap (o_accepted + (1 : Int32)) o_stampCounter o_restN 0 o_lvlN po)) rfl ?_
    obtain ⟨A127, hA127, h⟩ := bnd h
    refine OEnds.plain hm_2 rfl rfl (x_bastore rfl (Nat.le_of_ble_eq_true rfl) hA127) ?_
    refine OEnds.adv hm_2 4 (pc' := 136) (L' := [.val (.ref 1), .val (.int v1), .val (.int v2), .val (.int v3), .val (.int v4), .val (.int (o_accepted + (1 : Int32))), .unset]) (S' := [.long 0, .int (o_accepted + (1 : Int32)), .ref 7]) (H' := (c0 :: bk0 A123 A124 A125 A126 o_oStatus o_oStamp A127 o_restIds o_fIds o_fQty o_fPrice o_lvlIds o_lvlR o_lvlA o_minAlloc o_topCap (o_accepted + (1 : Int32)) o_stampCounter o_restN 0 o_lvlN po)) rfl ?_
    obtain ⟨A128, hA128, h⟩ := bnd h
    refine OEnds.plain hm_2 rfl rfl (x_lastore rfl (Nat.le_of_ble_eq_true rfl) hA128) ?_
    refine OEnds.adv hm_2 5 (pc' := 143) (L' := [.val (.ref 1), .val (.int v1), .val (.int v2), .val (.int v3), .val (.int v4), .val (.int (o_accepted + (1 : Int32))), .unset]) (S' := [.int v3, .int v2, .int v1, .int (o_accepted + (1 : Int32)), .ref 1]) (H' := (c0 :: bk0 A123 A124 A125 A126 o_oStatus A128 A127 o_restIds o_fIds o_fQty o_fPrice o_lvlIds o_lvlR o_lvlA o_minAlloc o_topCap (o_accepted + (1 : Int32)) o_stampCounter o_restN 0 o_lvlN po)) rfl ?_
    obtain ⟨⟨r129, s130, s131, s132, s133, s134, s135, s136, s137, s138, s139, s140, s141, s142, s143⟩, hq88, h⟩ := bnd h
    refine OEnds.call0 hm_2 rfl rfl (by decide) rfl (as := [.ref 1, .int (o_accepted + (1 : Int32)), .int v1, .int v2, .int v3]) (rest := []) rfl rfl (ok_matchIncoming hq88) ?_
    refine OEnds.adv hm_2 7 (pc' := 157) (L' := [.val (.ref 1), .val (.int v1), .val (.int v2), .val (.int v3), .val (.int v4), .val (.int (o_accepted + (1 : Int32))), .val (.int r129)]) (S' := [.int v4, .int r129, .int v2, .int v1, .int (o_accepted + (1 : Int32)), .ref 1]) (H' := (c0 :: bk0 A123 A124 s130 s131 s132 A128 s133 s134 s135 s136 s137 s138 s139 s140 o_minAlloc o_topCap (o_accepted + (1 : Int32)) o_stampCounter s141 s142 s143 po)) rfl ?_
    obtain ⟨⟨s144, s145, s146, s147, s148, s149, s150⟩, hq89, h⟩ := bnd h
    refine OEnds.call0 hm_2 rfl rfl (by decide) rfl (as := [.ref 1, .int (o_accepted + (1 : Int32)), .int v1, .int v2, .int r129, .int v4]) (rest := []) rfl rfl (ok_finishIncoming hq89) ?_
    refine OEnds.adv hm_2 1 (pc' := 162) (L' := [.val (.ref 1), .val (.int v1), .val (.int v2), .val (.int v3), .val (.int v4), .val (.int (o_accepted + (1 : Int32))), .val (.int r129)]) (S' := [.int (o_accepted + (1 : Int32))]) (H' := (c0 :: bk0 A123 A124 s144 s131 s145 s146 s147 s148 s135 s136 s137 s138 s139 s140 o_minAlloc o_topCap (o_accepted + (1 : Int32)) s149 s150 s142 s143 po)) rfl ?_
    cases h
    exact OEnds.iret hm_2 rfl rfl
  · simp only [if_neg hc87] at h
    refine OEnds.icmpF hm_2 rfl ((flt hc87).1) ?_
    refine OEnds.adv hm_2 1 (pc' := 67) (L' := [.val (.ref 1), .val (.int v1), .val (.int v2), .val (.int v3), .val (.int v4), .unset, .unset]) (S' := [.int (-5)]) (H' := (c0 :: bk0 o_oSide o_oPrice o_oRem o_oFilled o_oStatus o_oStamp o_oTop o_restIds o_fIds o_fQty o_fPrice o_lvlIds o_lvlR o_lvlA o_minAlloc o_topCap o_accepted o_stampCounter o_restN o_fN o_lvlN po)) rfl ?_
    cases h
    exact OEnds.iret hm_2 rfl rfl
theorem ok_submit_11 {o_minAlloc : Int32} {o_topCap : Int32} {c0 : ACell} {po : List ACell} : ∀ {o_oSide : List Int32} {o_oPrice : List Int32} {o_oRem : List Int32} {o_oFilled : List Int32} {o_oStatus : List Int32} {o_oStamp : List Int64} {o_oTop : List Int32} {o_restIds : List Int32} {o_fIds : List Int32} {o_fQty : List Int32} {o_fPrice : List Int32} {o_lvlIds : List Int32} {o_lvlR : List Int32} {o_lvlA : List Int32} {o_accepted : Int32} {o_stampCounter : Int64} {o_restN : Int32} {o_fN : Int32} {o_lvlN : Int32} {v1 : Int32} {v2 : Int32} {v3 : Int32} {v4 : Int32} {d5 d6 : Slot} {res : Int32} {w_o_oSide : List Int32} {w_o_oPrice : List Int32} {w_o_oRem : List Int32} {w_o_oFilled : List Int32} {w_o_oStatus : List Int32} {w_o_oStamp : List Int64} {w_o_oTop : List Int32} {w_o_restIds : List Int32} {w_o_fIds : List Int32} {w_o_fQty : List Int32} {w_o_fPrice : List Int32} {w_o_lvlIds : List Int32} {w_o_lvlR : List Int32} {w_o_lvlA : List Int32} {w_o_accepted : Int32} {w_o_stampCounter : Int64} {w_o_restN : Int32} {w_o_fN : Int32} {w_o_lvlN : Int32}, f_submit_11 o_minAlloc o_topCap o_oSide o_oPrice o_oRem o_oFilled o_oStatus o_oStamp o_oTop o_restIds o_fIds o_fQty o_fPrice o_lvlIds o_lvlR o_lvlA o_accepted o_stampCounter o_restN o_fN o_lvlN v1 v2 v3 v4 = some (res, w_o_oSide, w_o_oPrice, w_o_oRem, w_o_oFilled, w_o_oStatus, w_o_oStamp, w_o_oTop, w_o_restIds, w_o_fIds, w_o_fQty, w_o_fPrice, w_o_lvlIds, w_o_lvlR, w_o_lvlA, w_o_accepted, w_o_stampCounter, w_o_restN, w_o_fN, w_o_lvlN) → OEnds own_P 2 11 [.val (.ref 1), .val (.int v1), .val (.int v2), .val (.int v3), .val (.int v4), d5, d6] [] (c0 :: bk0 o_oSide o_oPrice o_oRem o_oFilled o_oStatus o_oStamp o_oTop o_restIds o_fIds o_fQty o_fPrice o_lvlIds o_lvlR o_lvlA o_minAlloc o_topCap o_accepted o_stampCounter o_restN o_fN o_lvlN po) (some (.int res), (c0 :: bk0 w_o_oSide w_o_oPrice w_o_oRem w_o_oFilled w_o_oStatus w_o_oStamp w_o_oTop w_o_restIds w_o_fIds w_o_fQty w_o_fPrice w_o_lvlIds w_o_lvlR w_o_lvlA o_minAlloc o_topCap w_o_accepted w_o_stampCounter w_o_restN w_o_fN w_o_lvlN po), 0, 0) := by
  intro o_oSide o_oPrice o_oRem o_oFilled o_oStatus o_oStamp o_oTop o_restIds o_fIds o_fQty o_fPrice o_lvlIds o_lvlR o_lvlA o_accepted o_stampCounter o_restN o_fN o_lvlN v1 v2 v3 v4 d5 d6 res w_o_oSide w_o_oPrice w_o_oRem w_o_oFilled w_o_oStatus w_o_oStamp w_o_oTop w_o_restIds w_o_fIds w_o_fQty w_o_fPrice w_o_lvlIds w_o_lvlR w_o_lvlA w_o_accepted w_o_stampCounter w_o_restN w_o_fN w_o_lvlN h
  unfold f_submit_11 at h
  refine OEnds.adv hm_2 2 (pc' := 13) (L' := [.val (.ref 1), .val (.int v1), .val (.int v2), .val (.int v3), .val (.int v4), .unset, .unset]) (S' := [.int 1, .int v2]) (H' := (c0 :: bk0 o_oSide o_oPrice o_oRem o_oFilled o_oStatus o_oStamp o_oTop o_restIds o_fIds o_fQty o_fPrice o_lvlIds o_lvlR o_lvlA o_minAlloc o_topCap o_accepted o_stampCounter o_restN o_fN o_lvlN po)) rfl ?_
  by_cases hc90 : v2 < (1 : Int32)
  · simp only [if_pos hc90] at h
    refine OEnds.icmpT hm_2 rfl (q := 23) rfl ((tlt hc90).1) ?_
    refine OEnds.adv hm_2 1 (pc' := 25) (L' := [.val (.ref 1), .val (.int v1), .val (.int v2), .val (.int v3), .val (.int v4), .unset, .unset]) (S' := [.int (-2)]) (H' := (c0 :: bk0 o_oSide o_oPrice o_oRem o_oFilled o_oStatus o_oStamp o_oTop o_restIds o_fIds o_fQty o_fPrice o_lvlIds o_lvlR o_lvlA o_minAlloc o_topCap o_accepted o_stampCounter o_restN o_fN o_lvlN po)) rfl ?_
    cases h
    exact OEnds.iret hm_2 rfl rfl
  · simp only [if_neg hc90] at h
    refine OEnds.icmpF hm_2 rfl ((flt hc90).1) ?_
    refine OEnds.adv hm_2 2 (pc' := 20) (L' := [.val (.ref 1), .val (.int v1), .val (.int v2), .val (.int v3), .val (.int v4), .unset, .unset]) (S' := [.int 1000, .int v2]) (H' := (c0 :: bk0 o_oSide o_oPrice o_oRem o_oFilled o_oStatus o_oStamp o_oTop o_restIds o_fIds o_fQty o_fPrice o_lvlIds o_lvlR o_lvlA o_minAlloc o_topCap o_accepted o_stampCounter o_restN o_fN o_lvlN po)) rfl ?_
    by_cases hc91 : (1000 : Int32) < v2
    · simp only [if_pos hc91] at h
      refine OEnds.icmpF hm_2 rfl ((tlt hc91).2.2.2) ?_
      refine OEnds.adv hm_2 1 (pc' := 25) (L' := [.val (.ref 1), .val (.int v1), .val (.int v2), .val (.int v3), .val (.int v4), .unset, .unset]) (S' := [.int (-2)]) (H' := (c0 :: bk0 o_oSide o_oPrice o_oRem o_oFilled o_oStatus o_oStamp o_oTop o_restIds o_fIds o_fQty o_fPrice o_lvlIds o_lvlR o_lvlA o_minAlloc o_topCap o_accepted o_stampCounter o_restN o_fN o_lvlN po)) rfl ?_
      cases h
      exact OEnds.iret hm_2 rfl rfl
    · simp only [if_neg hc91] at h
      refine OEnds.icmpT hm_2 rfl (q := 26) rfl ((flt hc91).2.2.2) ?_
      refine OEnds.adv hm_2 2 (pc' := 28) (L' := [.val (.ref 1), .val (.int v1), .val (.int v2), .val (.int v3), .val (.int v4), .unset, .unset]) (S' := [.int 1, .int v3]) (H' := (c0 :: bk0 o_oSide o_oPrice o_oRem o_oFilled o_oStatus o_oStamp o_oTop o_restIds o_fIds o_fQty o_fPrice o_lvlIds o_lvlR o_lvlA o_minAlloc o_topCap o_accepted o_stampCounter o_restN o_fN o_lvlN po)) rfl ?_
      by_cases hc92 : v3 < (1 : Int32)
      · simp only [if_pos hc92] at h
        refine OEnds.icmpT hm_2 rfl (q := 38) rfl ((tlt hc92).1) ?_
        refine OEnds.adv hm_2 1 (pc' := 40) (L' := [.val (.ref 1), .val (.int v1), .val (.int v2), .val (.int v3), .val (.int v4), .unset, .unset]) (S' := [.int (-3)]) (H' := (c0 :: bk0 o_oSide o_oPrice o_oRem o_oFilled o_oStatus o_oStamp o_oTop o_restIds o_fIds o_fQty o_fPrice o_lvlIds o_lvlR o_lvlA o_minAlloc o_topCap o_accepted o_stampCounter o_restN o_fN o_lvlN po)) rfl ?_
        cases h
        exact OEnds.iret hm_2 rfl rfl
      · simp only [if_neg hc92] at h
        refine OEnds.icmpF hm_2 rfl ((flt hc92).1) ?_
        refine OEnds.adv hm_2 2 (pc' := 35) (L' := [.val (.ref 1), .val (.int v1), .val (.int v2), .val (.int v3), .val (.int v4), .unset, .unset]) (S' := [.int 10000, .int v3]) (H' := (c0 :: bk0 o_oSide o_oPrice o_oRem o_oFilled o_oStatus o_oStamp o_oTop o_restIds o_fIds o_fQty o_fPrice o_lvlIds o_lvlR o_lvlA o_minAlloc o_topCap o_accepted o_stampCounter o_restN o_fN o_lvlN po)) rfl ?_
        by_cases hc93 : (10000 : Int32) < v3
        · simp only [if_pos hc93] at h
          refine OEnds.icmpF hm_2 rfl ((tlt hc93).2.2.2) ?_
          refine OEnds.adv hm_2 1 (pc' := 40) (L' := [.val (.ref 1), .val (.int v1), .val (.int v2), .val (.int v3), .val (.int v4), .unset, .unset]) (S' := [.int (-3)]) (H' := (c0 :: bk0 o_oSide o_oPrice o_oRem o_oFilled o_oStatus o_oStamp o_oTop o_restIds o_fIds o_fQty o_fPrice o_lvlIds o_lvlR o_lvlA o_minAlloc o_topCap o_accepted o_stampCounter o_restN o_fN o_lvlN po)) rfl ?_
          cases h
          exact OEnds.iret hm_2 rfl rfl
        · simp only [if_neg hc93] at h
          refine OEnds.icmpT hm_2 rfl (q := 41) rfl ((flt hc93).2.2.2) ?_
          refine OEnds.adv hm_2 1 (pc' := 43) (L' := [.val (.ref 1), .val (.int v1), .val (.int v2), .val (.int v3), .val (.int v4), .unset, .unset]) (S' := [.int v4]) (H' := (c0 :: bk0 o_oSide o_oPrice o_oRem o_oFilled o_oStatus o_oStamp o_oTop o_restIds o_fIds o_fQty o_fPrice o_lvlIds o_lvlR o_lvlA o_minAlloc o_topCap o_accepted o_stampCounter o_restN o_fN o_lvlN po)) rfl ?_
          by_cases hc94 : v4 = (0 : Int32)
          · simp only [if_pos hc94] at h
            refine OEnds.ifT hm_2 rfl (q := 55) rfl ((teq hc94).1) ?_
            show OEnds own_P 2 55 [.val (.ref 1), .val (.int v1), .val (.int v2), .val (.int v3), .val (.int v4), .unset, .unset] [] (c0 :: bk0 o_oSide o_oPrice o_oRem o_oFilled o_oStatus o_oStamp o_oTop o_restIds o_fIds o_fQty o_fPrice o_lvlIds o_lvlR o_lvlA o_minAlloc o_topCap o_accepted o_stampCounter o_restN o_fN o_lvlN po) _
            exact ok_submit_55 h
          · simp only [if_neg hc94] at h
            refine OEnds.ifF hm_2 rfl ((feq hc94).1) ?_
            refine OEnds.adv hm_2 2 (pc' := 49) (L' := [.val (.ref 1), .val (.int v1), .val (.int v2), .val (.int v3), .val (.int v4), .unset, .unset]) (S' := [.int 1, .int v4]) (H' := (c0 :: bk0 o_oSide o_oPrice o_oRem o_oFilled o_oStatus o_oStamp o_oTop o_restIds o_fIds o_fQty o_fPrice o_lvlIds o_lvlR o_lvlA o_minAlloc o_topCap o_accepted o_stampCounter o_restN o_fN o_lvlN po)) rfl ?_
            by_cases hc95 : v4 = (1 : Int32)
            · simp only [if_pos hc95] at h
              refine OEnds.icmpT hm_2 rfl (q := 55) rfl ((teq hc95).1) ?_
              show OEnds own_P 2 55 [.val (.ref 1), .val (.int v1), .val (.int v2), .val (.int v3), .val (.int v4), .unset, .unset] [] (c0 :: bk0 o_oSide o_oPrice o_oRem o_oFilled o_oStatus o_oStamp o_oTop o_restIds o_fIds o_fQty o_fPrice o_lvlIds o_lvlR o_lvlA o_minAlloc o_topCap o_accepted o_stampCounter o_restN o_fN o_lvlN po) _
              exact ok_submit_55 h
            · simp only [if_neg hc95] at h
              refine OEnds.icmpF hm_2 rfl ((feq hc95).1) ?_
              refine OEnds.adv hm_2 1 (pc' := 54) (L' := [.val (.ref 1), .val (.int v1), .val (.int v2), .val (.int v3), .val (.int v4), .unset, .unset]) (S' := [.int (-4)]) (H' := (c0 :: bk0 o_oSide o_oPrice o_oRem o_oFilled o_oStatus o_oStamp o_oTop o_restIds o_fIds o_fQty o_fPrice o_lvlIds o_lvlR o_lvlA o_minAlloc o_topCap o_accepted o_stampCounter o_restN o_fN o_lvlN po)) rfl ?_
              cases h
              exact OEnds.iret hm_2 rfl rfl
theorem ok_submit {o_minAlloc : Int32} {o_topCap : Int32} {c0 : ACell} {po : List ACell} {o_oSide : List Int32} {o_oPrice : List Int32} {o_oRem : List Int32} {o_oFilled : List Int32} {o_oStatus : List Int32} {o_oStamp : List Int64} {o_oTop : List Int32} {o_restIds : List Int32} {o_fIds : List Int32} {o_fQty : List Int32} {o_fPrice : List Int32} {o_lvlIds : List Int32} {o_lvlR : List Int32} {o_lvlA : List Int32} {o_accepted : Int32} {o_stampCounter : Int64} {o_restN : Int32} {o_fN : Int32} {o_lvlN : Int32} {v1 : Int32} {v2 : Int32} {v3 : Int32} {v4 : Int32} {res : Int32} {w_o_oSide : List Int32} {w_o_oPrice : List Int32} {w_o_oRem : List Int32} {w_o_oFilled : List Int32} {w_o_oStatus : List Int32} {w_o_oStamp : List Int64} {w_o_oTop : List Int32} {w_o_restIds : List Int32} {w_o_fIds : List Int32} {w_o_fQty : List Int32} {w_o_fPrice : List Int32} {w_o_lvlIds : List Int32} {w_o_lvlR : List Int32} {w_o_lvlA : List Int32} {w_o_accepted : Int32} {w_o_stampCounter : Int64} {w_o_restN : Int32} {w_o_fN : Int32} {w_o_lvlN : Int32} (h : f_submit o_minAlloc o_topCap o_oSide o_oPrice o_oRem o_oFilled o_oStatus o_oStamp o_oTop o_restIds o_fIds o_fQty o_fPrice o_lvlIds o_lvlR o_lvlA o_accepted o_stampCounter o_restN o_fN o_lvlN v1 v2 v3 v4 = some (res, w_o_oSide, w_o_oPrice, w_o_oRem, w_o_oFilled, w_o_oStatus, w_o_oStamp, w_o_oTop, w_o_restIds, w_o_fIds, w_o_fQty, w_o_fPrice, w_o_lvlIds, w_o_lvlR, w_o_lvlA, w_o_accepted, w_o_stampCounter, w_o_restN, w_o_fN, w_o_lvlN)) : OEnds own_P 2 0 [.val (.ref 1), .val (.int v1), .val (.int v2), .val (.int v3), .val (.int v4), .unset, .unset] [] (c0 :: bk0 o_oSide o_oPrice o_oRem o_oFilled o_oStatus o_oStamp o_oTop o_restIds o_fIds o_fQty o_fPrice o_lvlIds o_lvlR o_lvlA o_minAlloc o_topCap o_accepted o_stampCounter o_restN o_fN o_lvlN po) (some (.int res), (c0 :: bk0 w_o_oSide w_o_oPrice w_o_oRem w_o_oFilled w_o_oStatus w_o_oStamp w_o_oTop w_o_restIds w_o_fIds w_o_fQty w_o_fPrice w_o_lvlIds w_o_lvlR w_o_lvlA o_minAlloc o_topCap w_o_accepted w_o_stampCounter w_o_restN w_o_fN w_o_lvlN po), 0, 0) := by
  unfold f_submit at h
  refine OEnds.adv hm_2 1 (pc' := 1) (L' := [.val (.ref 1), .val (.int v1), .val (.int v2), .val (.int v3), .val (.int v4), .unset, .unset]) (S' := [.int v1]) (H' := (c0 :: bk0 o_oSide o_oPrice o_oRem o_oFilled o_oStatus o_oStamp o_oTop o_restIds o_fIds o_fQty o_fPrice o_lvlIds o_lvlR o_lvlA o_minAlloc o_topCap o_accepted o_stampCounter o_restN o_fN o_lvlN po)) rfl ?_
  by_cases hc96 : v1 = (0 : Int32)
  · simp only [if_pos hc96] at h
    refine OEnds.ifT hm_2 rfl (q := 11) rfl ((teq hc96).1) ?_
    show OEnds own_P 2 11 [.val (.ref 1), .val (.int v1), .val (.int v2), .val (.int v3), .val (.int v4), .unset, .unset] [] (c0 :: bk0 o_oSide o_oPrice o_oRem o_oFilled o_oStatus o_oStamp o_oTop o_restIds o_fIds o_fQty o_fPrice o_lvlIds o_lvlR o_lvlA o_minAlloc o_topCap o_accepted o_stampCounter o_restN o_fN o_lvlN po) _
    exact ok_submit_11 h
  · simp only [if_neg hc96] at h
    refine OEnds.ifF hm_2 rfl ((feq hc96).1) ?_
    refine OEnds.adv hm_2 2 (pc' := 6) (L' := [.val (.ref 1), .val (.int v1), .val (.int v2), .val (.int v3), .val (.int v4), .unset, .unset]) (S' := [.int 1, .int v1]) (H' := (c0 :: bk0 o_oSide o_oPrice o_oRem o_oFilled o_oStatus o_oStamp o_oTop o_restIds o_fIds o_fQty o_fPrice o_lvlIds o_lvlR o_lvlA o_minAlloc o_topCap o_accepted o_stampCounter o_restN o_fN o_lvlN po)) rfl ?_
    by_cases hc97 : v1 = (1 : Int32)
    · simp only [if_pos hc97] at h
      refine OEnds.icmpT hm_2 rfl (q := 11) rfl ((teq hc97).1) ?_
      show OEnds own_P 2 11 [.val (.ref 1), .val (.int v1), .val (.int v2), .val (.int v3), .val (.int v4), .unset, .unset] [] (c0 :: bk0 o_oSide o_oPrice o_oRem o_oFilled o_oStatus o_oStamp o_oTop o_restIds o_fIds o_fQty o_fPrice o_lvlIds o_lvlR o_lvlA o_minAlloc o_topCap o_accepted o_stampCounter o_restN o_fN o_lvlN po) _
      exact ok_submit_11 h
    · simp only [if_neg hc97] at h
      refine OEnds.icmpF hm_2 rfl ((feq hc97).1) ?_
      refine OEnds.adv hm_2 1 (pc' := 10) (L' := [.val (.ref 1), .val (.int v1), .val (.int v2), .val (.int v3), .val (.int v4), .unset, .unset]) (S' := [.int (-1)]) (H' := (c0 :: bk0 o_oSide o_oPrice o_oRem o_oFilled o_oStatus o_oStamp o_oTop o_restIds o_fIds o_fQty o_fPrice o_lvlIds o_lvlR o_lvlA o_minAlloc o_topCap o_accepted o_stampCounter o_restN o_fN o_lvlN po)) rfl ?_
      cases h
      exact OEnds.iret hm_2 rfl rfl
theorem ok_bestPrice_11 {o_oSide : List Int32} {o_oPrice : List Int32} {o_oRem : List Int32} {o_oFilled : List Int32} {o_oStatus : List Int32} {o_oStamp : List Int64} {o_oTop : List Int32} {o_restIds : List Int32} {o_fIds : List Int32} {o_fQty : List Int32} {o_fPrice : List Int32} {o_lvlIds : List Int32} {o_lvlR : List Int32} {o_lvlA : List Int32} {o_minAlloc : Int32} {o_topCap : Int32} {o_accepted : Int32} {o_stampCounter : Int64} {o_restN : Int32} {o_fN : Int32} {o_lvlN : Int32} {c0 : ACell} {po : List ACell} : ∀ {v1 : Int32} {res : Int32}, f_bestPrice_11 o_oSide o_oPrice o_restIds o_restN v1 = some res → OEnds own_P 4 11 [.val (.ref 1), .val (.int v1)] [] (c0 :: bk0 o_oSide o_oPrice o_oRem o_oFilled o_oStatus o_oStamp o_oTop o_restIds o_fIds o_fQty o_fPrice o_lvlIds o_lvlR o_lvlA o_minAlloc o_topCap o_accepted o_stampCounter o_restN o_fN o_lvlN po) (some (.int res), (c0 :: bk0 o_oSide o_oPrice o_oRem o_oFilled o_oStatus o_oStamp o_oTop o_restIds o_fIds o_fQty o_fPrice o_lvlIds o_lvlR o_lvlA o_minAlloc o_topCap o_accepted o_stampCounter o_restN o_fN o_lvlN po), 0, 0) := by
  intro v1 res h
  unfold f_bestPrice_11 at h
  refine OEnds.adv hm_4 2 (pc' := 13) (L' := [.val (.ref 1), .val (.int v1)]) (S' := [.int v1, .ref 1]) (H' := (c0 :: bk0 o_oSide o_oPrice o_oRem o_oFilled o_oStatus o_oStamp o_oTop o_restIds o_fIds o_fQty o_fPrice o_lvlIds o_lvlR o_lvlA o_minAlloc o_topCap o_accepted o_stampCounter o_restN o_fN o_lvlN po)) rfl ?_
  obtain ⟨r151, hq98, h⟩ := bnd h
  refine OEnds.call0 hm_4 rfl rfl (by decide) rfl (as := [.ref 1, .int v1]) (rest := []) rfl rfl (ok_bestOf hq98) ?_
  show OEnds own_P 4 16 [.val (.ref 1), .val (.int v1)] [.int r151] (c0 :: bk0 o_oSide o_oPrice o_oRem o_oFilled o_oStatus o_oStamp o_oTop o_restIds o_fIds o_fQty o_fPrice o_lvlIds o_lvlR o_lvlA o_minAlloc o_topCap o_accepted o_stampCounter o_restN o_fN o_lvlN po) _
  cases h
  exact OEnds.iret hm_4 rfl rfl
theorem ok_bestPrice {o_oSide : List Int32} {o_oPrice : List Int32} {o_oRem : List Int32} {o_oFilled : List Int32} {o_oStatus : List Int32} {o_oStamp : List Int64} {o_oTop : List Int32} {o_restIds : List Int32} {o_fIds : List Int32} {o_fQty : List Int32} {o_fPrice : List Int32} {o_lvlIds : List Int32} {o_lvlR : List Int32} {o_lvlA : List Int32} {o_minAlloc : Int32} {o_topCap : Int32} {o_accepted : Int32} {o_stampCounter : Int64} {o_restN : Int32} {o_fN : Int32} {o_lvlN : Int32} {c0 : ACell} {po : List ACell} {v1 : Int32} {res : Int32} (h : f_bestPrice o_oSide o_oPrice o_restIds o_restN v1 = some res) : OEnds own_P 4 0 [.val (.ref 1), .val (.int v1)] [] (c0 :: bk0 o_oSide o_oPrice o_oRem o_oFilled o_oStatus o_oStamp o_oTop o_restIds o_fIds o_fQty o_fPrice o_lvlIds o_lvlR o_lvlA o_minAlloc o_topCap o_accepted o_stampCounter o_restN o_fN o_lvlN po) (some (.int res), (c0 :: bk0 o_oSide o_oPrice o_oRem o_oFilled o_oStatus o_oStamp o_oTop o_restIds o_fIds o_fQty o_fPrice o_lvlIds o_lvlR o_lvlA o_minAlloc o_topCap o_accepted o_stampCounter o_restN o_fN o_lvlN po), 0, 0) := by
  unfold f_bestPrice at h
  refine OEnds.adv hm_4 1 (pc' := 1) (L' := [.val (.ref 1), .val (.int v1)]) (S' := [.int v1]) (H' := (c0 :: bk0 o_oSide o_oPrice o_oRem o_oFilled o_oStatus o_oStamp o_oTop o_restIds o_fIds o_fQty o_fPrice o_lvlIds o_lvlR o_lvlA o_minAlloc o_topCap o_accepted o_stampCounter o_restN o_fN o_lvlN po)) rfl ?_
  by_cases hc99 : v1 = (0 : Int32)
  · simp only [if_pos hc99] at h
    refine OEnds.ifT hm_4 rfl (q := 11) rfl ((teq hc99).1) ?_
    show OEnds own_P 4 11 [.val (.ref 1), .val (.int v1)] [] (c0 :: bk0 o_oSide o_oPrice o_oRem o_oFilled o_oStatus o_oStamp o_oTop o_restIds o_fIds o_fQty o_fPrice o_lvlIds o_lvlR o_lvlA o_minAlloc o_topCap o_accepted o_stampCounter o_restN o_fN o_lvlN po) _
    exact ok_bestPrice_11 h
  · simp only [if_neg hc99] at h
    refine OEnds.ifF hm_4 rfl ((feq hc99).1) ?_
    refine OEnds.adv hm_4 2 (pc' := 6) (L' := [.val (.ref 1), .val (.int v1)]) (S' := [.int 1, .int v1]) (H' := (c0 :: bk0 o_oSide o_oPrice o_oRem o_oFilled o_oStatus o_oStamp o_oTop o_restIds o_fIds o_fQty o_fPrice o_lvlIds o_lvlR o_lvlA o_minAlloc o_topCap o_accepted o_stampCounter o_restN o_fN o_lvlN po)) rfl ?_
    by_cases hc100 : v1 = (1 : Int32)
    · simp only [if_pos hc100] at h
      refine OEnds.icmpT hm_4 rfl (q := 11) rfl ((teq hc100).1) ?_
      show OEnds own_P 4 11 [.val (.ref 1), .val (.int v1)] [] (c0 :: bk0 o_oSide o_oPrice o_oRem o_oFilled o_oStatus o_oStamp o_oTop o_restIds o_fIds o_fQty o_fPrice o_lvlIds o_lvlR o_lvlA o_minAlloc o_topCap o_accepted o_stampCounter o_restN o_fN o_lvlN po) _
      exact ok_bestPrice_11 h
    · simp only [if_neg hc100] at h
      refine OEnds.icmpF hm_4 rfl ((feq hc100).1) ?_
      refine OEnds.adv hm_4 1 (pc' := 10) (L' := [.val (.ref 1), .val (.int v1)]) (S' := [.int 0]) (H' := (c0 :: bk0 o_oSide o_oPrice o_oRem o_oFilled o_oStatus o_oStamp o_oTop o_restIds o_fIds o_fQty o_fPrice o_lvlIds o_lvlR o_lvlA o_minAlloc o_topCap o_accepted o_stampCounter o_restN o_fN o_lvlN po)) rfl ?_
      cases h
      exact OEnds.iret hm_4 rfl rfl
theorem ok_status {o_oSide : List Int32} {o_oPrice : List Int32} {o_oRem : List Int32} {o_oFilled : List Int32} {o_oStatus : List Int32} {o_oStamp : List Int64} {o_oTop : List Int32} {o_restIds : List Int32} {o_fIds : List Int32} {o_fQty : List Int32} {o_fPrice : List Int32} {o_lvlIds : List Int32} {o_lvlR : List Int32} {o_lvlA : List Int32} {o_minAlloc : Int32} {o_topCap : Int32} {o_accepted : Int32} {o_stampCounter : Int64} {o_restN : Int32} {o_fN : Int32} {o_lvlN : Int32} {c0 : ACell} {po : List ACell} {v1 : Int32} {res : Int32} (h : f_status o_oStatus o_accepted v1 = some res) : OEnds own_P 6 0 [.val (.ref 1), .val (.int v1)] [] (c0 :: bk0 o_oSide o_oPrice o_oRem o_oFilled o_oStatus o_oStamp o_oTop o_restIds o_fIds o_fQty o_fPrice o_lvlIds o_lvlR o_lvlA o_minAlloc o_topCap o_accepted o_stampCounter o_restN o_fN o_lvlN po) (some (.int res), (c0 :: bk0 o_oSide o_oPrice o_oRem o_oFilled o_oStatus o_oStamp o_oTop o_restIds o_fIds o_fQty o_fPrice o_lvlIds o_lvlR o_lvlA o_minAlloc o_topCap o_accepted o_stampCounter o_restN o_fN o_lvlN po), 0, 0) := by
  unfold f_status at h
  refine OEnds.adv hm_6 2 (pc' := 2) (L' := [.val (.ref 1), .val (.int v1)]) (S' := [.int 1, .int v1]) (H' := (c0 :: bk0 o_oSide o_oPrice o_oRem o_oFilled o_oStatus o_oStamp o_oTop o_restIds o_fIds o_fQty o_fPrice o_lvlIds o_lvlR o_lvlA o_minAlloc o_topCap o_accepted o_stampCounter o_restN o_fN o_lvlN po)) rfl ?_
  by_cases hc101 : v1 < (1 : Int32)
  · simp only [if_pos hc101] at h
    refine OEnds.icmpT hm_6 rfl (q := 13) rfl ((tlt hc101).1) ?_
    refine OEnds.adv hm_6 1 (pc' := 14) (L' := [.val (.ref 1), .val (.int v1)]) (S' := [.int 0]) (H' := (c0 :: bk0 o_oSide o_oPrice o_oRem o_oFilled o_oStatus o_oStamp o_oTop o_restIds o_fIds o_fQty o_fPrice o_lvlIds o_lvlR o_lvlA o_minAlloc o_topCap o_accepted o_stampCounter o_restN o_fN o_lvlN po)) rfl ?_
    cases h
    exact OEnds.iret hm_6 rfl rfl
  · simp only [if_neg hc101] at h
    refine OEnds.icmpF hm_6 rfl ((flt hc101).1) ?_
    refine OEnds.adv hm_6 3 (pc' := 10) (L' := [.val (.ref 1), .val (.int v1)]) (S' := [.int o_accepted, .int v1]) (H' := (c0 :: bk0 o_oSide o_oPrice o_oRem o_oFilled o_oStatus o_oStamp o_oTop o_restIds o_fIds o_fQty o_fPrice o_lvlIds o_lvlR o_lvlA o_minAlloc o_topCap o_accepted o_stampCounter o_restN o_fN o_lvlN po)) rfl ?_
    by_cases hc102 : o_accepted < v1
    · simp only [if_pos hc102] at h
      refine OEnds.icmpF hm_6 rfl ((tlt hc102).2.2.2) ?_
      refine OEnds.adv hm_6 1 (pc' := 14) (L' := [.val (.ref 1), .val (.int v1)]) (S' := [.int 0]) (H' := (c0 :: bk0 o_oSide o_oPrice o_oRem o_oFilled o_oStatus o_oStamp o_oTop o_restIds o_fIds o_fQty o_fPrice o_lvlIds o_lvlR o_lvlA o_minAlloc o_topCap o_accepted o_stampCounter o_restN o_fN o_lvlN po)) rfl ?_
      cases h
      exact OEnds.iret hm_6 rfl rfl
    · simp only [if_neg hc102] at h
      refine OEnds.icmpT hm_6 rfl (q := 15) rfl ((flt hc102).2.2.2) ?_
      refine OEnds.adv hm_6 3 (pc' := 20) (L' := [.val (.ref 1), .val (.int v1)]) (S' := [.int v1, .ref 6]) (H' := (c0 :: bk0 o_oSide o_oPrice o_oRem o_oFilled o_oStatus o_oStamp o_oTop o_restIds o_fIds o_fQty o_fPrice o_lvlIds o_lvlR o_lvlA o_minAlloc o_topCap o_accepted o_stampCounter o_restN o_fN o_lvlN po)) rfl ?_
      obtain ⟨x152, hx152, h⟩ := bnd h
      refine OEnds.plain hm_6 rfl rfl (x_iaload rfl hx152) ?_
      show OEnds own_P 6 21 [.val (.ref 1), .val (.int v1)] [.int x152] (c0 :: bk0 o_oSide o_oPrice o_oRem o_oFilled o_oStatus o_oStamp o_oTop o_restIds o_fIds o_fQty o_fPrice o_lvlIds o_lvlR o_lvlA o_minAlloc o_topCap o_accepted o_stampCounter o_restN o_fN o_lvlN po) _
      cases h
      exact OEnds.iret hm_6 rfl rfl
theorem ok_remaining {o_oSide : List Int32} {o_oPrice : List Int32} {o_oRem : List Int32} {o_oFilled : List Int32} {o_oStatus : List Int32} {o_oStamp : List Int64} {o_oTop : List Int32} {o_restIds : List Int32} {o_fIds : List Int32} {o_fQty : List Int32} {o_fPrice : List Int32} {o_lvlIds : List Int32} {o_lvlR : List Int32} {o_lvlA : List Int32} {o_minAlloc : Int32} {o_topCap : Int32} {o_accepted : Int32} {o_stampCounter : Int64} {o_restN : Int32} {o_fN : Int32} {o_lvlN : Int32} {c0 : ACell} {po : List ACell} {v1 : Int32} {res : Int32} (h : f_remaining o_oRem o_oStatus o_accepted v1 = some res) : OEnds own_P 7 0 [.val (.ref 1), .val (.int v1)] [] (c0 :: bk0 o_oSide o_oPrice o_oRem o_oFilled o_oStatus o_oStamp o_oTop o_restIds o_fIds o_fQty o_fPrice o_lvlIds o_lvlR o_lvlA o_minAlloc o_topCap o_accepted o_stampCounter o_restN o_fN o_lvlN po) (some (.int res), (c0 :: bk0 o_oSide o_oPrice o_oRem o_oFilled o_oStatus o_oStamp o_oTop o_restIds o_fIds o_fQty o_fPrice o_lvlIds o_lvlR o_lvlA o_minAlloc o_topCap o_accepted o_stampCounter o_restN o_fN o_lvlN po), 0, 0) := by
  unfold f_remaining at h
  refine OEnds.adv hm_7 2 (pc' := 2) (L' := [.val (.ref 1), .val (.int v1)]) (S' := [.int v1, .ref 1]) (H' := (c0 :: bk0 o_oSide o_oPrice o_oRem o_oFilled o_oStatus o_oStamp o_oTop o_restIds o_fIds o_fQty o_fPrice o_lvlIds o_lvlR o_lvlA o_minAlloc o_topCap o_accepted o_stampCounter o_restN o_fN o_lvlN po)) rfl ?_
  obtain ⟨r153, hq103, h⟩ := bnd h
  refine OEnds.call0 hm_7 rfl rfl (by decide) rfl (as := [.ref 1, .int v1]) (rest := []) rfl rfl (ok_isResting hq103) ?_
  show OEnds own_P 7 5 [.val (.ref 1), .val (.int v1)] [.int r153] (c0 :: bk0 o_oSide o_oPrice o_oRem o_oFilled o_oStatus o_oStamp o_oTop o_restIds o_fIds o_fQty o_fPrice o_lvlIds o_lvlR o_lvlA o_minAlloc o_topCap o_accepted o_stampCounter o_restN o_fN o_lvlN po) _
  by_cases hc104 : r153 = (0 : Int32)
  · simp only [if_pos hc104] at h
    refine OEnds.ifF hm_7 rfl ((teq hc104).2) ?_
    refine OEnds.adv hm_7 1 (pc' := 9) (L' := [.val (.ref 1), .val (.int v1)]) (S' := [.int 0]) (H' := (c0 :: bk0 o_oSide o_oPrice o_oRem o_oFilled o_oStatus o_oStamp o_oTop o_restIds o_fIds o_fQty o_fPrice o_lvlIds o_lvlR o_lvlA o_minAlloc o_topCap o_accepted o_stampCounter o_restN o_fN o_lvlN po)) rfl ?_
    cases h
    exact OEnds.iret hm_7 rfl rfl
  · simp only [if_neg hc104] at h
    refine OEnds.ifT hm_7 rfl (q := 10) rfl ((feq hc104).2) ?_
    refine OEnds.adv hm_7 3 (pc' := 15) (L' := [.val (.ref 1), .val (.int v1)]) (S' := [.int v1, .ref 4]) (H' := (c0 :: bk0 o_oSide o_oPrice o_oRem o_oFilled o_oStatus o_oStamp o_oTop o_restIds o_fIds o_fQty o_fPrice o_lvlIds o_lvlR o_lvlA o_minAlloc o_topCap o_accepted o_stampCounter o_restN o_fN o_lvlN po)) rfl ?_
    obtain ⟨x154, hx154, h⟩ := bnd h
    refine OEnds.plain hm_7 rfl rfl (x_iaload rfl hx154) ?_
    show OEnds own_P 7 16 [.val (.ref 1), .val (.int v1)] [.int x154] (c0 :: bk0 o_oSide o_oPrice o_oRem o_oFilled o_oStatus o_oStamp o_oTop o_restIds o_fIds o_fQty o_fPrice o_lvlIds o_lvlR o_lvlA o_minAlloc o_topCap o_accepted o_stampCounter o_restN o_fN o_lvlN po) _
    cases h
    exact OEnds.iret hm_7 rfl rfl
theorem ok_priorityRank_14 {o_oSide : List Int32} {o_oPrice : List Int32} {o_oRem : List Int32} {o_oFilled : List Int32} {o_oStatus : List Int32} {o_oStamp : List Int64} {o_oTop : List Int32} {o_restIds : List Int32} {o_fIds : List Int32} {o_fQty : List Int32} {o_fPrice : List Int32} {o_lvlIds : List Int32} {o_lvlR : List Int32} {o_lvlA : List Int32} {o_minAlloc : Int32} {o_topCap : Int32} {o_accepted : Int32} {o_stampCounter : Int64} {o_restN : Int32} {o_fN : Int32} {o_lvlN : Int32} {c0 : ACell} {po : List ACell} : ∀ (n : Nat), ∀ {v1 : Int32} {v2 : Int32} {v3 : Int32} {d4 : Slot} {res : Int32}, f_priorityRank_14 o_oSide o_oPrice o_oStatus o_oStamp o_restIds o_accepted o_restN n v1 v2 v3 = some res → OEnds own_P 9 14 [.val (.ref 1), .val (.int v1), .val (.int v2), .val (.int v3), d4] [] (c0 :: bk0 o_oSide o_oPrice o_oRem o_oFilled o_oStatus o_oStamp o_oTop o_restIds o_fIds o_fQty o_fPrice o_lvlIds o_lvlR o_lvlA o_minAlloc o_topCap o_accepted o_stampCounter o_restN o_fN o_lvlN po) (some (.int res), (c0 :: bk0 o_oSide o_oPrice o_oRem o_oFilled o_oStatus o_oStamp o_oTop o_restIds o_fIds o_fQty o_fPrice o_lvlIds o_lvlR o_lvlA o_minAlloc o_topCap o_accepted o_stampCounter o_restN o_fN o_lvlN po), 0, 0) := by
  intro n
  induction n with
  | zero => intro v1 v2 v3 d4 res h; cases h
  | succ n ih =>
    intro v1 v2 v3 d4 res h
    unfold f_priorityRank_14 at h
    refine OEnds.adv hm_9 3 (pc' := 19) (L' := [.val (.ref 1), .val (.int v1), .val (.int v2), .val (.int v3), .unset]) (S' := [.int o_restN, .int v3]) (H' := (c0 :: bk0 o_oSide o_oPrice o_oRem o_oFilled o_oStatus o_oStamp o_oTop o_restIds o_fIds o_fQty o_fPrice o_lvlIds o_lvlR o_lvlA o_minAlloc o_topCap o_accepted o_stampCounter o_restN o_fN o_lvlN po)) rfl ?_
    by_cases hc105 : v3 < o_restN
    · simp only [if_pos hc105] at h
      refine OEnds.icmpF hm_9 rfl ((tlt hc105).2.1) ?_
      refine OEnds.adv hm_9 3 (pc' := 27) (L' := [.val (.ref 1), .val (.int v1), .val (.int v2), .val (.int v3), .unset]) (S' := [.int v3, .ref 9]) (H' := (c0 :: bk0 o_oSide o_oPrice o_oRem o_oFilled o_oStatus o_oStamp o_oTop o_restIds o_fIds o_fQty o_fPrice o_lvlIds o_lvlR o_lvlA o_minAlloc o_topCap o_accepted o_stampCounter o_restN o_fN o_lvlN po)) rfl ?_
      obtain ⟨x156, hx156, h⟩ := bnd h
      refine OEnds.plain hm_9 rfl rfl (x_iaload rfl hx156) ?_
      refine OEnds.adv hm_9 4 (pc' := 36) (L' := [.val (.ref 1), .val (.int v1), .val (.int v2), .val (.int v3), .val (.int x156)]) (S' := [.int x156, .ref 2]) (H' := (c0 :: bk0 o_oSide o_oPrice o_oRem o_oFilled o_oStatus o_oStamp o_oTop o_restIds o_fIds o_fQty o_fPrice o_lvlIds o_lvlR o_lvlA o_minAlloc o_topCap o_accepted o_stampCounter o_restN o_fN o_lvlN po)) rfl ?_
      obtain ⟨x157, hx157, h⟩ := bnd h
      refine OEnds.plain hm_9 rfl rfl (x_iaload rfl hx157) ?_
      refine OEnds.adv hm_9 3 (pc' := 42) (L' := [.val (.ref 1), .val (.int v1), .val (.int v2), .val (.int v3), .val (.int x156)]) (S' := [.int v1, .ref 2, .int x157]) (H' := (c0 :: bk0 o_oSide o_oPrice o_oRem o_oFilled o_oStatus o_oStamp o_oTop o_restIds o_fIds o_fQty o_fPrice o_lvlIds o_lvlR o_lvlA o_minAlloc o_topCap o_accepted o_stampCounter o_restN o_fN o_lvlN po)) rfl ?_
      obtain ⟨x158, hx158, h⟩ := bnd h
      refine OEnds.plain hm_9 rfl rfl (x_iaload rfl hx158) ?_
      show OEnds own_P 9 43 [.val (.ref 1), .val (.int v1), .val (.int v2), .val (.int v3), .val (.int x156)] [.int x158, .int x157] (c0 :: bk0 o_oSide o_oPrice o_oRem o_oFilled o_oStatus o_oStamp o_oTop o_restIds o_fIds o_fQty o_fPrice o_lvlIds o_lvlR o_lvlA o_minAlloc o_topCap o_accepted o_stampCounter o_restN o_fN o_lvlN po) _
      by_cases hc106 : x157 = x158
      · simp only [if_pos hc106] at h
        refine OEnds.icmpF hm_9 rfl ((teq hc106).2) ?_
        refine OEnds.adv hm_9 3 (pc' := 52) (L' := [.val (.ref 1), .val (.int v1), .val (.int v2), .val (.int v3), .val (.int x156)]) (S' := [.int x156, .ref 3]) (H' := (c0 :: bk0 o_oSide o_oPrice o_oRem o_oFilled o_oStatus o_oStamp o_oTop o_restIds o_fIds o_fQty o_fPrice o_lvlIds o_lvlR o_lvlA o_minAlloc o_topCap o_accepted o_stampCounter o_restN o_fN o_lvlN po)) rfl ?_
        obtain ⟨x159, hx159, h⟩ := bnd h
        refine OEnds.plain hm_9 rfl rfl (x_iaload rfl hx159) ?_
        refine OEnds.adv hm_9 3 (pc' := 58) (L' := [.val (.ref 1), .val (.int v1), .val (.int v2), .val (.int v3), .val (.int x156)]) (S' := [.int v1, .ref 3, .int x159]) (H' := (c0 :: bk0 o_oSide o_oPrice o_oRem o_oFilled o_oStatus o_oStamp o_oTop o_restIds o_fIds o_fQty o_fPrice o_lvlIds o_lvlR o_lvlA o_minAlloc o_topCap o_accepted o_stampCounter o_restN o_fN o_lvlN po)) rfl ?_
        obtain ⟨x160, hx160, h⟩ := bnd h
        refine OEnds.plain hm_9 rfl rfl (x_iaload rfl hx160) ?_
        show OEnds own_P 9 59 [.val (.ref 1), .val (.int v1), .val (.int v2), .val (.int v3), .val (.int x156)] [.int x160, .int x159] (c0 :: bk0 o_oSide o_oPrice o_oRem o_oFilled o_oStatus o_oStamp o_oTop o_restIds o_fIds o_fQty o_fPrice o_lvlIds o_lvlR o_lvlA o_minAlloc o_topCap o_accepted o_stampCounter o_restN o_fN o_lvlN po) _
        by_cases hc107 : x159 = x160
        · simp only [if_pos hc107] at h
          refine OEnds.icmpF hm_9 rfl ((teq hc107).2) ?_
          refine OEnds.adv hm_9 3 (pc' := 68) (L' := [.val (.ref 1), .val (.int v1), .val (.int v2), .val (.int v3), .val (.int x156)]) (S' := [.int x156, .ref 7]) (H' := (c0 :: bk0 o_oSide o_oPrice o_oRem o_oFilled o_oStatus o_oStamp o_oTop o_restIds o_fIds o_fQty o_fPrice o_lvlIds o_lvlR o_lvlA o_minAlloc o_topCap o_accepted o_stampCounter o_restN o_fN o_lvlN po)) rfl ?_
          obtain ⟨x161, hx161, h⟩ := bnd h
          refine OEnds.plain hm_9 rfl rfl (x_laload rfl hx161) ?_
          refine OEnds.adv hm_9 3 (pc' := 74) (L' := [.val (.ref 1), .val (.int v1), .val (.int v2), .val (.int v3), .val (.int x156)]) (S' := [.int v1, .ref 7, .long x161]) (H' := (c0 :: bk0 o_oSide o_oPrice o_oRem o_oFilled o_oStatus o_oStamp o_oTop o_restIds o_fIds o_fQty o_fPrice o_lvlIds o_lvlR o_lvlA o_minAlloc o_topCap o_accepted o_stampCounter o_restN o_fN o_lvlN po)) rfl ?_
          obtain ⟨x162, hx162, h⟩ := bnd h
          refine OEnds.plain hm_9 rfl rfl (x_laload rfl hx162) ?_
          refine OEnds.adv hm_9 1 (pc' := 76) (L' := [.val (.ref 1), .val (.int v1), .val (.int v2), .val (.int v3), .val (.int x156)]) (S' := [.int (XT.cmpL x161 x162)]) (H' := (c0 :: bk0 o_oSide o_oPrice o_oRem o_oFilled o_oStatus o_oStamp o_oTop o_restIds o_fIds o_fQty o_fPrice o_lvlIds o_lvlR o_lvlA o_minAlloc o_topCap o_accepted o_stampCounter o_restN o_fN o_lvlN po)) rfl ?_
          by_cases hc108 : x161 < x162
          · simp only [if_pos hc108] at h
            refine OEnds.ifF hm_9 rfl ((tlt (c_lt.mpr hc108)).2.1) ?_
            refine OEnds.adv hm_9 3 (pc' := 14) (L' := [.val (.ref 1), .val (.int v1), .val (.int (v2 + (1 : Int32))), .val (.int (v3 + (1 : Int32))), .val (.int x156)]) (S' := []) (H' := (c0 :: bk0 o_oSide o_oPrice o_oRem o_oFilled o_oStatus o_oStamp o_oTop o_restIds o_fIds o_fQty o_fPrice o_lvlIds o_lvlR o_lvlA o_minAlloc o_topCap o_accepted o_stampCounter o_restN o_fN o_lvlN po)) rfl ?_
            exact ih h
          · simp only [if_neg hc108] at h
            refine OEnds.ifT hm_9 rfl (q := 82) rfl ((flt (mt c_lt.mp hc108)).2.1) ?_
            refine OEnds.adv hm_9 2 (pc' := 14) (L' := [.val (.ref 1), .val (.int v1), .val (.int v2), .val (.int (v3 + (1 : Int32))), .val (.int x156)]) (S' := []) (H' := (c0 :: bk0 o_oSide o_oPrice o_oRem o_oFilled o_oStatus o_oStamp o_oTop o_restIds o_fIds o_fQty o_fPrice o_lvlIds o_lvlR o_lvlA o_minAlloc o_topCap o_accepted o_stampCounter o_restN o_fN o_lvlN po)) rfl ?_
            exact ih h
        · simp only [if_neg hc107] at h
          refine OEnds.icmpT hm_9 rfl (q := 82) rfl ((feq hc107).2) ?_
          refine OEnds.adv hm_9 2 (pc' := 14) (L' := [.val (.ref 1), .val (.int v1), .val (.int v2), .val (.int (v3 + (1 : Int32))), .val (.int x156)]) (S' := []) (H' := (c0 :: bk0 o_oSide o_oPrice o_oRem o_oFilled o_oStatus o_oStamp o_oTop o_restIds o_fIds o_fQty o_fPrice o_lvlIds o_lvlR o_lvlA o_minAlloc o_topCap o_accepted o_stampCounter o_restN o_fN o_lvlN po)) rfl ?_
          exact ih h
      · simp only [if_neg hc106] at h
        refine OEnds.icmpT hm_9 rfl (q := 82) rfl ((feq hc106).2) ?_
        refine OEnds.adv hm_9 2 (pc' := 14) (L' := [.val (.ref 1), .val (.int v1), .val (.int v2), .val (.int (v3 + (1 : Int32))), .val (.int x156)]) (S' := []) (H' := (c0 :: bk0 o_oSide o_oPrice o_oRem o_oFilled o_oStatus o_oStamp o_oTop o_restIds o_fIds o_fQty o_fPrice o_lvlIds o_lvlR o_lvlA o_minAlloc o_topCap o_accepted o_stampCounter o_restN o_fN o_lvlN po)) rfl ?_
        exact ih h
    · simp only [if_neg hc105] at h
      refine OEnds.icmpT hm_9 rfl (q := 88) rfl ((flt hc105).2.1) ?_
      refine OEnds.adv hm_9 1 (pc' := 89) (L' := [.val (.ref 1), .val (.int v1), .val (.int v2), .val (.int v3), .unset]) (S' := [.int v2]) (H' := (c0 :: bk0 o_oSide o_oPrice o_oRem o_oFilled o_oStatus o_oStamp o_oTop o_restIds o_fIds o_fQty o_fPrice o_lvlIds o_lvlR o_lvlA o_minAlloc o_topCap o_accepted o_stampCounter o_restN o_fN o_lvlN po)) rfl ?_
      cases h
      exact OEnds.iret hm_9 rfl rfl
theorem ok_priorityRank {o_oSide : List Int32} {o_oPrice : List Int32} {o_oRem : List Int32} {o_oFilled : List Int32} {o_oStatus : List Int32} {o_oStamp : List Int64} {o_oTop : List Int32} {o_restIds : List Int32} {o_fIds : List Int32} {o_fQty : List Int32} {o_fPrice : List Int32} {o_lvlIds : List Int32} {o_lvlR : List Int32} {o_lvlA : List Int32} {o_minAlloc : Int32} {o_topCap : Int32} {o_accepted : Int32} {o_stampCounter : Int64} {o_restN : Int32} {o_fN : Int32} {o_lvlN : Int32} {c0 : ACell} {po : List ACell} {v1 : Int32} {res : Int32} (h : f_priorityRank o_oSide o_oPrice o_oStatus o_oStamp o_restIds o_accepted o_restN v1 = some res) : OEnds own_P 9 0 [.val (.ref 1), .val (.int v1), .unset, .unset, .unset] [] (c0 :: bk0 o_oSide o_oPrice o_oRem o_oFilled o_oStatus o_oStamp o_oTop o_restIds o_fIds o_fQty o_fPrice o_lvlIds o_lvlR o_lvlA o_minAlloc o_topCap o_accepted o_stampCounter o_restN o_fN o_lvlN po) (some (.int res), (c0 :: bk0 o_oSide o_oPrice o_oRem o_oFilled o_oStatus o_oStamp o_oTop o_restIds o_fIds o_fQty o_fPrice o_lvlIds o_lvlR o_lvlA o_minAlloc o_topCap o_accepted o_stampCounter o_restN o_fN o_lvlN po), 0, 0) := by
  unfold f_priorityRank at h
  refine OEnds.adv hm_9 2 (pc' := 2) (L' := [.val (.ref 1), .val (.int v1), .unset, .unset, .unset]) (S' := [.int v1, .ref 1]) (H' := (c0 :: bk0 o_oSide o_oPrice o_oRem o_oFilled o_oStatus o_oStamp o_oTop o_restIds o_fIds o_fQty o_fPrice o_lvlIds o_lvlR o_lvlA o_minAlloc o_topCap o_accepted o_stampCounter o_restN o_fN o_lvlN po)) rfl ?_
  obtain ⟨r155, hq109, h⟩ := bnd h
  refine OEnds.call0 hm_9 rfl rfl (by decide) rfl (as := [.ref 1, .int v1]) (rest := []) rfl rfl (ok_isResting hq109) ?_
  show OEnds own_P 9 5 [.val (.ref 1), .val (.int v1), .unset, .unset, .unset] [.int r155] (c0 :: bk0 o_oSide o_oPrice o_oRem o_oFilled o_oStatus o_oStamp o_oTop o_restIds o_fIds o_fQty o_fPrice o_lvlIds o_lvlR o_lvlA o_minAlloc o_topCap o_accepted o_stampCounter o_restN o_fN o_lvlN po) _
  by_cases hc110 : r155 = (0 : Int32)
  · simp only [if_pos hc110] at h
    refine OEnds.ifF hm_9 rfl ((teq hc110).2) ?_
    refine OEnds.adv hm_9 1 (pc' := 9) (L' := [.val (.ref 1), .val (.int v1), .unset, .unset, .unset]) (S' := [.int (-1)]) (H' := (c0 :: bk0 o_oSide o_oPrice o_oRem o_oFilled o_oStatus o_oStamp o_oTop o_restIds o_fIds o_fQty o_fPrice o_lvlIds o_lvlR o_lvlA o_minAlloc o_topCap o_accepted o_stampCounter o_restN o_fN o_lvlN po)) rfl ?_
    cases h
    exact OEnds.iret hm_9 rfl rfl
  · simp only [if_neg hc110] at h
    refine OEnds.ifT hm_9 rfl (q := 10) rfl ((feq hc110).2) ?_
    refine OEnds.adv hm_9 4 (pc' := 14) (L' := [.val (.ref 1), .val (.int v1), .val (.int 0), .val (.int 0), .unset]) (S' := []) (H' := (c0 :: bk0 o_oSide o_oPrice o_oRem o_oFilled o_oStatus o_oStamp o_oTop o_restIds o_fIds o_fQty o_fPrice o_lvlIds o_lvlR o_lvlA o_minAlloc o_topCap o_accepted o_stampCounter o_restN o_fN o_lvlN po)) rfl ?_
    exact ok_priorityRank_14 100000 h
theorem ok_isTop {o_oSide : List Int32} {o_oPrice : List Int32} {o_oRem : List Int32} {o_oFilled : List Int32} {o_oStatus : List Int32} {o_oStamp : List Int64} {o_oTop : List Int32} {o_restIds : List Int32} {o_fIds : List Int32} {o_fQty : List Int32} {o_fPrice : List Int32} {o_lvlIds : List Int32} {o_lvlR : List Int32} {o_lvlA : List Int32} {o_minAlloc : Int32} {o_topCap : Int32} {o_accepted : Int32} {o_stampCounter : Int64} {o_restN : Int32} {o_fN : Int32} {o_lvlN : Int32} {c0 : ACell} {po : List ACell} {v1 : Int32} {res : Int32} (h : f_isTop o_oStatus o_oTop o_accepted v1 = some res) : OEnds own_P 10 0 [.val (.ref 1), .val (.int v1)] [] (c0 :: bk0 o_oSide o_oPrice o_oRem o_oFilled o_oStatus o_oStamp o_oTop o_restIds o_fIds o_fQty o_fPrice o_lvlIds o_lvlR o_lvlA o_minAlloc o_topCap o_accepted o_stampCounter o_restN o_fN o_lvlN po) (some (.int res), (c0 :: bk0 o_oSide o_oPrice o_oRem o_oFilled o_oStatus o_oStamp o_oTop o_restIds o_fIds o_fQty o_fPrice o_lvlIds o_lvlR o_lvlA o_minAlloc o_topCap o_accepted o_stampCounter o_restN o_fN o_lvlN po), 0, 0) := by
  unfold f_isTop at h
  refine OEnds.adv hm_10 2 (pc' := 2) (L' := [.val (.ref 1), .val (.int v1)]) (S' := [.int v1, .ref 1]) (H' := (c0 :: bk0 o_oSide o_oPrice o_oRem o_oFilled o_oStatus o_oStamp o_oTop o_restIds o_fIds o_fQty o_fPrice o_lvlIds o_lvlR o_lvlA o_minAlloc o_topCap o_accepted o_stampCounter o_restN o_fN o_lvlN po)) rfl ?_
  obtain ⟨r163, hq111, h⟩ := bnd h
  refine OEnds.call0 hm_10 rfl rfl (by decide) rfl (as := [.ref 1, .int v1]) (rest := []) rfl rfl (ok_isResting hq111) ?_
  show OEnds own_P 10 5 [.val (.ref 1), .val (.int v1)] [.int r163] (c0 :: bk0 o_oSide o_oPrice o_oRem o_oFilled o_oStatus o_oStamp o_oTop o_restIds o_fIds o_fQty o_fPrice o_lvlIds o_lvlR o_lvlA o_minAlloc o_topCap o_accepted o_stampCounter o_restN o_fN o_lvlN po) _
  by_cases hc112 : r163 = (0 : Int32)
  · simp only [if_pos hc112] at h
    refine OEnds.ifT hm_10 rfl (q := 21) rfl ((teq hc112).1) ?_
    refine OEnds.adv hm_10 1 (pc' := 22) (L' := [.val (.ref 1), .val (.int v1)]) (S' := [.int 0]) (H' := (c0 :: bk0 o_oSide o_oPrice o_oRem o_oFilled o_oStatus o_oStamp o_oTop o_restIds o_fIds o_fQty o_fPrice o_lvlIds o_lvlR o_lvlA o_minAlloc o_topCap o_accepted o_stampCounter o_restN o_fN o_lvlN po)) rfl ?_
    cases h
    exact OEnds.iret hm_10 rfl rfl
  · simp only [if_neg hc112] at h
    refine OEnds.ifF hm_10 rfl ((feq hc112).1) ?_
    refine OEnds.adv hm_10 3 (pc' := 13) (L' := [.val (.ref 1), .val (.int v1)]) (S' := [.int v1, .ref 8]) (H' := (c0 :: bk0 o_oSide o_oPrice o_oRem o_oFilled o_oStatus o_oStamp o_oTop o_restIds o_fIds o_fQty o_fPrice o_lvlIds o_lvlR o_lvlA o_minAlloc o_topCap o_accepted o_stampCounter o_restN o_fN o_lvlN po)) rfl ?_
    obtain ⟨x164, hx164, h⟩ := bnd h
    refine OEnds.plain hm_10 rfl rfl (x_baload rfl hx164) ?_
    show OEnds own_P 10 14 [.val (.ref 1), .val (.int v1)] [.int x164] (c0 :: bk0 o_oSide o_oPrice o_oRem o_oFilled o_oStatus o_oStamp o_oTop o_restIds o_fIds o_fQty o_fPrice o_lvlIds o_lvlR o_lvlA o_minAlloc o_topCap o_accepted o_stampCounter o_restN o_fN o_lvlN po) _
    by_cases hc113 : x164 = (0 : Int32)
    · simp only [if_pos hc113] at h
      refine OEnds.ifT hm_10 rfl (q := 21) rfl ((teq hc113).1) ?_
      refine OEnds.adv hm_10 1 (pc' := 22) (L' := [.val (.ref 1), .val (.int v1)]) (S' := [.int 0]) (H' := (c0 :: bk0 o_oSide o_oPrice o_oRem o_oFilled o_oStatus o_oStamp o_oTop o_restIds o_fIds o_fQty o_fPrice o_lvlIds o_lvlR o_lvlA o_minAlloc o_topCap o_accepted o_stampCounter o_restN o_fN o_lvlN po)) rfl ?_
      cases h
      exact OEnds.iret hm_10 rfl rfl
    · simp only [if_neg hc113] at h
      refine OEnds.ifF hm_10 rfl ((feq hc113).1) ?_
      refine OEnds.adv hm_10 2 (pc' := 22) (L' := [.val (.ref 1), .val (.int v1)]) (S' := [.int 1]) (H' := (c0 :: bk0 o_oSide o_oPrice o_oRem o_oFilled o_oStatus o_oStamp o_oTop o_restIds o_fIds o_fQty o_fPrice o_lvlIds o_lvlR o_lvlA o_minAlloc o_topCap o_accepted o_stampCounter o_restN o_fN o_lvlN po)) rfl ?_
      cases h
      exact OEnds.iret hm_10 rfl rfl
theorem ok_filled {o_oSide : List Int32} {o_oPrice : List Int32} {o_oRem : List Int32} {o_oFilled : List Int32} {o_oStatus : List Int32} {o_oStamp : List Int64} {o_oTop : List Int32} {o_restIds : List Int32} {o_fIds : List Int32} {o_fQty : List Int32} {o_fPrice : List Int32} {o_lvlIds : List Int32} {o_lvlR : List Int32} {o_lvlA : List Int32} {o_minAlloc : Int32} {o_topCap : Int32} {o_accepted : Int32} {o_stampCounter : Int64} {o_restN : Int32} {o_fN : Int32} {o_lvlN : Int32} {c0 : ACell} {po : List ACell} {v1 : Int32} {res : Int32} (h : f_filled o_oFilled o_accepted v1 = some res) : OEnds own_P 11 0 [.val (.ref 1), .val (.int v1)] [] (c0 :: bk0 o_oSide o_oPrice o_oRem o_oFilled o_oStatus o_oStamp o_oTop o_restIds o_fIds o_fQty o_fPrice o_lvlIds o_lvlR o_lvlA o_minAlloc o_topCap o_accepted o_stampCounter o_restN o_fN o_lvlN po) (some (.int res), (c0 :: bk0 o_oSide o_oPrice o_oRem o_oFilled o_oStatus o_oStamp o_oTop o_restIds o_fIds o_fQty o_fPrice o_lvlIds o_lvlR o_lvlA o_minAlloc o_topCap o_accepted o_stampCounter o_restN o_fN o_lvlN po), 0, 0) := by
  unfold f_filled at h
  refine OEnds.adv hm_11 2 (pc' := 2) (L' := [.val (.ref 1), .val (.int v1)]) (S' := [.int 1, .int v1]) (H' := (c0 :: bk0 o_oSide o_oPrice o_oRem o_oFilled o_oStatus o_oStamp o_oTop o_restIds o_fIds o_fQty o_fPrice o_lvlIds o_lvlR o_lvlA o_minAlloc o_topCap o_accepted o_stampCounter o_restN o_fN o_lvlN po)) rfl ?_
  by_cases hc114 : v1 < (1 : Int32)
  · simp only [if_pos hc114] at h
    refine OEnds.icmpT hm_11 rfl (q := 13) rfl ((tlt hc114).1) ?_
    refine OEnds.adv hm_11 1 (pc' := 14) (L' := [.val (.ref 1), .val (.int v1)]) (S' := [.int 0]) (H' := (c0 :: bk0 o_oSide o_oPrice o_oRem o_oFilled o_oStatus o_oStamp o_oTop o_restIds o_fIds o_fQty o_fPrice o_lvlIds o_lvlR o_lvlA o_minAlloc o_topCap o_accepted o_stampCounter o_restN o_fN o_lvlN po)) rfl ?_
    cases h
    exact OEnds.iret hm_11 rfl rfl
  · simp only [if_neg hc114] at h
    refine OEnds.icmpF hm_11 rfl ((flt hc114).1) ?_
    refine OEnds.adv hm_11 3 (pc' := 10) (L' := [.val (.ref 1), .val (.int v1)]) (S' := [.int o_accepted, .int v1]) (H' := (c0 :: bk0 o_oSide o_oPrice o_oRem o_oFilled o_oStatus o_oStamp o_oTop o_restIds o_fIds o_fQty o_fPrice o_lvlIds o_lvlR o_lvlA o_minAlloc o_topCap o_accepted o_stampCounter o_restN o_fN o_lvlN po)) rfl ?_
    by_cases hc115 : o_accepted < v1
    · simp only [if_pos hc115] at h
      refine OEnds.icmpF hm_11 rfl ((tlt hc115).2.2.2) ?_
      refine OEnds.adv hm_11 1 (pc' := 14) (L' := [.val (.ref 1), .val (.int v1)]) (S' := [.int 0]) (H' := (c0 :: bk0 o_oSide o_oPrice o_oRem o_oFilled o_oStatus o_oStamp o_oTop o_restIds o_fIds o_fQty o_fPrice o_lvlIds o_lvlR o_lvlA o_minAlloc o_topCap o_accepted o_stampCounter o_restN o_fN o_lvlN po)) rfl ?_
      cases h
      exact OEnds.iret hm_11 rfl rfl
    · simp only [if_neg hc115] at h
      refine OEnds.icmpT hm_11 rfl (q := 15) rfl ((flt hc115).2.2.2) ?_
      refine OEnds.adv hm_11 3 (pc' := 20) (L' := [.val (.ref 1), .val (.int v1)]) (S' := [.int v1, .ref 5]) (H' := (c0 :: bk0 o_oSide o_oPrice o_oRem o_oFilled o_oStatus o_oStamp o_oTop o_restIds o_fIds o_fQty o_fPrice o_lvlIds o_lvlR o_lvlA o_minAlloc o_topCap o_accepted o_stampCounter o_restN o_fN o_lvlN po)) rfl ?_
      obtain ⟨x165, hx165, h⟩ := bnd h
      refine OEnds.plain hm_11 rfl rfl (x_iaload rfl hx165) ?_
      show OEnds own_P 11 21 [.val (.ref 1), .val (.int v1)] [.int x165] (c0 :: bk0 o_oSide o_oPrice o_oRem o_oFilled o_oStatus o_oStamp o_oTop o_restIds o_fIds o_fQty o_fPrice o_lvlIds o_lvlR o_lvlA o_minAlloc o_topCap o_accepted o_stampCounter o_restN o_fN o_lvlN po) _
      cases h
      exact OEnds.iret hm_11 rfl rfl
theorem ok_restingCount {o_oSide : List Int32} {o_oPrice : List Int32} {o_oRem : List Int32} {o_oFilled : List Int32} {o_oStatus : List Int32} {o_oStamp : List Int64} {o_oTop : List Int32} {o_restIds : List Int32} {o_fIds : List Int32} {o_fQty : List Int32} {o_fPrice : List Int32} {o_lvlIds : List Int32} {o_lvlR : List Int32} {o_lvlA : List Int32} {o_minAlloc : Int32} {o_topCap : Int32} {o_accepted : Int32} {o_stampCounter : Int64} {o_restN : Int32} {o_fN : Int32} {o_lvlN : Int32} {c0 : ACell} {po : List ACell} {res : Int32} (h : f_restingCount o_restN = some res) : OEnds own_P 12 0 [.val (.ref 1)] [] (c0 :: bk0 o_oSide o_oPrice o_oRem o_oFilled o_oStatus o_oStamp o_oTop o_restIds o_fIds o_fQty o_fPrice o_lvlIds o_lvlR o_lvlA o_minAlloc o_topCap o_accepted o_stampCounter o_restN o_fN o_lvlN po) (some (.int res), (c0 :: bk0 o_oSide o_oPrice o_oRem o_oFilled o_oStatus o_oStamp o_oTop o_restIds o_fIds o_fQty o_fPrice o_lvlIds o_lvlR o_lvlA o_minAlloc o_topCap o_accepted o_stampCounter o_restN o_fN o_lvlN po), 0, 0) := by
  unfold f_restingCount at h
  refine OEnds.adv hm_12 2 (pc' := 4) (L' := [.val (.ref 1)]) (S' := [.int o_restN]) (H' := (c0 :: bk0 o_oSide o_oPrice o_oRem o_oFilled o_oStatus o_oStamp o_oTop o_restIds o_fIds o_fQty o_fPrice o_lvlIds o_lvlR o_lvlA o_minAlloc o_topCap o_accepted o_stampCounter o_restN o_fN o_lvlN po)) rfl ?_
  cases h
  exact OEnds.iret hm_12 rfl rfl
theorem ok_L_ok_154 {p0_oSide : List Int32} {p0_oPrice : List Int32} {p0_oRem : List Int32} {p0_oFilled : List Int32} {p0_oStatus : List Int32} {p0_oStamp : List Int64} {p0_oTop : List Int32} {p0_restIds : List Int32} {p0_fIds : List Int32} {p0_fQty : List Int32} {p0_fPrice : List Int32} {p0_lvlIds : List Int32} {p0_lvlR : List Int32} {p0_lvlA : List Int32} {p0_minAlloc : Int32} {p0_topCap : Int32} {p0_accepted : Int32} {p0_stampCounter : Int64} {p0_restN : Int32} {p0_fN : Int32} {p0_lvlN : Int32} {c0 : ACell} {po : List ACell} : ∀ {v3 : Int32} {v4 : Int32} {v5 : Int32} {d1 d2 d6 d7 d8 d9 d10 : Slot} {res : Int32}, f_L_ok_154 p0_oSide p0_oPrice p0_oRem p0_oFilled p0_oStatus p0_oStamp p0_oTop p0_restIds p0_accepted p0_restN v3 v4 v5 = some res → OEnds own_P 3 154 [.val (.ref 1), d1, d2, .val (.int v3), .val (.int v4), .val (.int v5), d6, d7, d8, d9, d10] [] (c0 :: bk0 p0_oSide p0_oPrice p0_oRem p0_oFilled p0_oStatus p0_oStamp p0_oTop p0_restIds p0_fIds p0_fQty p0_fPrice p0_lvlIds p0_lvlR p0_lvlA p0_minAlloc p0_topCap p0_accepted p0_stampCounter p0_restN p0_fN p0_lvlN po) (some (.int res), (c0 :: bk0 p0_oSide p0_oPrice p0_oRem p0_oFilled p0_oStatus p0_oStamp p0_oTop p0_restIds p0_fIds p0_fQty p0_fPrice p0_lvlIds p0_lvlR p0_lvlA p0_minAlloc p0_topCap p0_accepted p0_stampCounter p0_restN p0_fN p0_lvlN po), 0, 0) := by
  intro v3 v4 v5 d1 d2 d6 d7 d8 d9 d10 res h
  unfold f_L_ok_154 at h
  refine OEnds.adv hm_3 2 (pc' := 156) (L' := [.val (.ref 1), .unset, .unset, .val (.int v3), .val (.int v4), .val (.int v5), .unset, .unset, .unset, .unset, .unset]) (S' := [.ref 1, .int v3]) (H' := (c0 :: bk0 p0_oSide p0_oPrice p0_oRem p0_oFilled p0_oStatus p0_oStamp p0_oTop p0_restIds p0_fIds p0_fQty p0_fPrice p0_lvlIds p0_lvlR p0_lvlA p0_minAlloc p0_topCap p0_accepted p0_stampCounter p0_restN p0_fN p0_lvlN po)) rfl ?_
  obtain ⟨r173, hq116, h⟩ := bnd h
  refine OEnds.call0 hm_3 rfl rfl (by decide) rfl (as := [.ref 1]) (rest := [.int v3]) rfl rfl (ok_restingCount hq116) ?_
  show OEnds own_P 3 159 [.val (.ref 1), .unset, .unset, .val (.int v3), .val (.int v4), .val (.int v5), .unset, .unset, .unset, .unset, .unset] [.int r173, .int v3] (c0 :: bk0 p0_oSide p0_oPrice p0_oRem p0_oFilled p0_oStatus p0_oStamp p0_oTop p0_restIds p0_fIds p0_fQty p0_fPrice p0_lvlIds p0_lvlR p0_lvlA p0_minAlloc p0_topCap p0_accepted p0_stampCounter p0_restN p0_fN p0_lvlN po) _
  by_cases hc117 : v3 = r173
  · simp only [if_pos hc117] at h
    refine OEnds.icmpF hm_3 rfl ((teq hc117).2) ?_
    refine OEnds.adv hm_3 2 (pc' := 165) (L' := [.val (.ref 1), .unset, .unset, .val (.int v3), .val (.int v4), .val (.int v5), .unset, .unset, .unset, .unset, .unset]) (S' := [.int 64, .int v3]) (H' := (c0 :: bk0 p0_oSide p0_oPrice p0_oRem p0_oFilled p0_oStatus p0_oStamp p0_oTop p0_restIds p0_fIds p0_fQty p0_fPrice p0_lvlIds p0_lvlR p0_lvlA p0_minAlloc p0_topCap p0_accepted p0_stampCounter p0_restN p0_fN p0_lvlN po)) rfl ?_
    by_cases hc118 : (64 : Int32) < v3
    · simp only [if_pos hc118] at h
      refine OEnds.icmpT hm_3 rfl (q := 185) rfl ((tlt hc118).2.2.1) ?_
      refine OEnds.adv hm_3 1 (pc' := 186) (L' := [.val (.ref 1), .unset, .unset, .val (.int v3), .val (.int v4), .val (.int v5), .unset, .unset, .unset, .unset, .unset]) (S' := [.int 0]) (H' := (c0 :: bk0 p0_oSide p0_oPrice p0_oRem p0_oFilled p0_oStatus p0_oStamp p0_oTop p0_restIds p0_fIds p0_fQty p0_fPrice p0_lvlIds p0_lvlR p0_lvlA p0_minAlloc p0_topCap p0_accepted p0_stampCounter p0_restN p0_fN p0_lvlN po)) rfl ?_
      cases h
      exact OEnds.iret hm_3 rfl rfl
    · simp only [if_neg hc118] at h
      refine OEnds.icmpF hm_3 rfl ((flt hc118).2.2.1) ?_
      refine OEnds.adv hm_3 2 (pc' := 171) (L' := [.val (.ref 1), .unset, .unset, .val (.int v3), .val (.int v4), .val (.int v5), .unset, .unset, .unset, .unset, .unset]) (S' := [.int 2, .int v4]) (H' := (c0 :: bk0 p0_oSide p0_oPrice p0_oRem p0_oFilled p0_oStatus p0_oStamp p0_oTop p0_restIds p0_fIds p0_fQty p0_fPrice p0_lvlIds p0_lvlR p0_lvlA p0_minAlloc p0_topCap p0_accepted p0_stampCounter p0_restN p0_fN p0_lvlN po)) rfl ?_
      by_cases hc119 : (2 : Int32) < v4
      · simp only [if_pos hc119] at h
        refine OEnds.icmpT hm_3 rfl (q := 185) rfl ((tlt hc119).2.2.1) ?_
        refine OEnds.adv hm_3 1 (pc' := 186) (L' := [.val (.ref 1), .unset, .unset, .val (.int v3), .val (.int v4), .val (.int v5), .unset, .unset, .unset, .unset, .unset]) (S' := [.int 0]) (H' := (c0 :: bk0 p0_oSide p0_oPrice p0_oRem p0_oFilled p0_oStatus p0_oStamp p0_oTop p0_restIds p0_fIds p0_fQty p0_fPrice p0_lvlIds p0_lvlR p0_lvlA p0_minAlloc p0_topCap p0_accepted p0_stampCounter p0_restN p0_fN p0_lvlN po)) rfl ?_
        cases h
        exact OEnds.iret hm_3 rfl rfl
      · simp only [if_neg hc119] at h
        refine OEnds.icmpF hm_3 rfl ((flt hc119).2.2.1) ?_
        refine OEnds.adv hm_3 3 (pc' := 178) (L' := [.val (.ref 1), .unset, .unset, .val (.int v3), .val (.int v4), .val (.int v5), .unset, .unset, .unset, .unset, .unset]) (S' := [.int (v5 &&& (1 : Int32))]) (H' := (c0 :: bk0 p0_oSide p0_oPrice p0_oRem p0_oFilled p0_oStatus p0_oStamp p0_oTop p0_restIds p0_fIds p0_fQty p0_fPrice p0_lvlIds p0_lvlR p0_lvlA p0_minAlloc p0_topCap p0_accepted p0_stampCounter p0_restN p0_fN p0_lvlN po)) rfl ?_
        by_cases hc120 : (v5 &&& (1 : Int32)) = (0 : Int32)
        · simp only [if_pos hc120] at h
          refine OEnds.ifF hm_3 rfl ((teq hc120).2) ?_
          refine OEnds.adv hm_3 2 (pc' := 186) (L' := [.val (.ref 1), .unset, .unset, .val (.int v3), .val (.int v4), .val (.int v5), .unset, .unset, .unset, .unset, .unset]) (S' := [.int 1]) (H' := (c0 :: bk0 p0_oSide p0_oPrice p0_oRem p0_oFilled p0_oStatus p0_oStamp p0_oTop p0_restIds p0_fIds p0_fQty p0_fPrice p0_lvlIds p0_lvlR p0_lvlA p0_minAlloc p0_topCap p0_accepted p0_stampCounter p0_restN p0_fN p0_lvlN po)) rfl ?_
          cases h
          exact OEnds.iret hm_3 rfl rfl
        · simp only [if_neg hc120] at h
          refine OEnds.ifT hm_3 rfl (q := 185) rfl ((feq hc120).2) ?_
          refine OEnds.adv hm_3 1 (pc' := 186) (L' := [.val (.ref 1), .unset, .unset, .val (.int v3), .val (.int v4), .val (.int v5), .unset, .unset, .unset, .unset, .unset]) (S' := [.int 0]) (H' := (c0 :: bk0 p0_oSide p0_oPrice p0_oRem p0_oFilled p0_oStatus p0_oStamp p0_oTop p0_restIds p0_fIds p0_fQty p0_fPrice p0_lvlIds p0_lvlR p0_lvlA p0_minAlloc p0_topCap p0_accepted p0_stampCounter p0_restN p0_fN p0_lvlN po)) rfl ?_
          cases h
          exact OEnds.iret hm_3 rfl rfl
  · simp only [if_neg hc117] at h
    refine OEnds.icmpT hm_3 rfl (q := 185) rfl ((feq hc117).2) ?_
    refine OEnds.adv hm_3 1 (pc' := 186) (L' := [.val (.ref 1), .unset, .unset, .val (.int v3), .val (.int v4), .val (.int v5), .unset, .unset, .unset, .unset, .unset]) (S' := [.int 0]) (H' := (c0 :: bk0 p0_oSide p0_oPrice p0_oRem p0_oFilled p0_oStatus p0_oStamp p0_oTop p0_restIds p0_fIds p0_fQty p0_fPrice p0_lvlIds p0_lvlR p0_lvlA p0_minAlloc p0_topCap p0_accepted p0_stampCounter p0_restN p0_fN p0_lvlN po)) rfl ?_
    cases h
    exact OEnds.iret hm_3 rfl rfl
theorem ok_L_ok_137 {p0_oSide : List Int32} {p0_oPrice : List Int32} {p0_oRem : List Int32} {p0_oFilled : List Int32} {p0_oStatus : List Int32} {p0_oStamp : List Int64} {p0_oTop : List Int32} {p0_restIds : List Int32} {p0_fIds : List Int32} {p0_fQty : List Int32} {p0_fPrice : List Int32} {p0_lvlIds : List Int32} {p0_lvlR : List Int32} {p0_lvlA : List Int32} {p0_minAlloc : Int32} {p0_topCap : Int32} {p0_accepted : Int32} {p0_stampCounter : Int64} {p0_restN : Int32} {p0_fN : Int32} {p0_lvlN : Int32} {c0 : ACell} {po : List ACell} {kb : Int32 → Int32 → Int32 → Int32 → Option (Int32)} {k154 : Int32 → Int32 → Int32 → Option (Int32)} (hkb : ∀ {v3 : Int32} {v4 : Int32} {v5 : Int32} {v6 : Int32} {d1 d2 d7 d8 d9 d10 : Slot} {res : Int32}, kb v3 v4 v5 v6 = some res → OEnds own_P 3 38 [.val (.ref 1), d1, d2, .val (.int v3), .val (.int v4), .val (.int v5), .val (.int v6), d7, d8, d9, d10] [] (c0 :: bk0 p0_oSide p0_oPrice p0_oRem p0_oFilled p0_oStatus p0_oStamp p0_oTop p0_restIds p0_fIds p0_fQty p0_fPrice p0_lvlIds p0_lvlR p0_lvlA p0_minAlloc p0_topCap p0_accepted p0_stampCounter p0_restN p0_fN p0_lvlN po) (some (.int res), (c0 :: bk0 p0_oSide p0_oPrice p0_oRem p0_oFilled p0_oStatus p0_oStamp p0_oTop p0_restIds p0_fIds p0_fQty p0_fPrice p0_lvlIds p0_lvlR p0_lvlA p0_minAlloc p0_topCap p0_accepted p0_stampCounter p0_restN p0_fN p0_lvlN po), 0, 0)) (hk154 : ∀ {v3 : Int32} {v4 : Int32} {v5 : Int32} {d1 d2 d6 d7 d8 d9 d10 : Slot} {res : Int32}, k154 v3 v4 v5 = some res → OEnds own_P 3 154 [.val (.ref 1), d1, d2, .val (.int v3), .val (.int v4), .val (.int v5), d6, d7, d8, d9, d10] [] (c0 :: bk0 p0_oSide p0_oPrice p0_oRem p0_oFilled p0_oStatus p0_oStamp p0_oTop p0_restIds p0_fIds p0_fQty p0_fPrice p0_lvlIds p0_lvlR p0_lvlA p0_minAlloc p0_topCap p0_accepted p0_stampCounter p0_restN p0_fN p0_lvlN po) (some (.int res), (c0 :: bk0 p0_oSide p0_oPrice p0_oRem p0_oFilled p0_oStatus p0_oStamp p0_oTop p0_restIds p0_fIds p0_fQty p0_fPrice p0_lvlIds p0_lvlR p0_lvlA p0_minAlloc p0_topCap p0_accepted p0_stampCounter p0_restN p0_fN p0_lvlN po), 0, 0)) : ∀ {v3 : Int32} {v4 : Int32} {v5 : Int32} {v6 : Int32} {d1 d2 d7 d8 d9 d10 : Slot} {res : Int32}, f_L_ok_137 kb k154 p0_oSide p0_oPrice p0_oRem p0_oFilled p0_oStatus p0_oStamp p0_oTop p0_restIds p0_accepted p0_restN v3 v4 v5 v6 = some res → OEnds own_P 3 137 [.val (.ref 1), d1, d2, .val (.int v3), .val (.int v4), .val (.int v5), .val (.int v6), d7, d8, d9, d10] [] (c0 :: bk0 p0_oSide p0_oPrice p0_oRem p0_oFilled p0_oStatus p0_oStamp p0_oTop p0_restIds p0_fIds p0_fQty p0_fPrice p0_lvlIds p0_lvlR p0_lvlA p0_minAlloc p0_topCap p0_accepted p0_stampCounter p0_restN p0_fN p0_lvlN po) (some (.int res), (c0 :: bk0 p0_oSide p0_oPrice p0_oRem p0_oFilled p0_oStatus p0_oStamp p0_oTop p0_restIds p0_fIds p0_fQty p0_fPrice p0_lvlIds p0_lvlR p0_lvlA p0_minAlloc p0_topCap p0_accepted p0_stampCounter p0_restN p0_fN p0_lvlN po), 0, 0) := by
  intro v3 v4 v5 v6 d1 d2 d7 d8 d9 d10 res h
  unfold f_L_ok_137 at h
  refine OEnds.adv hm_3 3 (pc' := 142) (L' := [.val (.ref 1), .unset, .unset, .val (.int v3), .val (.int v4), .val (.int v5), .val (.int v6), .unset, .unset, .unset, .unset]) (S' := [.int v6, .ref 1, .int v5]) (H' := (c0 :: bk0 p0_oSide p0_oPrice p0_oRem p0_oFilled p0_oStatus p0_oStamp p0_oTop p0_restIds p0_fIds p0_fQty p0_fPrice p0_lvlIds p0_lvlR p0_lvlA p0_minAlloc p0_topCap p0_accepted p0_stampCounter p0_restN p0_fN p0_lvlN po)) rfl ?_
  obtain ⟨r172, hq121, h⟩ := bnd h
  refine OEnds.call0 hm_3 rfl rfl (by decide) rfl (as := [.ref 1, .int v6]) (rest := [.int v5]) rfl rfl (ok_filled hq121) ?_
  refine OEnds.adv hm_3 4 (pc' := 38) (L' := [.val (.ref 1), .unset, .unset, .val (.int v3), .val (.int v4), .val (.int (v5 + r172)), .val (.int (v6 + (1 : Int32))), .unset, .unset, .unset, .unset]) (S' := []) (H' := (c0 :: bk0 p0_oSide p0_oPrice p0_oRem p0_oFilled p0_oStatus p0_oStamp p0_oTop p0_restIds p0_fIds p0_fQty p0_fPrice p0_lvlIds p0_lvlR p0_lvlA p0_minAlloc p0_topCap p0_accepted p0_stampCounter p0_restN p0_fN p0_lvlN po)) rfl ?_
  exact hkb h
theorem ok_L_ok_38 {p0_oSide : List Int32} {p0_oPrice : List Int32} {p0_oRem : List Int32} {p0_oFilled : List Int32} {p0_oStatus : List Int32} {p0_oStamp : List Int64} {p0_oTop : List Int32} {p0_restIds : List Int32} {p0_fIds : List Int32} {p0_fQty : List Int32} {p0_fPrice : List Int32} {p0_lvlIds : List Int32} {p0_lvlR : List Int32} {p0_lvlA : List Int32} {p0_minAlloc : Int32} {p0_topCap : Int32} {p0_accepted : Int32} {p0_stampCounter : Int64} {p0_restN : Int32} {p0_fN : Int32} {p0_lvlN : Int32} {c0 : ACell} {po : List ACell} {k154 : Int32 → Int32 → Int32 → Option (Int32)} (hk154 : ∀ {v3 : Int32} {v4 : Int32} {v5 : Int32} {d1 d2 d6 d7 d8 d9 d10 : Slot} {res : Int32}, k154 v3 v4 v5 = some res → OEnds own_P 3 154 [.val (.ref 1), d1, d2, .val (.int v3), .val (.int v4), .val (.int v5), d6, d7, d8, d9, d10] [] (c0 :: bk0 p0_oSide p0_oPrice p0_oRem p0_oFilled p0_oStatus p0_oStamp p0_oTop p0_restIds p0_fIds p0_fQty p0_fPrice p0_lvlIds p0_lvlR p0_lvlA p0_minAlloc p0_topCap p0_accepted p0_stampCounter p0_restN p0_fN p0_lvlN po) (some (.int res), (c0 :: bk0 p0_oSide p0_oPrice p0_oRem p0_oFilled p0_oStatus p0_oStamp p0_oTop p0_restIds p0_fIds p0_fQty p0_fPrice p0_lvlIds p0_lvlR p0_lvlA p0_minAlloc p0_topCap p0_accepted p0_stampCounter p0_restN p0_fN p0_lvlN po), 0, 0)) : ∀ (n : Nat), ∀ {v3 : Int32} {v4 : Int32} {v5 : Int32} {v6 : Int32} {d1 d2 d7 d8 d9 d10 : Slot} {res : Int32}, f_L_ok_38 k154 p0_oSide p0_oPrice p0_oRem p0_oFilled p0_oStatus p0_oStamp p0_oTop p0_restIds p0_accepted p0_restN n v3 v4 v5 v6 = some res → OEnds own_P 3 38 [.val (.ref 1), d1, d2, .val (.int v3), .val (.int v4), .val (.int v5), .val (.int v6), d7, d8, d9, d10] [] (c0 :: bk0 p0_oSide p0_oPrice p0_oRem p0_oFilled p0_oStatus p0_oStamp p0_oTop p0_restIds p0_fIds p0_fQty p0_fPrice p0_lvlIds p0_lvlR p0_lvlA p0_minAlloc p0_topCap p0_accepted p0_stampCounter p0_restN p0_fN p0_lvlN po) (some (.int res), (c0 :: bk0 p0_oSide p0_oPrice p0_oRem p0_oFilled p0_oStatus p0_oStamp p0_oTop p0_restIds p0_fIds p0_fQty p0_fPrice p0_lvlIds p0_lvlR p0_lvlA p0_minAlloc p0_topCap p0_accepted p0_stampCounter p0_restN p0_fN p0_lvlN po), 0, 0) := by
  intro n
  induction n with
  | zero => intro v3 v4 v5 v6 d1 d2 d7 d8 d9 d10 res h; cases h
  | succ n ih =>
    intro v3 v4 v5 v6 d1 d2 d7 d8 d9 d10 res h
    unfold f_L_ok_38 at h
    refine OEnds.adv hm_3 2 (pc' := 43) (L' := [.val (.ref 1), .unset, .unset, .val (.int v3), .val (.int v4), .val (.int v5), .val (.int v6), .unset, .unset, .unset, .unset]) (S' := [.int 255, .int v6]) (H' := (c0 :: bk0 p0_oSide p0_oPrice p0_oRem p0_oFilled p0_oStatus p0_oStamp p0_oTop p0_restIds p0_fIds p0_fQty p0_fPrice p0_lvlIds p0_lvlR p0_lvlA p0_minAlloc p0_topCap p0_accepted p0_stampCounter p0_restN p0_fN p0_lvlN po)) rfl ?_
    by_cases hc122 : (255 : Int32) < v6
    · simp only [if_pos hc122] at h
      refine OEnds.icmpT hm_3 rfl (q := 154) rfl ((tlt hc122).2.2.1) ?_
      show OEnds own_P 3 154 [.val (.ref 1), .unset, .unset, .val (.int v3), .val (.int v4), .val (.int v5), .val (.int v6), .unset, .unset, .unset, .unset] [] (c0 :: bk0 p0_oSide p0_oPrice p0_oRem p0_oFilled p0_oStatus p0_oStamp p0_oTop p0_restIds p0_fIds p0_fQty p0_fPrice p0_lvlIds p0_lvlR p0_lvlA p0_minAlloc p0_topCap p0_accepted p0_stampCounter p0_restN p0_fN p0_lvlN po) _
      exact hk154 h
    · simp only [if_neg hc122] at h
      refine OEnds.icmpF hm_3 rfl ((flt hc122).2.2.1) ?_
      refine OEnds.adv hm_3 2 (pc' := 49) (L' := [.val (.ref 1), .unset, .unset, .val (.int v3), .val (.int v4), .val (.int v5), .val (.int v6), .unset, .unset, .unset, .unset]) (S' := [.int v6, .ref 1]) (H' := (c0 :: bk0 p0_oSide p0_oPrice p0_oRem p0_oFilled p0_oStatus p0_oStamp p0_oTop p0_restIds p0_fIds p0_fQty p0_fPrice p0_lvlIds p0_lvlR p0_lvlA p0_minAlloc p0_topCap p0_accepted p0_stampCounter p0_restN p0_fN p0_lvlN po)) rfl ?_
      obtain ⟨r168, hq123, h⟩ := bnd h
      refine OEnds.call0 hm_3 rfl rfl (by decide) rfl (as := [.ref 1, .int v6]) (rest := []) rfl rfl (ok_status hq123) ?_
      refine OEnds.adv hm_3 3 (pc' := 57) (L' := [.val (.ref 1), .unset, .unset, .val (.int v3), .val (.int v4), .val (.int v5), .val (.int v6), .val (.int r168), .unset, .unset, .unset]) (S' := [.int v6, .ref 1]) (H' := (c0 :: bk0 p0_oSide p0_oPrice p0_oRem p0_oFilled p0_oStatus p0_oStamp p0_oTop p0_restIds p0_fIds p0_fQty p0_fPrice p0_lvlIds p0_lvlR p0_lvlA p0_minAlloc p0_topCap p0_accepted p0_stampCounter p0_restN p0_fN p0_lvlN po)) rfl ?_
      obtain ⟨r169, hq124, h⟩ := bnd h
      refine OEnds.call0 hm_3 rfl rfl (by decide) rfl (as := [.ref 1, .int v6]) (rest := []) rfl rfl (ok_remaining hq124) ?_
      refine OEnds.adv hm_3 3 (pc' := 65) (L' := [.val (.ref 1), .unset, .unset, .val (.int v3), .val (.int v4), .val (.int v5), .val (.int v6), .val (.int r168), .val (.int r169), .unset, .unset]) (S' := [.int v6, .ref 1]) (H' := (c0 :: bk0 p0_oSide p0_oPrice p0_oRem p0_oFilled p0_oStatus p0_oStamp p0_oTop p0_restIds p0_fIds p0_fQty p0_fPrice p0_lvlIds p0_lvlR p0_lvlA p0_minAlloc p0_topCap p0_accepted p0_stampCounter p0_restN p0_fN p0_lvlN po)) rfl ?_
      obtain ⟨r170, hq125, h⟩ := bnd h
      refine OEnds.call0 hm_3 rfl rfl (by decide) rfl (as := [.ref 1, .int v6]) (rest := []) rfl rfl (ok_priorityRank hq125) ?_
      refine OEnds.adv hm_3 3 (pc' := 73) (L' := [.val (.ref 1), .unset, .unset, .val (.int v3), .val (.int v4), .val (.int v5), .val (.int v6), .val (.int r168), .val (.int r169), .val (.int r170), .unset]) (S' := [.int v6, .ref 1]) (H' := (c0 :: bk0 p0_oSide p0_oPrice p0_oRem p0_oFilled p0_oStatus p0_oStamp p0_oTop p0_restIds p0_fIds p0_fQty p0_fPrice p0_lvlIds p0_lvlR p0_lvlA p0_minAlloc p0_topCap p0_accepted p0_stampCounter p0_restN p0_fN p0_lvlN po)) rfl ?_
      obtain ⟨r171, hq126, h⟩ := bnd h
      refine OEnds.call0 hm_3 rfl rfl (by decide) rfl (as := [.ref 1, .int v6]) (rest := []) rfl rfl (ok_isTop hq126) ?_
      refine OEnds.adv hm_3 3 (pc' := 81) (L' := [.val (.ref 1), .unset, .unset, .val (.int v3), .val (.int v4), .val (.int v5), .val (.int v6), .val (.int r168), .val (.int r169), .val (.int r170), .val (.int r171)]) (S' := [.int 1, .int r168]) (H' := (c0 :: bk0 p0_oSide p0_oPrice p0_oRem p0_oFilled p0_oStatus p0_oStamp p0_oTop p0_restIds p0_fIds p0_fQty p0_fPrice p0_lvlIds p0_lvlR p0_lvlA p0_minAlloc p0_topCap p0_accepted p0_stampCounter p0_restN p0_fN p0_lvlN po)) rfl ?_
      by_cases hc127 : r168 = (1 : Int32)
      · simp only [if_pos hc127] at h
        refine OEnds.icmpF hm_3 rfl ((teq hc127).2) ?_
        refine OEnds.adv hm_3 2 (pc' := 87) (L' := [.val (.ref 1), .unset, .unset, .val (.int v3), .val (.int v4), .val (.int v5), .val (.int v6), .val (.int r168), .val (.int r169), .val (.int r170), .val (.int r171)]) (S' := [.int 1, .int r169]) (H' := (c0 :: bk0 p0_oSide p0_oPrice p0_oRem p0_oFilled p0_oStatus p0_oStamp p0_oTop p0_restIds p0_fIds p0_fQty p0_fPrice p0_lvlIds p0_lvlR p0_lvlA p0_minAlloc p0_topCap p0_accepted p0_stampCounter p0_restN p0_fN p0_lvlN po)) rfl ?_
        by_cases hc128 : r169 < (1 : Int32)
        · simp only [if_pos hc128] at h
          refine OEnds.icmpT hm_3 rfl (q := 103) rfl ((tlt hc128).1) ?_
          refine OEnds.adv hm_3 1 (pc' := 104) (L' := [.val (.ref 1), .unset, .unset, .val (.int v3), .val (.int v4), .val (.int v5), .val (.int v6), .val (.int r168), .val (.int r169), .val (.int r170), .val (.int r171)]) (S' := [.int 0]) (H' := (c0 :: bk0 p0_oSide p0_oPrice p0_oRem p0_oFilled p0_oStatus p0_oStamp p0_oTop p0_restIds p0_fIds p0_fQty p0_fPrice p0_lvlIds p0_lvlR p0_lvlA p0_minAlloc p0_topCap p0_accepted p0_stampCounter p0_restN p0_fN p0_lvlN po)) rfl ?_
          cases h
          exact OEnds.iret hm_3 rfl rfl
        · simp only [if_neg hc128] at h
          refine OEnds.icmpF hm_3 rfl ((flt hc128).1) ?_
          refine OEnds.adv hm_3 2 (pc' := 95) (L' := [.val (.ref 1), .unset, .unset, .val (.int v3), .val (.int v4), .val (.int v5), .val (.int v6), .val (.int r168), .val (.int r169), .val (.int r170), .val (.int r171)]) (S' := [.int 10000, .int r169]) (H' := (c0 :: bk0 p0_oSide p0_oPrice p0_oRem p0_oFilled p0_oStatus p0_oStamp p0_oTop p0_restIds p0_fIds p0_fQty p0_fPrice p0_lvlIds p0_lvlR p0_lvlA p0_minAlloc p0_topCap p0_accepted p0_stampCounter p0_restN p0_fN p0_lvlN po)) rfl ?_
          by_cases hc129 : (10000 : Int32) < r169
          · simp only [if_pos hc129] at h
            refine OEnds.icmpT hm_3 rfl (q := 103) rfl ((tlt hc129).2.2.1) ?_
            refine OEnds.adv hm_3 1 (pc' := 104) (L' := [.val (.ref 1), .unset, .unset, .val (.int v3), .val (.int v4), .val (.int v5), .val (.int v6), .val (.int r168), .val (.int r169), .val (.int r170), .val (.int r171)]) (S' := [.int 0]) (H' := (c0 :: bk0 p0_oSide p0_oPrice p0_oRem p0_oFilled p0_oStatus p0_oStamp p0_oTop p0_restIds p0_fIds p0_fQty p0_fPrice p0_lvlIds p0_lvlR p0_lvlA p0_minAlloc p0_topCap p0_accepted p0_stampCounter p0_restN p0_fN p0_lvlN po)) rfl ?_
            cases h
            exact OEnds.iret hm_3 rfl rfl
          · simp only [if_neg hc129] at h
            refine OEnds.icmpF hm_3 rfl ((flt hc129).2.2.1) ?_
            refine OEnds.adv hm_3 1 (pc' := 100) (L' := [.val (.ref 1), .unset, .unset, .val (.int v3), .val (.int v4), .val (.int v5), .val (.int v6), .val (.int r168), .val (.int r169), .val (.int r170), .val (.int r171)]) (S' := [.int r170]) (H' := (c0 :: bk0 p0_oSide p0_oPrice p0_oRem p0_oFilled p0_oStatus p0_oStamp p0_oTop p0_restIds p0_fIds p0_fQty p0_fPrice p0_lvlIds p0_lvlR p0_lvlA p0_minAlloc p0_topCap p0_accepted p0_stampCounter p0_restN p0_fN p0_lvlN po)) rfl ?_
            by_cases hc130 : r170 < (0 : Int32)
            · simp only [if_pos hc130] at h
              refine OEnds.ifF hm_3 rfl ((tlt hc130).2.1) ?_
              refine OEnds.adv hm_3 1 (pc' := 104) (L' := [.val (.ref 1), .unset, .unset, .val (.int v3), .val (.int v4), .val (.int v5), .val (.int v6), .val (.int r168), .val (.int r169), .val (.int r170), .val (.int r171)]) (S' := [.int 0]) (H' := (c0 :: bk0 p0_oSide p0_oPrice p0_oRem p0_oFilled p0_oStatus p0_oStamp p0_oTop p0_restIds p0_fIds p0_fQty p0_fPrice p0_lvlIds p0_lvlR p0_lvlA p0_minAlloc p0_topCap p0_accepted p0_stampCounter p0_restN p0_fN p0_lvlN po)) rfl ?_
              cases h
              exact OEnds.iret hm_3 rfl rfl
            · simp only [if_neg hc130] at h
              refine OEnds.ifT hm_3 rfl (q := 105) rfl ((flt hc130).2.1) ?_
              refine OEnds.adv hm_3 2 (pc' := 110) (L' := [.val (.ref 1), .unset, .unset, .val (.int (v3 + (1 : Int32))), .val (.int v4), .val (.int v5), .val (.int v6), .val (.int r168), .val (.int r169), .val (.int r170), .val (.int r171)]) (S' := [.int r171]) (H' := (c0 :: bk0 p0_oSide p0_oPrice p0_oRem p0_oFilled p0_oStatus p0_oStamp p0_oTop p0_restIds p0_fIds p0_fQty p0_fPrice p0_lvlIds p0_lvlR p0_lvlA p0_minAlloc p0_topCap p0_accepted p0_stampCounter p0_restN p0_fN p0_lvlN po)) rfl ?_
              by_cases hc131 : r171 = (0 : Int32)
              · simp only [if_pos hc131] at h
                refine OEnds.ifT hm_3 rfl (q := 137) rfl ((teq hc131).1) ?_
                show OEnds own_P 3 137 [.val (.ref 1), .unset, .unset, .val (.int (v3 + (1 : Int32))), .val (.int v4), .val (.int v5), .val (.int v6), .val (.int r168), .val (.int r169), .val (.int r170), .val (.int r171)] [] (c0 :: bk0 p0_oSide p0_oPrice p0_oRem p0_oFilled p0_oStatus p0_oStamp p0_oTop p0_restIds p0_fIds p0_fQty p0_fPrice p0_lvlIds p0_lvlR p0_lvlA p0_minAlloc p0_topCap p0_accepted p0_stampCounter p0_restN p0_fN p0_lvlN po) _
                exact ok_L_ok_137 ih hk154 h
              · simp only [if_neg hc131] at h
                refine OEnds.ifF hm_3 rfl ((feq hc131).1) ?_
                refine OEnds.adv hm_3 2 (pc' := 137) (L' := [.val (.ref 1), .unset, .unset, .val (.int (v3 + (1 : Int32))), .val (.int (v4 + (1 : Int32))), .val (.int v5), .val (.int v6), .val (.int r168), .val (.int r169), .val (.int r170), .val (.int r171)]) (S' := []) (H' := (c0 :: bk0 p0_oSide p0_oPrice p0_oRem p0_oFilled p0_oStatus p0_oStamp p0_oTop p0_restIds p0_fIds p0_fQty p0_fPrice p0_lvlIds p0_lvlR p0_lvlA p0_minAlloc p0_topCap p0_accepted p0_stampCounter p0_restN p0_fN p0_lvlN po)) rfl ?_
                exact ok_L_ok_137 ih hk154 h
      · simp only [if_neg hc127] at h
        refine OEnds.icmpT hm_3 rfl (q := 119) rfl ((feq hc127).2) ?_
        refine OEnds.adv hm_3 1 (pc' := 121) (L' := [.val (.ref 1), .unset, .unset, .val (.int v3), .val (.int v4), .val (.int v5), .val (.int v6), .val (.int r168), .val (.int r169), .val (.int r170), .val (.int r171)]) (S' := [.int r169]) (H' := (c0 :: bk0 p0_oSide p0_oPrice p0_oRem p0_oFilled p0_oStatus p0_oStamp p0_oTop p0_restIds p0_fIds p0_fQty p0_fPrice p0_lvlIds p0_lvlR p0_lvlA p0_minAlloc p0_topCap p0_accepted p0_stampCounter p0_restN p0_fN p0_lvlN po)) rfl ?_
        by_cases hc132 : r169 = (0 : Int32)
        · simp only [if_pos hc132] at h
          refine OEnds.ifF hm_3 rfl ((teq hc132).2) ?_
          refine OEnds.adv hm_3 2 (pc' := 127) (L' := [.val (.ref 1), .unset, .unset, .val (.int v3), .val (.int v4), .val (.int v5), .val (.int v6), .val (.int r168), .val (.int r169), .val (.int r170), .val (.int r171)]) (S' := [.int (-1), .int r170]) (H' := (c0 :: bk0 p0_oSide p0_oPrice p0_oRem p0_oFilled p0_oStatus p0_oStamp p0_oTop p0_restIds p0_fIds p0_fQty p0_fPrice p0_lvlIds p0_lvlR p0_lvlA p0_minAlloc p0_topCap p0_accepted p0_stampCounter p0_restN p0_fN p0_lvlN po)) rfl ?_
          by_cases hc133 : r170 = (-1 : Int32)
          · simp only [if_pos hc133] at h
            refine OEnds.icmpF hm_3 rfl ((teq hc133).2) ?_
            refine OEnds.adv hm_3 1 (pc' := 132) (L' := [.val (.ref 1), .unset, .unset, .val (.int v3), .val (.int v4), .val (.int v5), .val (.int v6), .val (.int r168), .val (.int r169), .val (.int r170), .val (.int r171)]) (S' := [.int r171]) (H' := (c0 :: bk0 p0_oSide p0_oPrice p0_oRem p0_oFilled p0_oStatus p0_oStamp p0_oTop p0_restIds p0_fIds p0_fQty p0_fPrice p0_lvlIds p0_lvlR p0_lvlA p0_minAlloc p0_topCap p0_accepted p0_stampCounter p0_restN p0_fN p0_lvlN po)) rfl ?_
            by_cases hc134 : r171 = (0 : Int32)
            · simp only [if_pos hc134] at h
              refine OEnds.ifT hm_3 rfl (q := 137) rfl ((teq hc134).1) ?_
              show OEnds own_P 3 137 [.val (.ref 1), .unset, .unset, .val (.int v3), .val (.int v4), .val (.int v5), .val (.int v6), .val (.int r168), .val (.int r169), .val (.int r170), .val (.int r171)] [] (c0 :: bk0 p0_oSide p0_oPrice p0_oRem p0_oFilled p0_oStatus p0_oStamp p0_oTop p0_restIds p0_fIds p0_fQty p0_fPrice p0_lvlIds p0_lvlR p0_lvlA p0_minAlloc p0_topCap p0_accepted p0_stampCounter p0_restN p0_fN p0_lvlN po) _
              exact ok_L_ok_137 ih hk154 h
            · simp only [if_neg hc134] at h
              refine OEnds.ifF hm_3 rfl ((feq hc134).1) ?_
              refine OEnds.adv hm_3 1 (pc' := 136) (L' := [.val (.ref 1), .unset, .unset, .val (.int v3), .val (.int v4), .val (.int v5), .val (.int v6), .val (.int r168), .val (.int r169), .val (.int r170), .val (.int r171)]) (S' := [.int 0]) (H' := (c0 :: bk0 p0_oSide p0_oPrice p0_oRem p0_oFilled p0_oStatus p0_oStamp p0_oTop p0_restIds p0_fIds p0_fQty p0_fPrice p0_lvlIds p0_lvlR p0_lvlA p0_minAlloc p0_topCap p0_accepted p0_stampCounter p0_restN p0_fN p0_lvlN po)) rfl ?_
              cases h
              exact OEnds.iret hm_3 rfl rfl
          · simp only [if_neg hc133] at h
            refine OEnds.icmpT hm_3 rfl (q := 135) rfl ((feq hc133).2) ?_
            refine OEnds.adv hm_3 1 (pc' := 136) (L' := [.val (.ref 1), .unset, .unset, .val (.int v3), .val (.int v4), .val (.int v5), .val (.int v6), .val (.int r168), .val (.int r169), .val (.int r170), .val (.int r171)]) (S' := [.int 0]) (H' := (c0 :: bk0 p0_oSide p0_oPrice p0_oRem p0_oFilled p0_oStatus p0_oStamp p0_oTop p0_restIds p0_fIds p0_fQty p0_fPrice p0_lvlIds p0_lvlR p0_lvlA p0_minAlloc p0_topCap p0_accepted p0_stampCounter p0_restN p0_fN p0_lvlN po)) rfl ?_
            cases h
            exact OEnds.iret hm_3 rfl rfl
        · simp only [if_neg hc132] at h
          refine OEnds.ifT hm_3 rfl (q := 135) rfl ((feq hc132).2) ?_
          refine OEnds.adv hm_3 1 (pc' := 136) (L' := [.val (.ref 1), .unset, .unset, .val (.int v3), .val (.int v4), .val (.int v5), .val (.int v6), .val (.int r168), .val (.int r169), .val (.int r170), .val (.int r171)]) (S' := [.int 0]) (H' := (c0 :: bk0 p0_oSide p0_oPrice p0_oRem p0_oFilled p0_oStatus p0_oStamp p0_oTop p0_restIds p0_fIds p0_fQty p0_fPrice p0_lvlIds p0_lvlR p0_lvlA p0_minAlloc p0_topCap p0_accepted p0_stampCounter p0_restN p0_fN p0_lvlN po)) rfl ?_
          cases h
          exact OEnds.iret hm_3 rfl rfl
theorem ok_L_ok_27 {p0_oSide : List Int32} {p0_oPrice : List Int32} {p0_oRem : List Int32} {p0_oFilled : List Int32} {p0_oStatus : List Int32} {p0_oStamp : List Int64} {p0_oTop : List Int32} {p0_restIds : List Int32} {p0_fIds : List Int32} {p0_fQty : List Int32} {p0_fPrice : List Int32} {p0_lvlIds : List Int32} {p0_lvlR : List Int32} {p0_lvlA : List Int32} {p0_minAlloc : Int32} {p0_topCap : Int32} {p0_accepted : Int32} {p0_stampCounter : Int64} {p0_restN : Int32} {p0_fN : Int32} {p0_lvlN : Int32} {c0 : ACell} {po : List ACell} : ∀ {d1 d2 d3 d4 d5 d6 d7 d8 d9 d10 : Slot} {res : Int32}, f_L_ok_27 p0_oSide p0_oPrice p0_oRem p0_oFilled p0_oStatus p0_oStamp p0_oTop p0_restIds p0_accepted p0_restN = some res → OEnds own_P 3 27 [.val (.ref 1), d1, d2, d3, d4, d5, d6, d7, d8, d9, d10] [] (c0 :: bk0 p0_oSide p0_oPrice p0_oRem p0_oFilled p0_oStatus p0_oStamp p0_oTop p0_restIds p0_fIds p0_fQty p0_fPrice p0_lvlIds p0_lvlR p0_lvlA p0_minAlloc p0_topCap p0_accepted p0_stampCounter p0_restN p0_fN p0_lvlN po) (some (.int res), (c0 :: bk0 p0_oSide p0_oPrice p0_oRem p0_oFilled p0_oStatus p0_oStamp p0_oTop p0_restIds p0_fIds p0_fQty p0_fPrice p0_lvlIds p0_lvlR p0_lvlA p0_minAlloc p0_topCap p0_accepted p0_stampCounter p0_restN p0_fN p0_lvlN po), 0, 0) := by
  intro d1 d2 d3 d4 d5 d6 d7 d8 d9 d10 res h
  unfold f_L_ok_27 at h
  refine OEnds.adv hm_3 8 (pc' := 38) (L' := [.val (.ref 1), .unset, .unset, .val (.int 0), .val (.int 0), .val (.int 0), .val (.int 1), .unset, .unset, .unset, .unset]) (S' := []) (H' := (c0 :: bk0 p0_oSide p0_oPrice p0_oRem p0_oFilled p0_oStatus p0_oStamp p0_oTop p0_restIds p0_fIds p0_fQty p0_fPrice p0_lvlIds p0_lvlR p0_lvlA p0_minAlloc p0_topCap p0_accepted p0_stampCounter p0_restN p0_fN p0_lvlN po)) rfl ?_
  exact ok_L_ok_38 (k154 := f_L_ok_154 p0_oSide p0_oPrice p0_oRem p0_oFilled p0_oStatus p0_oStamp p0_oTop p0_restIds p0_accepted p0_restN) ok_L_ok_154 100000 h
theorem ok_L_ok {p0_oSide : List Int32} {p0_oPrice : List Int32} {p0_oRem : List Int32} {p0_oFilled : List Int32} {p0_oStatus : List Int32} {p0_oStamp : List Int64} {p0_oTop : List Int32} {p0_restIds : List Int32} {p0_fIds : List Int32} {p0_fQty : List Int32} {p0_fPrice : List Int32} {p0_lvlIds : List Int32} {p0_lvlR : List Int32} {p0_lvlA : List Int32} {p0_minAlloc : Int32} {p0_topCap : Int32} {p0_accepted : Int32} {p0_stampCounter : Int64} {p0_restN : Int32} {p0_fN : Int32} {p0_lvlN : Int32} {c0 : ACell} {po : List ACell} {res : Int32} (h : f_L_ok p0_oSide p0_oPrice p0_oRem p0_oFilled p0_oStatus p0_oStamp p0_oTop p0_restIds p0_accepted p0_restN = some res) : OEnds own_P 3 0 [.val (.ref 1), .unset, .unset, .unset, .unset, .unset, .unset, .unset, .unset, .unset, .unset] [] (c0 :: bk0 p0_oSide p0_oPrice p0_oRem p0_oFilled p0_oStatus p0_oStamp p0_oTop p0_restIds p0_fIds p0_fQty p0_fPrice p0_lvlIds p0_lvlR p0_lvlA p0_minAlloc p0_topCap p0_accepted p0_stampCounter p0_restN p0_fN p0_lvlN po) (some (.int res), (c0 :: bk0 p0_oSide p0_oPrice p0_oRem p0_oFilled p0_oStatus p0_oStamp p0_oTop p0_restIds p0_fIds p0_fQty p0_fPrice p0_lvlIds p0_lvlR p0_lvlA p0_minAlloc p0_topCap p0_accepted p0_stampCounter p0_restN p0_fN p0_lvlN po), 0, 0) := by
  unfold f_L_ok at h
  refine OEnds.adv hm_3 2 (pc' := 2) (L' := [.val (.ref 1), .unset, .unset, .unset, .unset, .unset, .unset, .unset, .unset, .unset, .unset]) (S' := [.int 0, .ref 1]) (H' := (c0 :: bk0 p0_oSide p0_oPrice p0_oRem p0_oFilled p0_oStatus p0_oStamp p0_oTop p0_restIds p0_fIds p0_fQty p0_fPrice p0_lvlIds p0_lvlR p0_lvlA p0_minAlloc p0_topCap p0_accepted p0_stampCounter p0_restN p0_fN p0_lvlN po)) rfl ?_
  obtain ⟨r166, hq135, h⟩ := bnd h
  refine OEnds.call0 hm_3 rfl rfl (by decide) rfl (as := [.ref 1, .int 0]) (rest := []) rfl rfl (ok_bestPrice hq135) ?_
  refine OEnds.adv hm_3 3 (pc' := 8) (L' := [.val (.ref 1), .val (.int r166), .unset, .unset, .unset, .unset, .unset, .unset, .unset, .unset, .unset]) (S' := [.int 1, .ref 1]) (H' := (c0 :: bk0 p0_oSide p0_oPrice p0_oRem p0_oFilled p0_oStatus p0_oStamp p0_oTop p0_restIds p0_fIds p0_fQty p0_fPrice p0_lvlIds p0_lvlR p0_lvlA p0_minAlloc p0_topCap p0_accepted p0_stampCounter p0_restN p0_fN p0_lvlN po)) rfl ?_
  obtain ⟨r167, hq136, h⟩ := bnd h
  refine OEnds.call0 hm_3 rfl rfl (by decide) rfl (as := [.ref 1, .int 1]) (rest := []) rfl rfl (ok_bestPrice hq136) ?_
  refine OEnds.adv hm_3 2 (pc' := 13) (L' := [.val (.ref 1), .val (.int r166), .val (.int r167), .unset, .unset, .unset, .unset, .unset, .unset, .unset, .unset]) (S' := [.int r166]) (H' := (c0 :: bk0 p0_oSide p0_oPrice p0_oRem p0_oFilled p0_oStatus p0_oStamp p0_oTop p0_restIds p0_fIds p0_fQty p0_fPrice p0_lvlIds p0_lvlR p0_lvlA p0_minAlloc p0_topCap p0_accepted p0_stampCounter p0_restN p0_fN p0_lvlN po)) rfl ?_
  by_cases hc137 : r166 = (0 : Int32)
  · simp only [if_pos hc137] at h
    refine OEnds.ifT hm_3 rfl (q := 27) rfl ((teq hc137).1) ?_
    show OEnds own_P 3 27 [.val (.ref 1), .val (.int r166), .val (.int r167), .unset, .unset, .unset, .unset, .unset, .unset, .unset, .unset] [] (c0 :: bk0 p0_oSide p0_oPrice p0_oRem p0_oFilled p0_oStatus p0_oStamp p0_oTop p0_restIds p0_fIds p0_fQty p0_fPrice p0_lvlIds p0_lvlR p0_lvlA p0_minAlloc p0_topCap p0_accepted p0_stampCounter p0_restN p0_fN p0_lvlN po) _
    exact ok_L_ok_27 h
  · simp only [if_neg hc137] at h
    refine OEnds.ifF hm_3 rfl ((feq hc137).1) ?_
    refine OEnds.adv hm_3 1 (pc' := 17) (L' := [.val (.ref 1), .val (.int r166), .val (.int r167), .unset, .unset, .unset, .unset, .unset, .unset, .unset, .unset]) (S' := [.int r167]) (H' := (c0 :: bk0 p0_oSide p0_oPrice p0_oRem p0_oFilled p0_oStatus p0_oStamp p0_oTop p0_restIds p0_fIds p0_fQty p0_fPrice p0_lvlIds p0_lvlR p0_lvlA p0_minAlloc p0_topCap p0_accepted p0_stampCounter p0_restN p0_fN p0_lvlN po)) rfl ?_
    by_cases hc138 : r167 = (0 : Int32)
    · simp only [if_pos hc138] at h
      refine OEnds.ifT hm_3 rfl (q := 27) rfl ((teq hc138).1) ?_
      show OEnds own_P 3 27 [.val (.ref 1), .val (.int r166), .val (.int r167), .unset, .unset, .unset, .unset, .unset, .unset, .unset, .unset] [] (c0 :: bk0 p0_oSide p0_oPrice p0_oRem p0_oFilled p0_oStatus p0_oStamp p0_oTop p0_restIds p0_fIds p0_fQty p0_fPrice p0_lvlIds p0_lvlR p0_lvlA p0_minAlloc p0_topCap p0_accepted p0_stampCounter p0_restN p0_fN p0_lvlN po) _
      exact ok_L_ok_27 h
    · simp only [if_neg hc138] at h
      refine OEnds.ifF hm_3 rfl ((feq hc138).1) ?_
      refine OEnds.adv hm_3 2 (pc' := 22) (L' := [.val (.ref 1), .val (.int r166), .val (.int r167), .unset, .unset, .unset, .unset, .unset, .unset, .unset, .unset]) (S' := [.int r167, .int r166]) (H' := (c0 :: bk0 p0_oSide p0_oPrice p0_oRem p0_oFilled p0_oStatus p0_oStamp p0_oTop p0_restIds p0_fIds p0_fQty p0_fPrice p0_lvlIds p0_lvlR p0_lvlA p0_minAlloc p0_topCap p0_accepted p0_stampCounter p0_restN p0_fN p0_lvlN po)) rfl ?_
      by_cases hc139 : r166 < r167
      · simp only [if_pos hc139] at h
        refine OEnds.icmpT hm_3 rfl (q := 27) rfl ((tlt hc139).1) ?_
        show OEnds own_P 3 27 [.val (.ref 1), .val (.int r166), .val (.int r167), .unset, .unset, .unset, .unset, .unset, .unset, .unset, .unset] [] (c0 :: bk0 p0_oSide p0_oPrice p0_oRem p0_oFilled p0_oStatus p0_oStamp p0_oTop p0_restIds p0_fIds p0_fQty p0_fPrice p0_lvlIds p0_lvlR p0_lvlA p0_minAlloc p0_topCap p0_accepted p0_stampCounter p0_restN p0_fN p0_lvlN po) _
        exact ok_L_ok_27 h
      · simp only [if_neg hc139] at h
        refine OEnds.icmpF hm_3 rfl ((flt hc139).1) ?_
        refine OEnds.adv hm_3 1 (pc' := 26) (L' := [.val (.ref 1), .val (.int r166), .val (.int r167), .unset, .unset, .unset, .unset, .unset, .unset, .unset, .unset]) (S' := [.int 0]) (H' := (c0 :: bk0 p0_oSide p0_oPrice p0_oRem p0_oFilled p0_oStatus p0_oStamp p0_oTop p0_restIds p0_fIds p0_fQty p0_fPrice p0_lvlIds p0_lvlR p0_lvlA p0_minAlloc p0_topCap p0_accepted p0_stampCounter p0_restN p0_fN p0_lvlN po)) rfl ?_
        cases h
        exact OEnds.iret hm_3 rfl rfl
theorem ok_L_law_130 {scr : List Int32} : ∀ {n0_oSide : List Int32} {n0_oPrice : List Int32} {n0_oRem : List Int32} {n0_oFilled : List Int32} {n0_oStatus : List Int32} {n0_oStamp : List Int64} {n0_oTop : List Int32} {n0_restIds : List Int32} {n0_accepted : Int32} {n0_restN : Int32} {n0_minAlloc : Int32} {n0_topCap : Int32} {n0_stampCounter : Int64} {n0_fN : Int32} {n0_lvlN : Int32} {n0_fIds : List Int32} {n0_fQty : List Int32} {n0_fPrice : List Int32} {n0_lvlIds : List Int32} {n0_lvlR : List Int32} {n0_lvlA : List Int32} {d0 d2 d3 d4 d5 d6 d7 d8 : Slot} {res : Int32}, f_L_law_130 scr n0_oSide n0_oPrice n0_oRem n0_oFilled n0_oStatus n0_oStamp n0_oTop n0_restIds n0_accepted n0_restN = some res → OEndsQ own_P 0 130 [d0, .val (.ref 1), d2, d3, d4, d5, d6, d7, d8] [] ((.inr (.inl (false, scr)) : ACell) :: bk0 n0_oSide n0_oPrice n0_oRem n0_oFilled n0_oStatus n0_oStamp n0_oTop n0_restIds n0_fIds n0_fQty n0_fPrice n0_lvlIds n0_lvlR n0_lvlA n0_minAlloc n0_topCap n0_accepted n0_stampCounter n0_restN n0_fN n0_lvlN []) (LawQ res 0 0) := by
  intro n0_oSide n0_oPrice n0_oRem n0_oFilled n0_oStatus n0_oStamp n0_oTop n0_restIds n0_accepted n0_restN n0_minAlloc n0_topCap n0_stampCounter n0_fN n0_lvlN n0_fIds n0_fQty n0_fPrice n0_lvlIds n0_lvlR n0_lvlA d0 d2 d3 d4 d5 d6 d7 d8 res h
  unfold f_L_law_130 at h
  refine OEndsQ.adv hm_0 1 (pc' := 131) (L' := [.unset, .val (.ref 1), .unset, .unset, .unset, .unset, .unset, .unset, .unset]) (S' := [.ref 1]) (H' := ((.inr (.inl (false, scr)) : ACell) :: bk0 n0_oSide n0_oPrice n0_oRem n0_oFilled n0_oStatus n0_oStamp n0_oTop n0_restIds n0_fIds n0_fQty n0_fPrice n0_lvlIds n0_lvlR n0_lvlA n0_minAlloc n0_topCap n0_accepted n0_stampCounter n0_restN n0_fN n0_lvlN [])) rfl ?_
  obtain ⟨r232, hq140, h⟩ := bnd h
  refine OEndsQ.call0 hm_0 rfl rfl (by decide) rfl (as := [.ref 1]) (rest := []) rfl rfl (ok_L_ok hq140) ?_
  show OEndsQ own_P 0 134 [.unset, .val (.ref 1), .unset, .unset, .unset, .unset, .unset, .unset, .unset] [.int r232] ((.inr (.inl (false, scr)) : ACell) :: bk0 n0_oSide n0_oPrice n0_oRem n0_oFilled n0_oStatus n0_oStamp n0_oTop n0_restIds n0_fIds n0_fQty n0_fPrice n0_lvlIds n0_lvlR n0_lvlA n0_minAlloc n0_topCap n0_accepted n0_stampCounter n0_restN n0_fN n0_lvlN []) _
  cases h
  exact OEndsQ.iret hm_0 rfl rfl
theorem ok_L_law_115 {scr : List Int32} {kb : List Int32 → List Int32 → List Int32 → List Int32 → List Int32 → List Int64 → List Int32 → List Int32 → List Int32 → List Int32 → List Int32 → List Int32 → List Int32 → List Int32 → Int32 → Int32 → Int32 → Int64 → Int32 → Int32 → Int32 → Int32 → Int32 → Option (Int32)} {k130 : List Int32 → List Int32 → List Int32 → List Int32 → List Int32 → List Int64 → List Int32 → List Int32 → Int32 → Int32 → Option (Int32)} (hkb : ∀ {n0_oSide : List Int32} {n0_oPrice : List Int32} {n0_oRem : List Int32} {n0_oFilled : List Int32} {n0_oStatus : List Int32} {n0_oStamp : List Int64} {n0_oTop : List Int32} {n0_restIds : List Int32} {n0_fIds : List Int32} {n0_fQty : List Int32} {n0_fPrice : List Int32} {n0_lvlIds : List Int32} {n0_lvlR : List Int32} {n0_lvlA : List Int32} {n0_minAlloc : Int32} {n0_topCap : Int32} {n0_accepted : Int32} {n0_stampCounter : Int64} {n0_restN : Int32} {n0_fN : Int32} {n0_lvlN : Int32} {v2 : Int32} {v3 : Int32} {d4 d5 d6 d7 d8 : Slot} {res : Int32}, kb n0_oSide n0_oPrice n0_oRem n0_oFilled n0_oStatus n0_oStamp n0_oTop n0_restIds n0_fIds n0_fQty n0_fPrice n0_lvlIds n0_lvlR n0_lvlA n0_minAlloc n0_topCap n0_accepted n0_stampCounter n0_restN n0_fN n0_lvlN v2 v3 = some res → OEndsQ own_P 0 18 [.val (.ref 0), .val (.ref 1), .val (.int v2), .val (.int v3), d4, d5, d6, d7, d8] [] ((.inr (.inl (false, scr)) : ACell) :: bk0 n0_oSide n0_oPrice n0_oRem n0_oFilled n0_oStatus n0_oStamp n0_oTop n0_restIds n0_fIds n0_fQty n0_fPrice n0_lvlIds n0_lvlR n0_lvlA n0_minAlloc n0_topCap n0_accepted n0_stampCounter n0_restN n0_fN n0_lvlN []) (LawQ res 0 0)) (hk130 : ∀ {n0_oSide : List Int32} {n0_oPrice : List Int32} {n0_oRem : List Int32} {n0_oFilled : List Int32} {n0_oStatus : List Int32} {n0_oStamp : List Int64} {n0_oTop : List Int32} {n0_restIds : List Int32} {n0_accepted : Int32} {n0_restN : Int32} {n0_minAlloc : Int32} {n0_topCap : Int32} {n0_stampCounter : Int64} {n0_fN : Int32} {n0_lvlN : Int32} {n0_fIds : List Int32} {n0_fQty : List Int32} {n0_fPrice : List Int32} {n0_lvlIds : List Int32} {n0_lvlR : List Int32} {n0_lvlA : List Int32} {d0 d2 d3 d4 d5 d6 d7 d8 : Slot} {res : Int32}, k130 n0_oSide n0_oPrice n0_oRem n0_oFilled n0_oStatus n0_oStamp n0_oTop n0_restIds n0_accepted n0_restN = some res → OEndsQ own_P 0 130 [d0, .val (.ref 1), d2, d3, d4, d5, d6, d7, d8] [] ((.inr (.inl (false, scr)) : ACell) :: bk0 n0_oSide n0_oPrice n0_oRem n0_oFilled n0_oStatus n0_oStamp n0_oTop n0_restIds n0_fIds n0_fQty n0_fPrice n0_lvlIds n0_lvlR n0_lvlA n0_minAlloc n0_topCap n0_accepted n0_stampCounter n0_restN n0_fN n0_lvlN []) (LawQ res 0 0)) : ∀ {n0_oSide : List Int32} {n0_oPrice : List Int32} {n0_oRem : List Int32} {n0_oFilled : List Int32} {n0_oStatus : List Int32} {n0_oStamp : List Int64} {n0_oTop : List Int32} {n0_restIds : List Int32} {n0_fIds : List Int32} {n0_fQty : List Int32} {n0_fPrice : List Int32} {n0_lvlIds : List Int32} {n0_lvlR : List Int32} {n0_lvlA : List Int32} {n0_minAlloc : Int32} {n0_topCap : Int32} {n0_accepted : Int32} {n0_stampCounter : Int64} {n0_restN : Int32} {n0_fN : Int32} {n0_lvlN : Int32} {v2 : Int32} {v3 : Int32} {d4 d5 d6 d7 d8 : Slot} {res : Int32}, f_L_law_115 kb k130 scr n0_oSide n0_oPrice n0_oRem n0_oFilled n0_oStatus n0_oStamp n0_oTop n0_restIds n0_fIds n0_fQty n0_fPrice n0_lvlIds n0_lvlR n0_lvlA n0_minAlloc n0_topCap n0_accepted n0_stampCounter n0_restN n0_fN n0_lvlN v2 v3 = some res → OEndsQ own_P 0 115 [.val (.ref 0), .val (.ref 1), .val (.int v2), .val (.int v3), d4, d5, d6, d7, d8] [] ((.inr (.inl (false, scr)) : ACell) :: bk0 n0_oSide n0_oPrice n0_oRem n0_oFilled n0_oStatus n0_oStamp n0_oTop n0_restIds n0_fIds n0_fQty n0_fPrice n0_lvlIds n0_lvlR n0_lvlA n0_minAlloc n0_topCap n0_accepted n0_stampCounter n0_restN n0_fN n0_lvlN []) (LawQ res 0 0) := by
  intro n0_oSide n0_oPrice n0_oRem n0_oFilled n0_oStatus n0_oStamp n0_oTop n0_restIds n0_fIds n0_fQty n0_fPrice n0_lvlIds n0_lvlR n0_lvlA n0_minAlloc n0_topCap n0_accepted n0_stampCounter n0_restN n0_fN n0_lvlN v2 v3 d4 d5 d6 d7 d8 res h
  unfold f_L_law_115 at h
  refine OEndsQ.adv hm_0 1 (pc' := 116) (L' := [.val (.ref 0), .val (.ref 1), .val (.int v2), .val (.int v3), .unset, .unset, .unset, .unset, .unset]) (S' := [.ref 1]) (H' := ((.inr (.inl (false, scr)) : ACell) :: bk0 n0_oSide n0_oPrice n0_oRem n0_oFilled n0_oStatus n0_oStamp n0_oTop n0_restIds n0_fIds n0_fQty n0_fPrice n0_lvlIds n0_lvlR n0_lvlA n0_minAlloc n0_topCap n0_accepted n0_stampCounter n0_restN n0_fN n0_lvlN [])) rfl ?_
  obtain ⟨r231, hq141, h⟩ := bnd h
  refine OEndsQ.call0 hm_0 rfl rfl (by decide) rfl (as := [.ref 1]) (rest := []) rfl rfl (ok_L_ok hq141) ?_
  show OEndsQ own_P 0 119 [.val (.ref 0), .val (.ref 1), .val (.int v2), .val (.int v3), .unset, .unset, .unset, .unset, .unset] [.int r231] ((.inr (.inl (false, scr)) : ACell) :: bk0 n0_oSide n0_oPrice n0_oRem n0_oFilled n0_oStatus n0_oStamp n0_oTop n0_restIds n0_fIds n0_fQty n0_fPrice n0_lvlIds n0_lvlR n0_lvlA n0_minAlloc n0_topCap n0_accepted n0_stampCounter n0_restN n0_fN n0_lvlN []) _
  by_cases hc142 : r231 = (0 : Int32)
  · simp only [if_pos hc142] at h
    refine OEndsQ.ifF hm_0 rfl ((teq hc142).2) ?_
    refine OEndsQ.adv hm_0 1 (pc' := 123) (L' := [.val (.ref 0), .val (.ref 1), .val (.int v2), .val (.int v3), .unset, .unset, .unset, .unset, .unset]) (S' := [.int 0]) (H' := ((.inr (.inl (false, scr)) : ACell) :: bk0 n0_oSide n0_oPrice n0_oRem n0_oFilled n0_oStatus n0_oStamp n0_oTop n0_restIds n0_fIds n0_fQty n0_fPrice n0_lvlIds n0_lvlR n0_lvlA n0_minAlloc n0_topCap n0_accepted n0_stampCounter n0_restN n0_fN n0_lvlN [])) rfl ?_
    cases h
    exact OEndsQ.iret hm_0 rfl rfl
  · simp only [if_neg hc142] at h
    refine OEndsQ.ifT hm_0 rfl (q := 124) rfl ((feq hc142).2) ?_
    refine OEndsQ.adv hm_0 2 (pc' := 18) (L' := [.val (.ref 0), .val (.ref 1), .val (.int v2), .val (.int (v3 + (1 : Int32))), .unset, .unset, .unset, .unset, .unset]) (S' := []) (H' := ((.inr (.inl (false, scr)) : ACell) :: bk0 n0_oSide n0_oPrice n0_oRem n0_oFilled n0_oStatus n0_oStamp n0_oTop n0_restIds n0_fIds n0_fQty n0_fPrice n0_lvlIds n0_lvlR n0_lvlA n0_minAlloc n0_topCap n0_accepted n0_stampCounter n0_restN n0_fN n0_lvlN [])) rfl ?_
    exact hkb h
theorem ok_L_law_18 {scr : List Int32} {k130 : List Int32 → List Int32 → List Int32 → List Int32 → List Int32 → List Int64 → List Int32 → List Int32 → Int32 → Int32 → Option (Int32)} (hk130 : ∀ {n0_oSide : List Int32} {n0_oPrice : List Int32} {n0_oRem : List Int32} {n0_oFilled : List Int32} {n0_oStatus : List Int32} {n0_oStamp : List Int64} {n0_oTop : List Int32} {n0_restIds : List Int32} {n0_accepted : Int32} {n0_restN : Int32} {n0_minAlloc : Int32} {n0_topCap : Int32} {n0_stampCounter : Int64} {n0_fN : Int32} {n0_lvlN : Int32} {n0_fIds : List Int32} {n0_fQty : List Int32} {n0_fPrice : List Int32} {n0_lvlIds : List Int32} {n0_lvlR : List Int32} {n0_lvlA : List Int32} {d0 d2 d3 d4 d5 d6 d7 d8 : Slot} {res : Int32}, k130 n0_oSide n0_oPrice n0_oRem n0_oFilled n0_oStatus n0_oStamp n0_oTop n0_restIds n0_accepted n0_restN = some res → OEndsQ own_P 0 130 [d0, .val (.ref 1), d2, d3, d4, d5, d6, d7, d8] [] ((.inr (.inl (false, scr)) : ACell) :: bk0 n0_oSide n0_oPrice n0_oRem n0_oFilled n0_oStatus n0_oStamp n0_oTop n0_restIds n0_fIds n0_fQty n0_fPrice n0_lvlIds n0_lvlR n0_lvlA n0_minAlloc n0_topCap n0_accepted n0_stampCounter n0_restN n0_fN n0_lvlN []) (LawQ res 0 0)) : ∀ (n : Nat), ∀ {n0_oSide : List Int32} {n0_oPrice : List Int32} {n0_oRem : List Int32} {n0_oFilled : List Int32} {n0_oStatus : List Int32} {n0_oStamp : List Int64} {n0_oTop : List Int32} {n0_restIds : List Int32} {n0_fIds : List Int32} {n0_fQty : List Int32} {n0_fPrice : List Int32} {n0_lvlIds : List Int32} {n0_lvlR : List Int32} {n0_lvlA : List Int32} {n0_minAlloc : Int32} {n0_topCap : Int32} {n0_accepted : Int32} {n0_stampCounter : Int64} {n0_restN : Int32} {n0_fN : Int32} {n0_lvlN : Int32} {v2 : Int32} {v3 : Int32} {d4 d5 d6 d7 d8 : Slot} {res : Int32}, f_L_law_18 k130 scr n n0_oSide n0_oPrice n0_oRem n0_oFilled n0_oStatus n0_oStamp n0_oTop n0_restIds n0_fIds n0_fQty n0_fPrice n0_lvlIds n0_lvlR n0_lvlA n0_minAlloc n0_topCap n0_accepted n0_stampCounter n0_restN n0_fN n0_lvlN v2 v3 = some res → OEndsQ own_P 0 18 [.val (.ref 0), .val (.ref 1), .val (.int v2), .val (.int v3), d4, d5, d6, d7, d8] [] ((.inr (.inl (false, scr)) : ACell) :: bk0 n0_oSide n0_oPrice n0_oRem n0_oFilled n0_oStatus n0_oStamp n0_oTop n0_restIds n0_fIds n0_fQty n0_fPrice n0_lvlIds n0_lvlR n0_lvlA n0_minAlloc n0_topCap n0_accepted n0_stampCounter n0_restN n0_fN n0_lvlN []) (LawQ res 0 0) := by
  intro n
  induction n with
  | zero => intro n0_oSide n0_oPrice n0_oRem n0_oFilled n0_oStatus n0_oStamp n0_oTop n0_restIds n0_fIds n0_fQty n0_fPrice n0_lvlIds n0_lvlR n0_lvlA n0_minAlloc n0_topCap n0_accepted n0_stampCounter n0_restN n0_fN n0_lvlN v2 v3 d4 d5 d6 d7 d8 res h; cases h
  | succ n ih =>
    intro n0_oSide n0_oPrice n0_oRem n0_oFilled n0_oStatus n0_oStamp n0_oTop n0_restIds n0_fIds n0_fQty n0_fPrice n0_lvlIds n0_lvlR n0_lvlA n0_minAlloc n0_topCap n0_accepted n0_stampCounter n0_restN n0_fN n0_lvlN v2 v3 d4 d5 d6 d7 d8 res h
    unfold f_L_law_18 at h
    refine OEndsQ.adv hm_0 2 (pc' := 20) (L' := [.val (.ref 0), .val (.ref 1), .val (.int v2), .val (.int v3), .unset, .unset, .unset, .unset, .unset]) (S' := [.int v2, .int v3]) (H' := ((.inr (.inl (false, scr)) : ACell) :: bk0 n0_oSide n0_oPrice n0_oRem n0_oFilled n0_oStatus n0_oStamp n0_oTop n0_restIds n0_fIds n0_fQty n0_fPrice n0_lvlIds n0_lvlR n0_lvlA n0_minAlloc n0_topCap n0_accepted n0_stampCounter n0_restN n0_fN n0_lvlN [])) rfl ?_
    by_cases hc143 : v3 < v2
    · simp only [if_pos hc143] at h
      refine OEndsQ.icmpF hm_0 rfl ((tlt hc143).2.1) ?_
      refine OEndsQ.adv hm_0 4 (pc' := 27) (L' := [.val (.ref 0), .val (.ref 1), .val (.int v2), .val (.int v3), .unset, .unset, .unset, .unset, .unset]) (S' := [.int ((5 : Int32) * v3), .ref 0]) (H' := ((.inr (.inl (false, scr)) : ACell) :: bk0 n0_oSide n0_oPrice n0_oRem n0_oFilled n0_oStatus n0_oStamp n0_oTop n0_restIds n0_fIds n0_fQty n0_fPrice n0_lvlIds n0_lvlR n0_lvlA n0_minAlloc n0_topCap n0_accepted n0_stampCounter n0_restN n0_fN n0_lvlN [])) rfl ?_
      obtain ⟨x195, hx195, h⟩ := bnd h
      refine OEndsQ.plain hm_0 rfl rfl (x_iaload rfl hx195) ?_
      refine OEndsQ.adv hm_0 9 (pc' := 38) (L' := [.val (.ref 0), .val (.ref 1), .val (.int v2), .val (.int v3), .val (.int (x195 &&& (3 : Int32))), .unset, .unset, .unset, .unset]) (S' := [.int (((5 : Int32) * v3) + (1 : Int32)), .ref 0]) (H' := ((.inr (.inl (false, scr)) : ACell) :: bk0 n0_oSide n0_oPrice n0_oRem n0_oFilled n0_oStatus n0_oStamp n0_oTop n0_restIds n0_fIds n0_fQty n0_fPrice n0_lvlIds n0_lvlR n0_lvlA n0_minAlloc n0_topCap n0_accepted n0_stampCounter n0_restN n0_fN n0_lvlN [])) rfl ?_
      obtain ⟨x196, hx196, h⟩ := bnd h
      refine OEndsQ.plain hm_0 rfl rfl (x_iaload rfl hx196) ?_
      refine OEndsQ.adv hm_0 7 (pc' := 47) (L' := [.val (.ref 0), .val (.ref 1), .val (.int v2), .val (.int v3), .val (.int (x195 &&& (3 : Int32))), .val (.int x196), .unset, .unset, .unset]) (S' := [.int (((5 : Int32) * v3) + (2 : Int32)), .ref 0]) (H' := ((.inr (.inl (false, scr)) : ACell) :: bk0 n0_oSide n0_oPrice n0_oRem n0_oFilled n0_oStatus n0_oStamp n0_oTop n0_restIds n0_fIds n0_fQty n0_fPrice n0_lvlIds n0_lvlR n0_lvlA n0_minAlloc n0_topCap n0_accepted n0_stampCounter n0_restN n0_fN n0_lvlN [])) rfl ?_
      obtain ⟨x197, hx197, h⟩ := bnd h
      refine OEndsQ.plain hm_0 rfl rfl (x_iaload rfl hx197) ?_
      refine OEndsQ.adv hm_0 7 (pc' := 56) (L' := [.val (.ref 0), .val (.ref 1), .val (.int v2), .val (.int v3), .val (.int (x195 &&& (3 : Int32))), .val (.int x196), .val (.int x197), .unset, .unset]) (S' := [.int (((5 : Int32) * v3) + (3 : Int32)), .ref 0]) (H' := ((.inr (.inl (false, scr)) : ACell) :: bk0 n0_oSide n0_oPrice n0_oRem n0_oFilled n0_oStatus n0_oStamp n0_oTop n0_restIds n0_fIds n0_fQty n0_fPrice n0_lvlIds n0_lvlR n0_lvlA n0_minAlloc n0_topCap n0_accepted n0_stampCounter n0_restN n0_fN n0_lvlN [])) rfl ?_
      obtain ⟨x198, hx198, h⟩ := bnd h
      refine OEndsQ.plain hm_0 rfl rfl (x_iaload rfl hx198) ?_
      refine OEndsQ.adv hm_0 7 (pc' := 65) (L' := [.val (.ref 0), .val (.ref 1), .val (.int v2), .val (.int v3), .val (.int (x195 &&& (3 : Int32))), .val (.int x196), .val (.int x197), .val (.int x198), .unset]) (S' := [.int (((5 : Int32) * v3) + (4 : Int32)), .ref 0]) (H' := ((.inr (.inl (false, scr)) : ACell) :: bk0 n0_oSide n0_oPrice n0_oRem n0_oFilled n0_oStatus n0_oStamp n0_oTop n0_restIds n0_fIds n0_fQty n0_fPrice n0_lvlIds n0_lvlR n0_lvlA n0_minAlloc n0_topCap n0_accepted n0_stampCounter n0_restN n0_fN n0_lvlN [])) rfl ?_
      obtain ⟨x199, hx199, h⟩ := bnd h
      refine OEndsQ.plain hm_0 rfl rfl (x_iaload rfl hx199) ?_
      refine OEndsQ.adv hm_0 3 (pc' := 71) (L' := [.val (.ref 0), .val (.ref 1), .val (.int v2), .val (.int v3), .val (.int (x195 &&& (3 : Int32))), .val (.int x196), .val (.int x197), .val (.int x198), .val (.int x199)]) (S' := [.int 1, .int (x195 &&& (3 : Int32))]) (H' := ((.inr (.inl (false, scr)) : ACell) :: bk0 n0_oSide n0_oPrice n0_oRem n0_oFilled n0_oStatus n0_oStamp n0_oTop n0_restIds n0_fIds n0_fQty n0_fPrice n0_lvlIds n0_lvlR n0_lvlA n0_minAlloc n0_topCap n0_accepted n0_stampCounter n0_restN n0_fN n0_lvlN [])) rfl ?_
      by_cases hc144 : (x195 &&& (3 : Int32)) = (1 : Int32)
      · simp only [if_pos hc144] at h
        refine OEndsQ.icmpF hm_0 rfl ((teq hc144).2) ?_
        refine OEndsQ.adv hm_0 2 (pc' := 77) (L' := [.val (.ref 0), .val (.ref 1), .val (.int v2), .val (.int v3), .val (.int (x195 &&& (3 : Int32))), .val (.int x196), .val (.int x197), .val (.int x198), .val (.int x199)]) (S' := [.int x196, .ref 1]) (H' := ((.inr (.inl (false, scr)) : ACell) :: bk0 n0_oSide n0_oPrice n0_oRem n0_oFilled n0_oStatus n0_oStamp n0_oTop n0_restIds n0_fIds n0_fQty n0_fPrice n0_lvlIds n0_lvlR n0_lvlA n0_minAlloc n0_topCap n0_accepted n0_stampCounter n0_restN n0_fN n0_lvlN [])) rfl ?_
        obtain ⟨⟨r225, s226, s227, s228, s229, s230⟩, hq145, h⟩ := bnd h
        refine OEndsQ.call0 hm_0 rfl rfl (by decide) rfl (as := [.ref 1, .int x196]) (rest := []) rfl rfl (ok_cancel hq145) ?_
        refine OEndsQ.adv hm_0 2 (pc' := 115) (L' := [.val (.ref 0), .val (.ref 1), .val (.int v2), .val (.int v3), .val (.int (x195 &&& (3 : Int32))), .val (.int x196), .val (.int x197), .val (.int x198), .val (.int x199)]) (S' := []) (H' := ((.inr (.inl (false, scr)) : ACell) :: bk0 n0_oSide n0_oPrice s226 n0_oFilled s227 n0_oStamp s228 s229 n0_fIds n0_fQty n0_fPrice n0_lvlIds n0_lvlR n0_lvlA n0_minAlloc n0_topCap n0_accepted n0_stampCounter s230 n0_fN n0_lvlN [])) rfl ?_
        exact ok_L_law_115 ih hk130 h
      · simp only [if_neg hc144] at h
        refine OEndsQ.icmpT hm_0 rfl (q := 84) rfl ((feq hc144).2) ?_
        refine OEndsQ.adv hm_0 2 (pc' := 87) (L' := [.val (.ref 0), .val (.ref 1), .val (.int v2), .val (.int v3), .val (.int (x195 &&& (3 : Int32))), .val (.int x196), .val (.int x197), .val (.int x198), .val (.int x199)]) (S' := [.int 2, .int (x195 &&& (3 : Int32))]) (H' := ((.inr (.inl (false, scr)) : ACell) :: bk0 n0_oSide n0_oPrice n0_oRem n0_oFilled n0_oStatus n0_oStamp n0_oTop n0_restIds n0_fIds n0_fQty n0_fPrice n0_lvlIds n0_lvlR n0_lvlA n0_minAlloc n0_topCap n0_accepted n0_stampCounter n0_restN n0_fN n0_lvlN [])) rfl ?_
        by_cases hc146 : (x195 &&& (3 : Int32)) = (2 : Int32)
        · simp only [if_pos hc146] at h
          refine OEndsQ.icmpF hm_0 rfl ((teq hc146).2) ?_
          refine OEndsQ.adv hm_0 3 (pc' := 95) (L' := [.val (.ref 0), .val (.ref 1), .val (.int v2), .val (.int v3), .val (.int (x195 &&& (3 : Int32))), .val (.int x196), .val (.int x197), .val (.int x198), .val (.int x199)]) (S' := [.int x197, .int x196, .ref 1]) (H' := ((.inr (.inl (false, scr)) : ACell) :: bk0 n0_oSide n0_oPrice n0_oRem n0_oFilled n0_oStatus n0_oStamp n0_oTop n0_restIds n0_fIds n0_fQty n0_fPrice n0_lvlIds n0_lvlR n0_lvlA n0_minAlloc n0_topCap n0_accepted n0_stampCounter n0_restN n0_fN n0_lvlN [])) rfl ?_
          obtain ⟨⟨r220, s221, s222, s223, s224⟩, hq147, h⟩ := bnd h
          refine OEndsQ.call0 hm_0 rfl rfl (by decide) rfl (as := [.ref 1, .int x196, .int x197]) (rest := []) rfl rfl (ok_amend hq147) ?_
          refine OEndsQ.adv hm_0 2 (pc' := 115) (L' := [.val (.ref 0), .val (.ref 1), .val (.int v2), .val (.int v3), .val (.int (x195 &&& (3 : Int32))), .val (.int x196), .val (.int x197), .val (.int x198), .val (.int x199)]) (S' := []) (H' := ((.inr (.inl (false, scr)) : ACell) :: bk0 n0_oSide n0_oPrice s221 n0_oFilled n0_oStatus s222 s223 n0_restIds n0_fIds n0_fQty n0_fPrice n0_lvlIds n0_lvlR n0_lvlA n0_minAlloc n0_topCap n0_accepted s224 n0_restN n0_fN n0_lvlN [])) rfl ?_
          exact ok_L_law_115 ih hk130 h
        · simp only [if_neg hc146] at h
          refine OEndsQ.icmpT hm_0 rfl (q := 102) rfl ((feq hc146).2) ?_
          refine OEndsQ.adv hm_0 5 (pc' := 111) (L' := [.val (.ref 0), .val (.ref 1), .val (.int v2), .val (.int v3), .val (.int (x195 &&& (3 : Int32))), .val (.int x196), .val (.int x197), .val (.int x198), .val (.int x199)]) (S' := [.int x199, .int x198, .int x197, .int x196, .ref 1]) (H' := ((.inr (.inl (false, scr)) : ACell) :: bk0 n0_oSide n0_oPrice n0_oRem n0_oFilled n0_oStatus n0_oStamp n0_oTop n0_restIds n0_fIds n0_fQty n0_fPrice n0_lvlIds n0_lvlR n0_lvlA n0_minAlloc n0_topCap n0_accepted n0_stampCounter n0_restN n0_fN n0_lvlN [])) rfl ?_
          obtain ⟨⟨r200, s201, s202, s203, s204, s205, s206, s207, s208, s209, s210, s211, s212, s213, s214, s215, s216, s217, s218, s219⟩, hq148, h⟩ := bnd h
          refine OEndsQ.call0 hm_0 rfl rfl (by decide) rfl (as := [.ref 1, .int x196, .int x197, .int x198, .int x199]) (rest := []) rfl rfl (ok_submit hq148) ?_
          refine OEndsQ.adv hm_0 1 (pc' := 115) (L' := [.val (.ref 0), .val (.ref 1), .val (.int v2), .val (.int v3), .val (.int (x195 &&& (3 : Int32))), .val (.int x196), .val (.int x197), .val (.int x198), .val (.int x199)]) (S' := []) (H' := ((.inr (.inl (false, scr)) : ACell) :: bk0 s201 s202 s203 s204 s205 s206 s207 s208 s209 s210 s211 s212 s213 s214 n0_minAlloc n0_topCap s215 s216 s217 s218 s219 [])) rfl ?_
          exact ok_L_law_115 ih hk130 h
    · simp only [if_neg hc143] at h
      refine OEndsQ.icmpT hm_0 rfl (q := 130) rfl ((flt hc143).2.1) ?_
      show OEndsQ own_P 0 130 [.val (.ref 0), .val (.ref 1), .val (.int v2), .val (.int v3), .unset, .unset, .unset, .unset, .unset] [] ((.inr (.inl (false, scr)) : ACell) :: bk0 n0_oSide n0_oPrice n0_oRem n0_oFilled n0_oStatus n0_oStamp n0_oTop n0_restIds n0_fIds n0_fQty n0_fPrice n0_lvlIds n0_lvlR n0_lvlA n0_minAlloc n0_topCap n0_accepted n0_stampCounter n0_restN n0_fN n0_lvlN []) _
      exact hk130 h
theorem ok_L_law {scr : List Int32} {res : Int32} (h : f_L_law scr = some res) : OEndsQ own_P 0 0 [.val (.ref 0), .unset, .unset, .unset, .unset, .unset, .unset, .unset, .unset] [] ((.inr (.inl (false, scr)) : ACell) :: []) (LawQ res 15 2261) := by
  unfold f_L_law at h
  refine OEndsQ.made hm_0 rfl rfl (ks := 21) (c0 := 14) (s0 := 2240) rfl (Nat.le_of_ble_eq_true rfl) (Nat.le_of_ble_eq_true rfl) ?_
  refine OEndsQ.adv hm_0 3 (pc' := 7) (L' := [.val (.ref 0), .unset, .unset, .unset, .unset, .unset, .unset, .unset, .unset]) (S' := [.int 50, .int 5, .ref 1, .ref 1]) (H' := ((.inr (.inl (false, scr)) : ACell) :: (.inl (0, [.null, .null, .null, .null, .null, .null, .null, .null, .null, .null, .null, .null, .null, .null, .int 0, .int 0, .int 0, .long 0, .int 0, .int 0, .int 0]) : ACell) :: [])) rfl ?_
  obtain ⟨⟨s174, s175, s176, s177, s178, s179, s180, s181, s182, s183, s184, s185, s186, s187, s188, s189, s190, s191, s192, s193, s194⟩, hq149, h⟩ := bnd h
  refine OEndsQ.callN hm_0 rfl rfl (by decide) rfl (as := [.ref 1, .int 5, .int 50]) (rest := [.ref 1]) rfl rfl (c0 := 0) (s0 := 0) (ok_init hq149) (Nat.le_of_ble_eq_true rfl) (Nat.le_of_ble_eq_true rfl) ?_
  refine OEndsQ.adv hm_0 8 (pc' := 18) (L' := [.val (.ref 0), .val (.ref 1), .val (.int (scr.length.toInt32 / (5 : Int32))), .val (.int 0), .unset, .unset, .unset, .unset, .unset]) (S' := []) (H' := ((.inr (.inl (false, scr)) : ACell) :: bk0 s174 s175 s176 s177 s178 s179 s180 s181 s182 s183 s184 s185 s186 s187 s188 s189 s190 s191 s192 s193 s194 [])) rfl ?_
  exact ok_L_law_18 (k130 := f_L_law_130 scr) ok_L_law_130 100000 h
theorem own_iL {α : Type} {Q : α → Prop} {a b : Int32} {x y : Option α} (h1 : a.toInt < b.toInt → Tot x Q) (h2 : b.toInt ≤ a.toInt → Tot y Q) : Tot (if a < b then x else y) Q :=
  Tot.ite (fun c => h1 (ilt.mp c)) (fun c => h2 (by rw [ilt] at c; omega))
theorem own_iE {α : Type} {Q : α → Prop} {a b : Int32} {x y : Option α} (h1 : a = b → Tot x Q) (h2 : ¬ a = b → Tot y Q) : Tot (if a = b then x else y) Q :=
  Tot.ite h1 h2
theorem own_bs {α β : Type} {a : α} {f : α → Option β} {Q : β → Prop} (h : Tot (f a) Q) : Tot ((some a).bind f) Q := h
theorem own_p1 {a : Int32} (h : a.toInt < 2147483647) : (a + 1).toInt = a.toInt + 1 := by
  have := Int32.le_toInt a
  ((try simp only [ilt, ile, ieq, iadd_e, isub_e, imul_e, Int32.reduceToInt] at *) <;> omega)
theorem own_m1 {a : Int32} (h : -2147483648 < a.toInt) : (a - 1).toInt = a.toInt - 1 := by
  have := Int32.toInt_lt a
  ((try simp only [ilt, ile, ieq, iadd_e, isub_e, imul_e, Int32.reduceToInt] at *) <;> omega)
theorem own_m2 {a : Int32} (h : -2147483648 < a.toInt) : (a + (-1)).toInt = a.toInt - 1 := by
  have := Int32.toInt_lt a
  ((try simp only [ilt, ile, ieq, iadd_e, isub_e, imul_e, Int32.reduceToInt] at *) <;> omega)
def own_R (L : List Int32) : Prop := ∀ x ∈ L, 0 ≤ x.toInt ∧ x.toInt < 256
theorem own_Rg {L : List Int32} (h : own_R L) {j : Int32} (h0 : 0 ≤ j.toInt) (h1 : j.toInt < L.length) : 0 ≤ (gI L j).toInt ∧ (gI L j).toInt < 256 := by
  have h2 : j.toInt.toNat < L.length := by omega
  unfold gI
  rw [rdA_in h0 h2]
  exact h _ (List.getElem_mem h2)
theorem own_Rs {L : List Int32} (h : own_R L) {j : Nat} {x : Int32} (x0 : 0 ≤ x.toInt) (x1 : x.toInt < 256) : own_R (L.set j x) := by
  intro y hy
  rcases List.mem_or_eq_of_mem_set hy with h' | h'
  · exact h y h'
  · rw [h']; exact ⟨x0, x1⟩
theorem own_rdR {β : Type} {L : List Int32} {j : Int32} {f : Int32 → Option β} {Q : β → Prop} (hR : own_R L) (h0 : 0 ≤ j.toInt) (h1 : j.toInt < L.length) (g : ∀ a : Int32, 0 ≤ a.toInt → a.toInt < 256 → Tot (f a) Q) : Tot ((rdA L j).bind f) Q := by
  rw [rdg h0 h1]
  exact g _ (own_Rg hR h0 h1).1 (own_Rg hR h0 h1).2
theorem own_wrR {β : Type} {L : List Int32} {j x : Int32} {f : List Int32 → Option β} {Q : β → Prop} (hR : own_R L) (h0 : 0 ≤ j.toInt) (h1 : j.toInt < L.length) (x0 : 0 ≤ x.toInt) (x1 : x.toInt < 256) (g : ∀ L' : List Int32, own_R L' → L'.length = L.length → Tot (f L') Q) : Tot ((wrA L j x).bind f) Q :=
  Tot.wr h0 h1 (fun L' e l => g L' (by rw [e]; exact own_Rs hR x0 x1) l)
/-- the list of resting orders -/
abbrev own_W (RI : List Int32) (RN acc : Int32) : Prop := (RI.length = 64) ∧ (0 ≤ RN.toInt) ∧ (RN.toInt ≤ 64) ∧ (own_R RI) ∧ (∀ i : Int32, 0 ≤ i.toInt → i.toInt < RN.toInt → 1 ≤ (gI RI i).toInt ∧ (gI RI i).toInt ≤ acc.toInt) ∧ (∀ i j : Int32, 0 ≤ i.toInt → i.toInt < RN.toInt → 0 ≤ j.toInt → j.toInt < RN.toInt → gI RI i = gI RI j → i = j)
theorem own_W.l {RI : List Int32} {RN acc : Int32} (self : own_W RI RN acc) : RI.length = 64 := self.1
theorem own_W.n0 {RI : List Int32} {RN acc : Int32} (self : own_W RI RN acc) : 0 ≤ RN.toInt := self.2.1
theorem own_W.n1 {RI : List Int32} {RN acc : Int32} (self : own_W RI RN acc) : RN.toInt ≤ 64 := self.2.2.1
theorem own_W.r {RI : List Int32} {RN acc : Int32} (self : own_W RI RN acc) : own_R RI := self.2.2.2.1
theorem own_W.e {RI : List Int32} {RN acc : Int32} (self : own_W RI RN acc) : ∀ i : Int32, 0 ≤ i.toInt → i.toInt < RN.toInt → 1 ≤ (gI RI i).toInt ∧ (gI RI i).toInt ≤ acc.toInt := self.2.2.2.2.1
theorem own_W.d {RI : List Int32} {RN acc : Int32} (self : own_W RI RN acc) : ∀ i j : Int32, 0 ≤ i.toInt → i.toInt < RN.toInt → 0 ≤ j.toInt → j.toInt < RN.toInt → gI RI i = gI RI j → i = j := self.2.2.2.2.2
def own_mem (RI : List Int32) (RN x : Int32) : Prop := ∃ j : Int32, 0 ≤ j.toInt ∧ j.toInt < RN.toInt ∧ gI RI j = x
theorem own_rm2 {RI : List Int32} {RN acc : Int32} (w : own_W RI RN acc) (v : Int32) : ∀ (n : Nat) (k : Int32), 0 ≤ k.toInt → k.toInt ≤ RN.toInt → RN.toInt - k.toInt < n → (∀ j : Int32, 0 ≤ j.toInt → j.toInt < k.toInt → gI RI j ≠ v) →
    Tot (f_removeResting_2 f_removeResting_20 n RI RN v k) (fun p => own_W p.1 p.2 acc ∧ p.2.toInt ≤ RN.toInt ∧ (∀ x, own_mem p.1 p.2 x ↔ own_mem RI RN x ∧ x ≠ v) ∧ (own_mem RI RN v → p.2.toInt = RN.toInt - 1)) := by
  intro n
  have l := w.l
  have n0 := w.n0
  have n1 := w.n1
  induction n with
  | zero => intro k h0 h1 h2; omega
  | succ n ih =>
    intro k h0 h1 h2 hk
    unfold f_removeResting_2
    refine own_iL (fun c => ?_) (fun c => ?_)
    · refine Tot.rdI h0 (by omega) ?_
      refine own_iE (fun e => ?_) (fun e => ?_)
      · have m1 := own_m1 (a := RN) (by omega)
        unfold f_removeResting_20
        rw [rdg (by omega) (by omega), Option.bind_some, wrA_in h0 (by omega), Option.bind_some]
        refine Tot.mk ?_
        have g : ∀ j : Int32, 0 ≤ j.toInt → gI (RI.set k.toInt.toNat (gI RI (RN - 1))) j = if k = j then gI RI (RN - 1) else gI RI j := fun j hj => gset h0 (by omega) hj
        have lst := w.e (RN - 1) (by omega) (by omega)
        have lst2 := own_Rg w.r (j := RN - 1) (by omega) (by omega)
        refine ⟨⟨by simp [l], (by show 0 ≤ (RN - 1).toInt; omega), (by show (RN - 1).toInt ≤ 64; omega), own_Rs w.r (by omega) (by omega), ?_, ?_⟩, (by show (RN - 1).toInt ≤ RN.toInt; omega), ?_, fun _ => (by show (RN - 1).toInt = RN.toInt - 1; omega)⟩
        · intro i i0 i1
          show 1 ≤ (gI (RI.set k.toInt.toNat (gI RI (RN - 1))) i).toInt ∧ (gI (RI.set k.toInt.toNat (gI RI (RN - 1))) i).toInt ≤ acc.toInt
          have i1' : i.toInt < (RN - 1).toInt := i1
          rw [g i i0]
          split
          · exact lst
          · exact w.e i i0 (by omega)
        · intro i j i0 i1 j0 j1 hh
          have i1' : i.toInt < (RN - 1).toInt := i1
          have j1' : j.toInt < (RN - 1).toInt := j1
          have hh' : gI (RI.set k.toInt.toNat (gI RI (RN - 1))) i = gI (RI.set k.toInt.toNat (gI RI (RN - 1))) j := hh
          rw [g i i0, g j j0] at hh'
          by_cases ei : k = i <;> by_cases ej : k = j
          · rw [← ei, ← ej]
          · rw [if_pos ei, if_neg ej] at hh'
            have q := w.d _ _ (by omega) (by omega) (by omega) (by omega) hh'
            rw [ieq] at q
            omega
          · rw [if_neg ei, if_pos ej] at hh'
            have q := w.d _ _ (by omega) (by omega) (by omega) (by omega) hh'
            rw [ieq] at q
            omega
          · rw [if_neg ei, if_neg ej] at hh'
            exact w.d _ _ (by omega) (by omega) (by omega) (by omega) hh'
        · intro x
          show own_mem (RI.set k.toInt.toNat (gI RI (RN - 1))) (RN - 1) x ↔ _
          constructor
          · rintro ⟨j, j0, j1, ej⟩
            rw [g j j0] at ej
            by_cases hkj : k = j
            · rw [if_pos hkj] at ej
              refine ⟨⟨RN - 1, by omega, by omega, ej⟩, ?_⟩
              intro hx
              have q := w.d (RN - 1) k (by omega) (by omega) h0 c (by rw [ej, hx, e])
              rw [ieq] at q
              rw [ieq] at hkj
              omega
            · rw [if_neg hkj] at ej
              refine ⟨⟨j, j0, by omega, ej⟩, ?_⟩
              intro hx
              exact hkj (w.d k j h0 c j0 (by omega) (by rw [ej, hx, e]))
          · rintro ⟨⟨j, j0, j1, ej⟩, hx⟩
            have hkj : ¬ k = j := by
              intro h
              rw [← h, e] at ej
              exact hx ej.symm
            by_cases hl : j.toInt = (RN - 1).toInt
            · refine ⟨k, h0, by rw [ieq] at hkj; omega, ?_⟩
              rw [g k h0, if_pos rfl]
              rw [← ieq] at hl
              rw [← hl, ej]
            · refine ⟨j, j0, by omega, ?_⟩
              rw [g j j0, if_neg hkj, ej]
      · have p := own_p1 (a := k) (by omega)
        refine ih _ (by omega) (by omega) (by omega) ?_
        intro j j0 j1
        by_cases hj : j.toInt < k.toInt
        · exact hk j j0 hj
        · have : j = k := by rw [ieq]; omega
          rw [this]
          exact e
    · refine Tot.mk ⟨w, Int.le_refl _, ?_, ?_⟩
      · intro x
        constructor
        · rintro ⟨j, j0, j1, ej⟩
          refine ⟨⟨j, j0, j1, ej⟩, ?_⟩
          intro hx
          have j1' : j.toInt < RN.toInt := j1
          exact hk j j0 (by omega) (by rw [← hx]; exact ej)
        · exact fun h => h.1
      · rintro ⟨j, j0, j1, ej⟩
        exact absurd ej (hk j j0 (by omega))
theorem own_rm {RI : List Int32} {RN acc : Int32} (w : own_W RI RN acc) (v : Int32) : Tot (f_removeResting RI RN v) (fun p => own_W p.1 p.2 acc ∧ p.2.toInt ≤ RN.toInt ∧ (∀ x, own_mem p.1 p.2 x ↔ own_mem RI RN x ∧ x ≠ v) ∧ (own_mem RI RN v → p.2.toInt = RN.toInt - 1)) := by
  have n0 := w.n0
  have n1 := w.n1
  have e0 : (0 : Int32).toInt = 0 := rfl
  exact own_rm2 w v 100000 0 (by omega) (by omega) (by omega) (fun j j0 j1 => by omega)
theorem own_best4 {SD PR RI : List Int32} {RN acc : Int32} (w : own_W RI RN acc) (lS : SD.length = 256) (lP : PR.length = 256) (v1 : Int32) : ∀ (n : Nat) (v2 v3 : Int32), 0 ≤ v3.toInt → v3.toInt ≤ RN.toInt → RN.toInt - v3.toInt < n → Tot (f_bestOf_4 SD PR RI RN n v1 v2 v3) (fun _ => True) := by
  intro n
  have l := w.l
  have n1 := w.n1
  have r := w.r
  induction n with
  | zero => intro v2 v3 h0 h1 h2; omega
  | succ n ih =>
    intro v2 v3 h0 h1 h2
    have p := own_p1 (a := v3) (by omega)
    unfold f_bestOf_4 f_better
    (repeat' (first | with_reducible refine own_iL (fun _ => ?_) (fun _ => ?_) | with_reducible refine own_iE (fun _ => ?_) (fun _ => ?_) | with_reducible refine own_rdR (by assumption) (by omega) (by omega) (fun _ _ _ => ?_) | with_reducible refine Tot.rd (by omega) (by omega) (fun _ _ => ?_) | with_reducible refine own_wrR (by assumption) (by omega) (by omega) (by omega) (by omega) (fun _ _ _ => ?_) | with_reducible refine Tot.wr (by omega) (by omega) (fun _ _ _ => ?_) | with_reducible refine own_bs ?_))
    all_goals first | exact Tot.mk trivial | exact ih _ _ (by omega) (by omega) (by omega)
theorem own_best {SD PR RI : List Int32} {RN acc : Int32} (w : own_W RI RN acc) (lS : SD.length = 256) (lP : PR.length = 256) (v1 : Int32) : Tot (f_bestOf SD PR RI RN v1) (fun _ => True) := by
  have n0 := w.n0
  have n1 := w.n1
  have e0 : (0 : Int32).toInt = 0 := rfl
  exact own_best4 w lS lP v1 100000 0 0 (by omega) (by omega) (by omega)
theorem own_gat7 {SD PR RI : List Int32} {RN acc : Int32} (w : own_W RI RN acc) (lS : SD.length = 256) (lP : PR.length = 256) (v1 v2 : Int32) : ∀ (n : Nat) (LI : List Int32) (LN v3 : Int32), 0 ≤ v3.toInt → v3.toInt ≤ RN.toInt → RN.toInt - v3.toInt < n → own_R LI → LI.length = 64 → 0 ≤ LN.toInt → LN.toInt ≤ 64 →
    Tot (f_gatherLevel_7 SD PR RI RN n LI LN v1 v2 v3) (fun p => own_R p.1 ∧ p.1.length = 64 ∧ 0 ≤ p.2.toInt ∧ p.2.toInt ≤ 64) := by
  intro n
  have l := w.l
  have n1 := w.n1
  have r := w.r
  have e64 : (64 : Int32).toInt = 64 := rfl
  induction n with
  | zero => intro LI LN v3 h0 h1 h2; omega
  | succ n ih =>
    intro LI LN v3 h0 h1 h2 hR hl a0 a1
    have p := own_p1 (a := v3) (by omega)
    have p2 := own_p1 (a := LN) (by omega)
    unfold f_gatherLevel_7
    (repeat' (first | with_reducible refine own_iL (fun _ => ?_) (fun _ => ?_) | with_reducible refine own_iE (fun _ => ?_) (fun _ => ?_) | with_reducible refine own_rdR (by assumption) (by omega) (by omega) (fun _ _ _ => ?_) | with_reducible refine Tot.rd (by omega) (by omega) (fun _ _ => ?_) | with_reducible refine own_wrR (by assumption) (by omega) (by omega) (by omega) (by omega) (fun _ _ _ => ?_) | with_reducible refine Tot.wr (by omega) (by omega) (fun _ _ _ => ?_) | with_reducible refine own_bs ?_))
    all_goals first | exact Tot.mk ⟨hR, hl, a0, a1⟩ | exact ih _ _ _ (by omega) (by omega) (by omega) (by assumption) (by omega) (by omega) (by omega)
theorem own_gat {SD PR RI LI : List Int32} {RN acc LN : Int32} (w : own_W RI RN acc) (lS : SD.length = 256) (lP : PR.length = 256) (v1 v2 : Int32) (hR : own_R LI) (hl : LI.length = 64) : Tot (f_gatherLevel SD PR RI RN LI LN v1 v2) (fun p => own_R p.1 ∧ p.1.length = 64 ∧ 0 ≤ p.2.toInt ∧ p.2.toInt ≤ 64) := by
  have n0 := w.n0
  have n1 := w.n1
  have e0 : (0 : Int32).toInt = 0 := rfl
  exact own_gat7 w lS lP v1 v2 100000 LI 0 0 (by omega) (by omega) (by omega) hR hl (by omega) (by omega)
theorem own_srt27 {SP : List Int64} {LN : Int32} (lS : SP.length = 256) {k : List Int32 → Int32 → Int32 → Int32 → Option (List Int32)} {Q : List Int32 → Prop} (v1 v2 : Int32) (v3 : Int64) (hv : v1.toInt < 64) (hk : ∀ (LI : List Int32) (v5 : Int32), own_R LI → LI.length = 64 → 0 ≤ v5.toInt → v5.toInt ≤ v1.toInt → Tot (k LI v1 v2 v5) Q) :
    ∀ (n : Nat) (LI : List Int32) (v5 : Int32), 0 ≤ v5.toInt → v5.toInt ≤ v1.toInt → v5.toInt < n → own_R LI → LI.length = 64 → Tot (f_sortLevel_27 k SP LN n LI v1 v2 v3 v5) Q := by
  intro n
  have e0 : (0 : Int32).toInt = 0 := rfl
  induction n with
  | zero => intro LI v5 h0 h1 h2; omega
  | succ n ih =>
    intro LI v5 h0 h1 h2 hR hl
    have p := own_m1 (a := v5) (by omega)
    have p2 := own_m2 (a := v5) (by omega)
    unfold f_sortLevel_27
    refine own_iL (fun c => ?_) (fun c => hk _ _ hR hl h0 h1)
    refine own_rdR hR (by omega) (by omega) fun a a0 a1 => ?_
    refine Tot.rd a0 (by omega) fun b _ => ?_
    refine Tot.ite (fun _ => ?_) (fun _ => hk _ _ hR hl h0 h1)
    refine own_rdR hR (by omega) (by omega) fun a' a0' a1' => ?_
    refine own_wrR hR h0 (by omega) a0' a1' fun L' hR' hl' => ?_
    exact ih _ _ (by omega) (by omega) (by omega) hR' (by omega)
theorem own_srt2 {SP : List Int64} {LN : Int32} (lS : SP.length = 256) (hN : LN.toInt ≤ 64) : ∀ (n : Nat) (LI : List Int32) (v1 : Int32), 1 ≤ v1.toInt → 65 - v1.toInt ≤ n → v1.toInt ≤ 64 → own_R LI → LI.length = 64 → Tot (f_sortLevel_2 SP LN n LI v1) (fun p => own_R p ∧ p.length = 64) := by
  intro n
  induction n with
  | zero =>
    intro LI v1 h0 h1 h3 hR hl
    omega
  | succ n ih =>
    intro LI v1 h0 h1 h3 hR hl
    have p := own_p1 (a := v1) (by omega)
    unfold f_sortLevel_2
    refine own_iL (fun c => ?_) (fun c => Tot.mk ⟨hR, hl⟩)
    refine own_rdR hR (by omega) (by omega) fun a a0 a1 => ?_
    refine Tot.rd a0 (by omega) fun b _ => ?_
    refine own_srt27 lS v1 a b (by omega) ?_ 100000 LI v1 (by omega) (by omega) (by omega) hR hl
    intro LI' v5 hR' hl' h0' h1'
    unfold f_sortLevel_73
    refine own_wrR hR' h0' (by omega) a0 a1 fun L' hR'' hl'' => ?_
    exact ih _ _ (by omega) (by omega) (by omega) hR'' (by omega)
theorem own_srt {SP : List Int64} {LN : Int32} {LI : List Int32} (lS : SP.length = 256) (hN : LN.toInt ≤ 64) (hR : own_R LI) (hl : LI.length = 64) : Tot (f_sortLevel SP LN LI) (fun p => own_R p ∧ p.length = 64) := by
  have e1 : (1 : Int32).toInt = 1 := rfl
  exact own_srt2 lS hN 100000 LI 1 (by omega) (by omega) (by omega) hR hl
theorem own_top11 {TP LI LR : List Int32} {tc LN : Int32} (lT : TP.length = 256) (hR : own_R LI) (hl : LI.length = 64) (lR : LR.length = 64) (hN : LN.toInt ≤ 64) (v1 : Int32) : ∀ (n : Nat) (LA : List Int32) (v2 : Int32), 0 ≤ v2.toInt → v2.toInt ≤ 64 → 65 - v2.toInt ≤ n → LA.length = 64 → Tot (f_topStep_11 (f_topStep_35 TP LI LR tc LN) TP LI LR tc LN n LA v1 v2) (fun p => p.2.length = 64) := by
  intro n
  induction n with
  | zero => intro LA v2 h0 h1 h2; omega
  | succ n ih =>
    intro LA v2 h0 h1 h2 lA
    have p := own_p1 (a := v2) (by omega)
    unfold f_topStep_11 f_topStep_35 f_topStep_57 f_topStep_72 f_topStep_80
    (repeat' (first | with_reducible refine own_iL (fun _ => ?_) (fun _ => ?_) | with_reducible refine own_iE (fun _ => ?_) (fun _ => ?_) | with_reducible refine own_rdR (by assumption) (by omega) (by omega) (fun _ _ _ => ?_) | with_reducible refine Tot.rd (by omega) (by omega) (fun _ _ => ?_) | with_reducible refine own_wrR (by assumption) (by omega) (by omega) (by omega) (by omega) (fun _ _ _ => ?_) | with_reducible refine Tot.wr (by omega) (by omega) (fun _ _ _ => ?_) | with_reducible refine own_bs ?_))
    all_goals first | exact ih _ _ (by omega) (by omega) (by omega) lA | exact Tot.mk (by dsimp only; omega)
theorem own_top {TP LI LR LA : List Int32} {tc LN : Int32} (lT : TP.length = 256) (hR : own_R LI) (hl : LI.length = 64) (lR : LR.length = 64) (hN : LN.toInt ≤ 64) (v1 : Int32) (lA : LA.length = 64) : Tot (f_topStep TP LI LR tc LN LA v1) (fun p => p.2.length = 64) := by
  have e0 : (0 : Int32).toInt = 0 := rfl
  unfold f_topStep
  refine Tot.ite (fun _ => ?_) (fun _ => Tot.mk lA)
  exact own_top11 lT hR hl lR hN v1 100000 LA 0 (by omega) (by omega) (by omega) lA
theorem own_pr53 {LR : List Int32} {ma LN : Int32} (lR : LR.length = 64) (hN : LN.toInt ≤ 64) (v1 : Int32) (v2 : Int64) (hv : ¬ v2 = 0) : ∀ (n : Nat) (LA : List Int32) (v4 v5 : Int32), 0 ≤ v5.toInt → v5.toInt ≤ 64 → 65 - v5.toInt ≤ n → LA.length = 64 → Tot (f_proRataStep_53 LR ma LN n LA v1 v2 v4 v5) (fun p => p.2.length = 64) := by
  intro n
  induction n with
  | zero => intro LA v4 v5 h0 h1 h2; omega
  | succ n ih =>
    intro LA v4 v5 h0 h1 h2 lA
    have p := own_p1 (a := v5) (by omega)
    unfold f_proRataStep_53 f_proRataStep_102
    simp only [if_neg hv]
    (repeat' (first | with_reducible refine own_iL (fun _ => ?_) (fun _ => ?_) | with_reducible refine own_iE (fun _ => ?_) (fun _ => ?_) | with_reducible refine own_rdR (by assumption) (by omega) (by omega) (fun _ _ _ => ?_) | with_reducible refine Tot.rd (by omega) (by omega) (fun _ _ => ?_) | with_reducible refine own_wrR (by assumption) (by omega) (by omega) (by omega) (by omega) (fun _ _ _ => ?_) | with_reducible refine Tot.wr (by omega) (by omega) (fun _ _ _ => ?_) | with_reducible refine own_bs ?_))
    all_goals first | exact ih _ _ _ (by omega) (by omega) (by omega) (by omega) | exact Tot.mk lA
theorem own_pr5 {LR : List Int32} {ma LN : Int32} (lR : LR.length = 64) (hN : LN.toInt ≤ 64) (v1 : Int32) : ∀ (n : Nat) (LA : List Int32) (v2 : Int64) (v4 : Int32), 0 ≤ v4.toInt → v4.toInt ≤ 64 → 65 - v4.toInt ≤ n → LA.length = 64 → Tot (f_proRataStep_5 (f_proRataStep_39 LR ma LN) LR ma LN n LA v1 v2 v4) (fun p => p.2.length = 64) := by
  intro n
  have e0 : (0 : Int32).toInt = 0 := rfl
  induction n with
  | zero => intro LA v2 v4 h0 h1 h2; omega
  | succ n ih =>
    intro LA v2 v4 h0 h1 h2 lA
    have p := own_p1 (a := v4) (by omega)
    unfold f_proRataStep_5
    refine own_iL (fun c => ?_) (fun c => ?_)
    · (repeat' (first | with_reducible refine own_iL (fun _ => ?_) (fun _ => ?_) | with_reducible refine own_iE (fun _ => ?_) (fun _ => ?_) | with_reducible refine own_rdR (by assumption) (by omega) (by omega) (fun _ _ _ => ?_) | with_reducible refine Tot.rd (by omega) (by omega) (fun _ _ => ?_) | with_reducible refine own_wrR (by assumption) (by omega) (by omega) (by omega) (by omega) (fun _ _ _ => ?_) | with_reducible refine Tot.wr (by omega) (by omega) (fun _ _ _ => ?_) | with_reducible refine own_bs ?_))
      exact ih _ _ _ (by omega) (by omega) (by omega) (by omega)
    · unfold f_proRataStep_39
      refine Tot.ite (fun c' => ?_) (fun _ => Tot.mk lA)
      exact own_pr53 lR hN v1 v2 (fun h => by rw [h] at c'; exact absurd c' (by decide)) 100000 LA 0 0 (by omega) (by omega) (by omega) lA
theorem own_pr {LR LA : List Int32} {ma LN : Int32} (lR : LR.length = 64) (hN : LN.toInt ≤ 64) (v1 : Int32) (lA : LA.length = 64) : Tot (f_proRataStep LR ma LN LA v1) (fun p => p.2.length = 64) := by
  have e0 : (0 : Int32).toInt = 0 := rfl
  exact own_pr5 lR hN v1 100000 LA 0 0 (by omega) (by omega) (by omega) lA
theorem own_ts4 {LR : List Int32} {LN : Int32} (lR : LR.length = 64) (hN : LN.toInt ≤ 64) : ∀ (n : Nat) (LA : List Int32) (v2 v3 : Int32), 0 ≤ v3.toInt → v3.toInt ≤ 64 → 65 - v3.toInt ≤ n → LA.length = 64 → Tot (f_timeStep_4 LR LN n LA v2 v3) (fun p => p.length = 64) := by
  intro n
  induction n with
  | zero => intro LA v2 v3 h0 h1 h2; omega
  | succ n ih =>
    intro LA v2 v3 h0 h1 h2 lA
    have p := own_p1 (a := v3) (by omega)
    unfold f_timeStep_4 f_timeStep_43
    (repeat' (first | with_reducible refine own_iL (fun _ => ?_) (fun _ => ?_) | with_reducible refine own_iE (fun _ => ?_) (fun _ => ?_) | with_reducible refine own_rdR (by assumption) (by omega) (by omega) (fun _ _ _ => ?_) | with_reducible refine Tot.rd (by omega) (by omega) (fun _ _ => ?_) | with_reducible refine own_wrR (by assumption) (by omega) (by omega) (by omega) (by omega) (fun _ _ _ => ?_) | with_reducible refine Tot.wr (by omega) (by omega) (fun _ _ _ => ?_) | with_reducible refine own_bs ?_))
    all_goals first | exact ih _ _ _ (by omega) (by omega) (by omega) (by omega) | exact Tot.mk lA
theorem own_al4 {TP LI LR : List Int32} {ma tc LN : Int32} (lT : TP.length = 256) (hR : own_R LI) (hl : LI.length = 64) (lR : LR.length = 64) (hN : LN.toInt ≤ 64) (v1 : Int32) : ∀ (n : Nat) (LA : List Int32) (v2 v3 : Int32), 0 ≤ v3.toInt → v3.toInt ≤ 64 → 65 - v3.toInt ≤ n → LA.length = 64 → Tot (f_allocate_4 (f_allocate_27 TP LI LR ma tc LN) TP LI LR ma tc LN n LA v1 v2 v3) (fun p => p.2.length = 64) := by
  intro n
  have e0 : (0 : Int32).toInt = 0 := rfl
  induction n with
  | zero => intro LA v2 v3 h0 h1 h2; omega
  | succ n ih =>
    intro LA v2 v3 h0 h1 h2 lA
    have p := own_p1 (a := v3) (by omega)
    unfold f_allocate_4
    refine own_iL (fun c => ?_) (fun c => ?_)
    · (repeat' (first | with_reducible refine own_iL (fun _ => ?_) (fun _ => ?_) | with_reducible refine own_iE (fun _ => ?_) (fun _ => ?_) | with_reducible refine own_rdR (by assumption) (by omega) (by omega) (fun _ _ _ => ?_) | with_reducible refine Tot.rd (by omega) (by omega) (fun _ _ => ?_) | with_reducible refine own_wrR (by assumption) (by omega) (by omega) (by omega) (by omega) (fun _ _ _ => ?_) | with_reducible refine Tot.wr (by omega) (by omega) (fun _ _ _ => ?_) | with_reducible refine own_bs ?_))
      exact ih _ _ _ (by omega) (by omega) (by omega) (by omega)
    · unfold f_allocate_27 f_allocate_37
      refine Tot.bind (own_top lT hR hl lR hN _ lA) ?_
      rintro ⟨r33, s34⟩ q
      have q' : s34.length = 64 := q
      show Tot (if (0 : Int32) < _ - r33 then _ else _) _
      refine Tot.ite (fun _ => ?_) (fun _ => ?_)
      · refine Tot.bind (own_pr lR hN _ q') ?_
        rintro ⟨r35, s36⟩ q2
        have q2' : s36.length = 64 := q2
        show Tot (f_allocate_67 _ _ _ _ _ _ _ _ _ _) _
        unfold f_allocate_67 f_timeStep
        refine Tot.bind (own_ts4 lR hN 100000 s36 _ 0 (by omega) (by omega) (by omega) q2') ?_
        intro a ha
        exact Tot.mk ha
      · unfold f_allocate_67 f_timeStep
        refine Tot.bind (own_ts4 lR hN 100000 s34 _ 0 (by omega) (by omega) (by omega) q') ?_
        intro a ha
        exact Tot.mk ha
theorem own_al {TP LI LR LA : List Int32} {ma tc LN : Int32} (lT : TP.length = 256) (hR : own_R LI) (hl : LI.length = 64) (lR : LR.length = 64) (hN : LN.toInt ≤ 64) (v1 : Int32) (lA : LA.length = 64) : Tot (f_allocate TP LI LR ma tc LN LA v1) (fun p => p.2.length = 64) := by
  have e0 : (0 : Int32).toInt = 0 := rfl
  exact own_al4 lT hR hl lR hN v1 100000 LA 0 0 (by omega) (by omega) (by omega) lA
/-- the lists and numbers that a match writes -/
abbrev own_M (RM FL ST TP RI FI FQ FP : List Int32) (RN FN acc : Int32) : Prop := (RM.length = 256) ∧ (FL.length = 256) ∧ (ST.length = 256) ∧ (TP.length = 256) ∧ (own_W RI RN acc) ∧ (FI.length = 64) ∧ (FQ.length = 64) ∧ (FP.length = 64) ∧ (0 ≤ FN.toInt) ∧ (FN.toInt ≤ 64)
theorem own_M.lM {RM FL ST TP RI FI FQ FP : List Int32} {RN FN acc : Int32} (self : own_M RM FL ST TP RI FI FQ FP RN FN acc) : RM.length = 256 := self.1
theorem own_M.lF {RM FL ST TP RI FI FQ FP : List Int32} {RN FN acc : Int32} (self : own_M RM FL ST TP RI FI FQ FP RN FN acc) : FL.length = 256 := self.2.1
theorem own_M.lS {RM FL ST TP RI FI FQ FP : List Int32} {RN FN acc : Int32} (self : own_M RM FL ST TP RI FI FQ FP RN FN acc) : ST.length = 256 := self.2.2.1
theorem own_M.lT {RM FL ST TP RI FI FQ FP : List Int32} {RN FN acc : Int32} (self : own_M RM FL ST TP RI FI FQ FP RN FN acc) : TP.length = 256 := self.2.2.2.1
theorem own_M.w {RM FL ST TP RI FI FQ FP : List Int32} {RN FN acc : Int32} (self : own_M RM FL ST TP RI FI FQ FP RN FN acc) : own_W RI RN acc := self.2.2.2.2.1
theorem own_M.lI {RM FL ST TP RI FI FQ FP : List Int32} {RN FN acc : Int32} (self : own_M RM FL ST TP RI FI FQ FP RN FN acc) : FI.length = 64 := self.2.2.2.2.2.1
theorem own_M.lQ {RM FL ST TP RI FI FQ FP : List Int32} {RN FN acc : Int32} (self : own_M RM FL ST TP RI FI FQ FP RN FN acc) : FQ.length = 64 := self.2.2.2.2.2.2.1
theorem own_M.lP {RM FL ST TP RI FI FQ FP : List Int32} {RN FN acc : Int32} (self : own_M RM FL ST TP RI FI FQ FP RN FN acc) : FP.length = 64 := self.2.2.2.2.2.2.2.1
theorem own_M.f0 {RM FL ST TP RI FI FQ FP : List Int32} {RN FN acc : Int32} (self : own_M RM FL ST TP RI FI FQ FP RN FN acc) : 0 ≤ FN.toInt := self.2.2.2.2.2.2.2.2.1
theorem own_M.f1 {RM FL ST TP RI FI FQ FP : List Int32} {RN FN acc : Int32} (self : own_M RM FL ST TP RI FI FQ FP RN FN acc) : FN.toInt ≤ 64 := self.2.2.2.2.2.2.2.2.2
theorem own_ap2 {LI LA : List Int32} {LN acc : Int32} (hR : own_R LI) (hl : LI.length = 64) (lA : LA.length = 64) (hN : LN.toInt ≤ 64) (v1 : Int32) : ∀ (n : Nat) (RM FL ST TP RI FI FQ FP : List Int32) (RN FN v2 : Int32), 0 ≤ v2.toInt → v2.toInt ≤ 64 → 65 - v2.toInt ≤ n → own_M RM FL ST TP RI FI FQ FP RN FN acc →
    Tot (f_applyLevel_2 LI LA LN n RM FL ST TP RI FI FQ FP RN FN v1 v2) (fun p => own_M p.1 p.2.1 p.2.2.1 p.2.2.2.1 p.2.2.2.2.1 p.2.2.2.2.2.1 p.2.2.2.2.2.2.1 p.2.2.2.2.2.2.2.1 p.2.2.2.2.2.2.2.2.1 p.2.2.2.2.2.2.2.2.2 acc) := by
  intro n
  have e64 : (64 : Int32).toInt = 64 := rfl
  induction n with
  | zero => intro RM FL ST TP RI FI FQ FP RN FN v2 h0 h1 h2; omega
  | succ n ih =>
    intro RM FL ST TP RI FI FQ FP RN FN v2 h0 h1 h2 m
    obtain ⟨lM, lF, lS, lT, w, lI, lQ, lP, f0, f1⟩ := m
    have p := own_p1 (a := v2) (by omega)
    have p2 := own_p1 (a := FN) (by omega)
    unfold f_applyLevel_2 f_applyLevel_82
    (repeat' (first | with_reducible refine own_iL (fun _ => ?_) (fun _ => ?_) | with_reducible refine own_iE (fun _ => ?_) (fun _ => ?_) | with_reducible refine own_rdR (by assumption) (by omega) (by omega) (fun _ _ _ => ?_) | with_reducible refine Tot.rd (by omega) (by omega) (fun _ _ => ?_) | with_reducible refine own_wrR (by assumption) (by omega) (by omega) (by omega) (by omega) (fun _ _ _ => ?_) | with_reducible refine Tot.wr (by omega) (by omega) (fun _ _ _ => ?_) | with_reducible refine own_bs ?_))
    all_goals first
      | exact ih _ _ _ _ _ _ _ _ _ _ _ (by omega) (by omega) (by omega) ⟨by omega, by omega, by omega, by omega, w, by omega, by omega, by omega, by omega, by omega⟩
      | exact Tot.mk ⟨lM, lF, lS, lT, w, lI, lQ, lP, f0, f1⟩
      | (refine Tot.bind (own_rm w _) ?_
         rintro ⟨a, b⟩ hab
         exact ih _ _ _ _ _ _ _ _ _ _ _ (by omega) (by omega) (by omega) ⟨by omega, by omega, by omega, by omega, hab.1, by omega, by omega, by omega, by omega, by omega⟩)
theorem own_ml {SD PR : List Int32} {SP : List Int64} {ma tc : Int32} (lS : SD.length = 256) (lP : PR.length = 256) (lSP : SP.length = 256) {RM FL ST TP RI FI FQ FP LI LR LA : List Int32} {RN FN LN acc : Int32} (m : own_M RM FL ST TP RI FI FQ FP RN FN acc) (hR : own_R LI) (hl : LI.length = 64) (lR : LR.length = 64) (lA : LA.length = 64) (v1 v2 v3 : Int32) :
    Tot (f_matchLevel SD PR SP ma tc RM FL ST TP RI FI FQ FP LI LR LA RN FN LN v1 v2 v3) (fun p => own_M p.2.1 p.2.2.1 p.2.2.2.1 p.2.2.2.2.1 p.2.2.2.2.2.1 p.2.2.2.2.2.2.1 p.2.2.2.2.2.2.2.1 p.2.2.2.2.2.2.2.2.1 p.2.2.2.2.2.2.2.2.2.2.2.2.1 p.2.2.2.2.2.2.2.2.2.2.2.2.2.1 acc ∧ own_R p.2.2.2.2.2.2.2.2.2.1 ∧ p.2.2.2.2.2.2.2.2.2.1.length = 64 ∧ p.2.2.2.2.2.2.2.2.2.2.1.length = 64 ∧ p.2.2.2.2.2.2.2.2.2.2.2.1.length = 64) := by
  have e0 : (0 : Int32).toInt = 0 := rfl
  unfold f_matchLevel
  refine Tot.bind (own_gat m.w lS lP v1 v2 hR hl) ?_
  rintro ⟨s56, s57⟩ ⟨q1, q2, q3, q4⟩
  refine Tot.bind (own_srt (LI := s56) (LN := s57) lSP q4 q1 q2) ?_
  rintro s58 ⟨q5, q6⟩
  have key : ∀ (n : Nat) (LR LA : List Int32) (v4 : Int32), 0 ≤ v4.toInt → v4.toInt ≤ 64 → 65 - v4.toInt ≤ n → LR.length = 64 → LA.length = 64 →
    Tot (f_matchLevel_13 (f_matchLevel_59 SD PR SP ma tc) SD PR SP ma tc n RM FL ST TP RI FI FQ FP s58 LR LA RN FN s57 v2 v3 v4) (fun p => own_M p.2.1 p.2.2.1 p.2.2.2.1 p.2.2.2.2.1 p.2.2.2.2.2.1 p.2.2.2.2.2.2.1 p.2.2.2.2.2.2.2.1 p.2.2.2.2.2.2.2.2.1 p.2.2.2.2.2.2.2.2.2.2.2.2.1 p.2.2.2.2.2.2.2.2.2.2.2.2.2.1 acc ∧ own_R p.2.2.2.2.2.2.2.2.2.1 ∧ p.2.2.2.2.2.2.2.2.2.1.length = 64 ∧ p.2.2.2.2.2.2.2.2.2.2.1.length = 64 ∧ p.2.2.2.2.2.2.2.2.2.2.2.1.length = 64) := by
    intro n
    have lM := m.lM
    have q4' : s57.toInt ≤ 64 := q4
    induction n with
    | zero => intro LR LA v4 h0 h1 h2; omega
    | succ n ih =>
      intro LR LA v4 h0 h1 h2 lR lA
      have p := own_p1 (a := v4) (by omega)
      unfold f_matchLevel_13
      refine own_iL (fun c => ?_) (fun c => ?_)
      · (repeat' (first | with_reducible refine own_iL (fun _ => ?_) (fun _ => ?_) | with_reducible refine own_iE (fun _ => ?_) (fun _ => ?_) | with_reducible refine own_rdR (by assumption) (by omega) (by omega) (fun _ _ _ => ?_) | with_reducible refine Tot.rd (by omega) (by omega) (fun _ _ => ?_) | with_reducible refine own_wrR (by assumption) (by omega) (by omega) (by omega) (by omega) (fun _ _ _ => ?_) | with_reducible refine Tot.wr (by omega) (by omega) (fun _ _ _ => ?_) | with_reducible refine own_bs ?_))
        exact ih _ _ _ (by omega) (by omega) (by omega) (by omega) (by omega)
      · unfold f_matchLevel_59
        refine Tot.bind (own_al m.lT q5 q6 lR q4' v3 lA) ?_
        rintro ⟨r63, s64⟩ q7
        refine Tot.bind (own_ap2 (LA := s64) q5 q6 q7 q4' v2 100000 RM FL ST TP RI FI FQ FP RN FN 0 (by omega) (by omega) (by omega) m) ?_
        rintro ⟨s65, s66, s67, s68, s69, s70, s71, s72, s73, s74⟩ q8
        exact Tot.mk ⟨q8, q5, q6, lR, q7⟩
  exact key 100000 LR LA 0 (by omega) (by omega) (by omega) lR lA
/-- the scratch of one level -/
abbrev own_V (LI LR LA : List Int32) : Prop := (own_R LI) ∧ (LI.length = 64) ∧ (LR.length = 64) ∧ (LA.length = 64)
theorem own_V.r {LI LR LA : List Int32} (self : own_V LI LR LA) : own_R LI := self.1
theorem own_V.lI {LI LR LA : List Int32} (self : own_V LI LR LA) : LI.length = 64 := self.2.1
theorem own_V.lR {LI LR LA : List Int32} (self : own_V LI LR LA) : LR.length = 64 := self.2.2.1
theorem own_V.lA {LI LR LA : List Int32} (self : own_V LI LR LA) : LA.length = 64 := self.2.2.2
theorem own_mi {SD PR : List Int32} {SP : List Int64} {ma tc acc : Int32} (lS : SD.length = 256) (lP : PR.length = 256) (lSP : SP.length = 256) (v1 v2 v3 v6 : Int32) (a0 : 0 ≤ v1.toInt) (a1 : v1.toInt < 256) : ∀ (n : Nat) (RM FL ST TP RI FI FQ FP LI LR LA : List Int32) (RN FN LN v5 v7 : Int32), 0 ≤ v7.toInt → v7.toInt ≤ 65 → 66 - v7.toInt ≤ n → own_M RM FL ST TP RI FI FQ FP RN FN acc → own_V LI LR LA →
    Tot (f_matchIncoming_12 SD PR SP ma tc n RM FL ST TP RI FI FQ FP LI LR LA RN FN LN v1 v2 v3 v5 v6 v7) (fun p => own_M p.2.1 p.2.2.1 p.2.2.2.1 p.2.2.2.2.1 p.2.2.2.2.2.1 p.2.2.2.2.2.2.1 p.2.2.2.2.2.2.2.1 p.2.2.2.2.2.2.2.2.1 p.2.2.2.2.2.2.2.2.2.2.2.2.1 p.2.2.2.2.2.2.2.2.2.2.2.2.2.1 acc ∧ own_V p.2.2.2.2.2.2.2.2.2.1 p.2.2.2.2.2.2.2.2.2.2.1 p.2.2.2.2.2.2.2.2.2.2.2.1) := by
  intro n
  have e64 : (64 : Int32).toInt = 64 := rfl
  induction n with
  | zero => intro RM FL ST TP RI FI FQ FP LI LR LA RN FN LN v5 v7 h0 h1 h2; omega
  | succ n ih =>
    intro RM FL ST TP RI FI FQ FP LI LR LA RN FN LN v5 v7 h0 h1 h2 m v
    have p := own_p1 (a := v7) (by omega)
    unfold f_matchIncoming_12 f_crosses
    refine own_iL (fun c => Tot.mk ⟨m, v⟩) (fun c => ?_)
    refine own_iL (fun c5 => ?_) (fun c5 => Tot.mk ⟨m, v⟩)
    refine Tot.bind (own_best m.w lS lP v6) ?_
    intro r75 _
    refine own_iE (fun _ => Tot.mk ⟨m, v⟩) (fun _ => ?_)
    refine own_bs ?_
    refine own_iE (fun _ => Tot.mk ⟨m, v⟩) (fun _ => ?_)
    refine Tot.bind (own_ml lS lP lSP m v.r v.lI v.lR v.lA v6 r75 v5) ?_
    rintro ⟨r77, s78, s79, s80, s81, s82, s83, s84, s85, s86, s87, s88, s89, s90, s91⟩ ⟨m', v'⟩
    obtain ⟨lM, lF, lSt, lT, w, lI, lQ, lFP, f0, f1⟩ := m'
    refine own_iL (fun c77 => ?_) (fun _ => Tot.mk ⟨⟨lM, lF, lSt, lT, w, lI, lQ, lFP, f0, f1⟩, v'⟩)
    have lF' : s79.length = 256 := lF
    refine Tot.rd a0 (by omega) fun x _ => ?_
    refine Tot.wr a0 (by omega) fun L' _ hl' => ?_
    exact ih _ _ _ _ _ _ _ _ _ _ _ _ _ _ _ _ (by omega) (by omega) (by omega) ⟨lM, by omega, lSt, lT, w, lI, lQ, lFP, f0, f1⟩ v'
theorem own_cf2 {SD RI : List Int32} {RN acc : Int32} (w : own_W RI RN acc) (lS : SD.length = 256) (v1 : Int32) : ∀ (n : Nat) (TP : List Int32) (v2 : Int32), 0 ≤ v2.toInt → v2.toInt ≤ 64 → 65 - v2.toInt ≤ n → TP.length = 256 → Tot (f_clearFlags_2 SD RI RN n TP v1 v2) (fun p => p.length = 256) := by
  intro n
  have l := w.l
  have n1 := w.n1
  have r := w.r
  induction n with
  | zero => intro TP v2 h0 h1 h2; omega
  | succ n ih =>
    intro TP v2 h0 h1 h2 lT
    have p := own_p1 (a := v2) (by omega)
    unfold f_clearFlags_2
    (repeat' (first | with_reducible refine own_iL (fun _ => ?_) (fun _ => ?_) | with_reducible refine own_iE (fun _ => ?_) (fun _ => ?_) | with_reducible refine own_rdR (by assumption) (by omega) (by omega) (fun _ _ _ => ?_) | with_reducible refine Tot.rd (by omega) (by omega) (fun _ _ => ?_) | with_reducible refine own_wrR (by assumption) (by omega) (by omega) (by omega) (by omega) (fun _ _ _ => ?_) | with_reducible refine Tot.wr (by omega) (by omega) (fun _ _ _ => ?_) | with_reducible refine own_bs ?_))
    all_goals first | exact Tot.mk lT | exact ih _ _ (by omega) (by omega) (by omega) (by omega)
theorem own_W.up {RI : List Int32} {RN acc acc' : Int32} (w : own_W RI RN acc) (h : acc.toInt ≤ acc'.toInt) : own_W RI RN acc' :=
  ⟨w.l, w.n0, w.n1, w.r, fun i i0 i1 => by have := w.e i i0 i1; omega, w.d⟩
theorem own_W.add {RI : List Int32} {RN acc v : Int32} (w : own_W RI RN acc) (a0 : 0 ≤ acc.toInt) (h : v.toInt = acc.toInt + 1) (hv : v.toInt ≤ 255) (c : RN.toInt < 64) : own_W (RI.set RN.toInt.toNat v) (RN + 1) v := by
  have l := w.l
  have n0 := w.n0
  have p := own_p1 (a := RN) (by omega)
  have g : ∀ j : Int32, 0 ≤ j.toInt → gI (RI.set RN.toInt.toNat v) j = if RN = j then v else gI RI j := fun j hj => gset n0 (by omega) hj
  refine ⟨by simp [l], by omega, by omega, own_Rs w.r (by omega) (by omega), ?_, ?_⟩
  · intro i i0 i1
    rw [g i i0]
    by_cases hi : RN = i
    · rw [if_pos hi]; omega
    · rw [if_neg hi]
      rw [ieq] at hi
      have := w.e i i0 (by omega)
      omega
  · intro i j i0 i1 j0 j1 hh
    rw [g i i0, g j j0] at hh
    by_cases hi : RN = i <;> by_cases hj : RN = j
    · rw [← hi, ← hj]
    · rw [if_pos hi, if_neg hj] at hh
      rw [ieq] at hj
      have := w.e j j0 (by omega)
      rw [← hh] at this
      omega
    · rw [if_neg hi, if_pos hj] at hh
      rw [ieq] at hi
      have := w.e i i0 (by omega)
      rw [hh] at this
      omega
    · rw [if_neg hi, if_neg hj] at hh
      rw [ieq] at hi hj
      exact w.d i j i0 (by omega) j0 (by omega) hh
theorem own_fi78 {SD PR RM ST TP RI : List Int32} {SP : List Int64} {acc RN : Int32} (stamp : Int64) (w : own_W RI RN acc) (lSD : SD.length = 256) (lRM : RM.length = 256) (lST : ST.length = 256) (lSP : SP.length = 256) (lTP : TP.length = 256) (v1 v2 v4 t0 : Int32) (h1 : v1.toInt = acc.toInt + 1) (a0 : 0 ≤ acc.toInt) (h2 : v1.toInt ≤ 255) (c : RN.toInt < 64) :
    Tot (f_finishIncoming_78 SD PR RM ST SP TP RI stamp RN v1 v2 v4 t0) (fun p => p.1.length = 256 ∧ p.2.1.length = 256 ∧ p.2.2.1.length = 256 ∧ p.2.2.2.1.length = 256 ∧ own_W p.2.2.2.2.1 p.2.2.2.2.2.2 v1) := by
  have l := w.l
  have n0 := w.n0
  have e0 : (0 : Int32).toInt = 0 := rfl
  have key : ∀ TP : List Int32, TP.length = 256 → Tot (f_finishIncoming_90 SD PR RM ST SP TP RI stamp RN v1 v4 t0) (fun p => p.1.length = 256 ∧ p.2.1.length = 256 ∧ p.2.2.1.length = 256 ∧ p.2.2.2.1.length = 256 ∧ own_W p.2.2.2.2.1 p.2.2.2.2.2.2 v1) := by
    intro TP lTP
    unfold f_finishIncoming_90
    refine Tot.wr (by omega) (by omega) fun A1 _ l1 => ?_
    refine Tot.wr (by omega) (by omega) fun A2 _ l2 => ?_
    refine Tot.wr (by omega) (by omega) fun A3 _ l3 => ?_
    refine Tot.wr (by omega) (by omega) fun A4 _ l4 => ?_
    refine Tot.wr (by omega) (by omega) fun A5 e5 l5 => ?_
    refine Tot.mk ⟨l2.trans lRM, l3.trans lST, l1.trans lSP, l4.trans lTP, ?_⟩
    show own_W A5 (RN + 1) v1
    rw [e5]
    exact w.add a0 h1 h2 c
  unfold f_finishIncoming_78
  refine own_iE (fun _ => key TP lTP) (fun _ => ?_)
  unfold f_clearFlags
  refine Tot.bind (own_cf2 w lSD v2 100000 TP 0 (by omega) (by omega) (by omega) lTP) ?_
  intro s hs
  exact key s hs
theorem own_fi {SD PR RM ST TP RI : List Int32} {SP : List Int64} {acc RN : Int32} (stamp : Int64) (w : own_W RI RN acc) (lSD : SD.length = 256) (lPR : PR.length = 256) (lRM : RM.length = 256) (lST : ST.length = 256) (lSP : SP.length = 256) (lTP : TP.length = 256) (v1 v2 v3 v4 v5 : Int32) (h1 : v1.toInt = acc.toInt + 1) (a0 : 0 ≤ acc.toInt) (h2 : v1.toInt ≤ 255) :
    Tot (f_finishIncoming SD PR RM ST SP TP RI stamp RN v1 v2 v3 v4 v5) (fun p => p.1.length = 256 ∧ p.2.1.length = 256 ∧ p.2.2.1.length = 256 ∧ p.2.2.2.1.length = 256 ∧ own_W p.2.2.2.2.1 p.2.2.2.2.2.2 v1) := by
  have e64 : (64 : Int32).toInt = 64 := rfl
  have key : Tot (f_finishIncoming_35 SD PR RM ST SP TP RI stamp RN v1) (fun p => p.1.length = 256 ∧ p.2.1.length = 256 ∧ p.2.2.1.length = 256 ∧ p.2.2.2.1.length = 256 ∧ own_W p.2.2.2.2.1 p.2.2.2.2.2.2 v1) := by
    unfold f_finishIncoming_35
    refine Tot.wr (by omega) (by omega) fun A1 _ l1 => ?_
    refine Tot.wr (by omega) (by omega) fun A2 _ l2 => ?_
    exact Tot.mk ⟨l2.trans lRM, l1.trans lST, lSP, lTP, w.up (by omega)⟩
  unfold f_finishIncoming f_better
  refine own_iE (fun _ => ?_) (fun _ => ?_)
  · refine Tot.wr (by omega) (by omega) fun A1 _ l1 => ?_
    refine Tot.wr (by omega) (by omega) fun A2 _ l2 => ?_
    exact Tot.mk ⟨l2.trans lRM, l1.trans lST, lSP, lTP, w.up (by omega)⟩
  · refine own_iE (fun _ => key) (fun _ => ?_)
    refine own_iL (fun c => ?_) (fun _ => key)
    refine Tot.bind (own_best w lSD lPR v2) ?_
    intro r _
    refine own_iE (fun _ => own_fi78 stamp w lSD lRM lST lSP lTP v1 v2 v4 1 h1 a0 h2 (by omega)) (fun _ => ?_)
    refine own_bs ?_
    exact own_fi78 stamp w lSD lRM lST lSP lTP v1 v2 v4 _ h1 a0 h2 (by omega)
/-- the whole book -/
abbrev own_B (SD PR RM FL ST : List Int32) (SP : List Int64) (TP RI FI FQ FP LI LR LA : List Int32) (acc RN FN : Int32) : Prop := (SD.length = 256) ∧ (PR.length = 256) ∧ (SP.length = 256) ∧ (0 ≤ acc.toInt) ∧ (acc.toInt ≤ 255) ∧ (own_M RM FL ST TP RI FI FQ FP RN FN acc) ∧ (own_V LI LR LA)
theorem own_B.sd {SD PR RM FL ST : List Int32} {SP : List Int64} {TP RI FI FQ FP LI LR LA : List Int32} {acc RN FN : Int32} (self : own_B SD PR RM FL ST SP TP RI FI FQ FP LI LR LA acc RN FN) : SD.length = 256 := self.1
theorem own_B.pr {SD PR RM FL ST : List Int32} {SP : List Int64} {TP RI FI FQ FP LI LR LA : List Int32} {acc RN FN : Int32} (self : own_B SD PR RM FL ST SP TP RI FI FQ FP LI LR LA acc RN FN) : PR.length = 256 := self.2.1
theorem own_B.sp {SD PR RM FL ST : List Int32} {SP : List Int64} {TP RI FI FQ FP LI LR LA : List Int32} {acc RN FN : Int32} (self : own_B SD PR RM FL ST SP TP RI FI FQ FP LI LR LA acc RN FN) : SP.length = 256 := self.2.2.1
theorem own_B.a0 {SD PR RM FL ST : List Int32} {SP : List Int64} {TP RI FI FQ FP LI LR LA : List Int32} {acc RN FN : Int32} (self : own_B SD PR RM FL ST SP TP RI FI FQ FP LI LR LA acc RN FN) : 0 ≤ acc.toInt := self.2.2.2.1
theorem own_B.a1 {SD PR RM FL ST : List Int32} {SP : List Int64} {TP RI FI FQ FP LI LR LA : List Int32} {acc RN FN : Int32} (self : own_B SD PR RM FL ST SP TP RI FI FQ FP LI LR LA acc RN FN) : acc.toInt ≤ 255 := self.2.2.2.2.1
theorem own_B.m {SD PR RM FL ST : List Int32} {SP : List Int64} {TP RI FI FQ FP LI LR LA : List Int32} {acc RN FN : Int32} (self : own_B SD PR RM FL ST SP TP RI FI FQ FP LI LR LA acc RN FN) : own_M RM FL ST TP RI FI FQ FP RN FN acc := self.2.2.2.2.2.1
theorem own_B.v {SD PR RM FL ST : List Int32} {SP : List Int64} {TP RI FI FQ FP LI LR LA : List Int32} {acc RN FN : Int32} (self : own_B SD PR RM FL ST SP TP RI FI FQ FP LI LR LA acc RN FN) : own_V LI LR LA := self.2.2.2.2.2.2
theorem own_sub {SD PR RM FL ST : List Int32} {SP : List Int64} {TP RI FI FQ FP LI LR LA : List Int32} {acc RN FN : Int32} (b : own_B SD PR RM FL ST SP TP RI FI FQ FP LI LR LA acc RN FN) (ma tc LN : Int32) (stamp : Int64) (v1 v2 v3 v4 : Int32) (h1 : v1 = 0 ∨ v1 = 1) (h2 : 1 ≤ v2.toInt) (h2' : v2.toInt ≤ 1000) (h3 : 1 ≤ v3.toInt) (h3' : v3.toInt ≤ 10000) (h4 : v4 = 0 ∨ v4 = 1) (ha : acc.toInt < 255) :
    Tot (f_submit ma tc SD PR RM FL ST SP TP RI FI FQ FP LI LR LA acc stamp RN FN LN v1 v2 v3 v4) (fun (r, SD, PR, RM, FL, ST, SP, TP, RI, FI, FQ, FP, LI, LR, LA, acc', stamp, RN, FN, LN) => r = acc + 1 ∧ acc' = acc + 1 ∧ own_B SD PR RM FL ST SP TP RI FI FQ FP LI LR LA acc' RN FN) := by
  obtain ⟨sd, pr, sp, a0, a1, m, v⟩ := b
  have p := own_p1 (a := acc) (by omega)
  have e0 : (0 : Int32).toInt = 0 := rfl
  have e1 : (1 : Int32).toInt = 1 := rfl
  have e255 : (255 : Int32).toInt = 255 := rfl
  have e1000 : (1000 : Int32).toInt = 1000 := rfl
  have e10000 : (10000 : Int32).toInt = 10000 := rfl
  have key : Tot (f_submit_55 ma tc SD PR RM FL ST SP TP RI FI FQ FP LI LR LA acc stamp RN FN LN v1 v2 v3 v4) (fun (r, SD, PR, RM, FL, ST, SP, TP, RI, FI, FQ, FP, LI, LR, LA, acc', stamp, RN, FN, LN) => r = acc + 1 ∧ acc' = acc + 1 ∧ own_B SD PR RM FL ST SP TP RI FI FQ FP LI LR LA acc' RN FN) := by
    obtain ⟨lM, lF, lS, lT, w, lI, lQ, lP, f0, f1⟩ := m
    unfold f_submit_55
    refine own_iL (fun c => ?_) (fun c => absurd c (by omega))
    refine Tot.wr (by omega) (by omega) fun A1 _ l1 => ?_
    refine Tot.wr (by omega) (by omega) fun A2 _ l2 => ?_
    refine Tot.wr (by omega) (by omega) fun A3 _ l3 => ?_
    refine Tot.wr (by omega) (by omega) fun A4 _ l4 => ?_
    refine Tot.wr (by omega) (by omega) fun A5 _ l5 => ?_
    refine Tot.wr (by omega) (by omega) fun A6 _ l6 => ?_
    unfold f_matchIncoming
    refine Tot.bind (own_mi (acc := acc) (l1.trans sd) (l2.trans pr) (l6.trans sp) (acc + 1) v1 v2 (1 - v1) (by omega) (by omega) 100000 A3 A4 ST A5 RI FI FQ FP LI LR LA RN 0 LN v3 0 (by omega) (by omega) (by omega) ⟨l3.trans lM, l4.trans lF, lS, l5.trans lT, w, lI, lQ, lP, by omega, by omega⟩ v) ?_
    rintro ⟨r115, s116, s117, s118, s119, s120, s121, s122, s123, s124, s125, s126, s127, s128, s129⟩ ⟨m', v'⟩
    obtain ⟨lM', lF', lS', lT', w', lI', lQ', lP', f0', f1'⟩ := m'
    refine Tot.bind (own_fi stamp w' (l1.trans sd) (l2.trans pr) lM' lS' (l6.trans sp) lT' (acc + 1) v1 v2 r115 v4 p a0 (by omega)) ?_
    rintro ⟨s130, s131, s132, s133, s134, s135, s136⟩ ⟨q1, q2, q3, q4, q5⟩
    exact Tot.mk ⟨rfl, rfl, l1.trans sd, l2.trans pr, q3, by omega, by omega, ⟨q1, lF', q2, q4, q5, lI', lQ', lP', f0', f1'⟩, v'⟩
  have key2 : Tot (f_submit_11 ma tc SD PR RM FL ST SP TP RI FI FQ FP LI LR LA acc stamp RN FN LN v1 v2 v3 v4) (fun (r, SD, PR, RM, FL, ST, SP, TP, RI, FI, FQ, FP, LI, LR, LA, acc', stamp, RN, FN, LN) => r = acc + 1 ∧ acc' = acc + 1 ∧ own_B SD PR RM FL ST SP TP RI FI FQ FP LI LR LA acc' RN FN) := by
    unfold f_submit_11
    refine own_iL (fun c => absurd c (by omega)) (fun _ => ?_)
    refine own_iL (fun c => absurd c (by omega)) (fun _ => ?_)
    refine own_iL (fun c => absurd c (by omega)) (fun _ => ?_)
    refine own_iL (fun c => absurd c (by omega)) (fun _ => ?_)
    refine own_iE (fun _ => key) (fun c => ?_)
    exact own_iE (fun _ => key) (fun c' => absurd h4 (by rintro (h | h) <;> contradiction))
  unfold f_submit
  refine own_iE (fun _ => key2) (fun c => ?_)
  exact own_iE (fun _ => key2) (fun c' => absurd h1 (by rintro (h | h) <;> contradiction))
theorem own_sub_full {SD PR RM FL ST : List Int32} {SP : List Int64} {TP RI FI FQ FP LI LR LA : List Int32} {acc RN FN : Int32} (ma tc LN : Int32) (stamp : Int64) (v1 v2 v3 v4 : Int32) (h1 : v1 = 0 ∨ v1 = 1) (h2 : 1 ≤ v2.toInt) (h2' : v2.toInt ≤ 1000) (h3 : 1 ≤ v3.toInt) (h3' : v3.toInt ≤ 10000) (h4 : v4 = 0 ∨ v4 = 1) (ha : 255 ≤ acc.toInt) :
    f_submit ma tc SD PR RM FL ST SP TP RI FI FQ FP LI LR LA acc stamp RN FN LN v1 v2 v3 v4 = some (-5, SD, PR, RM, FL, ST, SP, TP, RI, FI, FQ, FP, LI, LR, LA, acc, stamp, RN, FN, LN) := by
  have n1 : ¬ v2 < 1 := by rw [ilt]; exact Int.not_lt.mpr h2
  have n2 : ¬ (1000 : Int32) < v2 := by rw [ilt]; exact Int.not_lt.mpr h2'
  have n3 : ¬ v3 < 1 := by rw [ilt]; exact Int.not_lt.mpr h3
  have n4 : ¬ (10000 : Int32) < v3 := by rw [ilt]; exact Int.not_lt.mpr h3'
  have n5 : ¬ acc < 255 := by rw [ilt]; exact Int.not_lt.mpr ha
  unfold f_submit f_submit_11 f_submit_55
  rw [if_neg n1, if_neg n2, if_neg n3, if_neg n4, if_neg n5]
  rcases h1 with h | h <;> rcases h4 with h' | h' <;> subst h <;> subst h' <;> rfl
theorem own_can {RM FL ST TP RI FI FQ FP : List Int32} {acc RN FN : Int32} (m : own_M RM FL ST TP RI FI FQ FP RN FN acc) (a1 : acc.toInt ≤ 255) (v1 : Int32) :
    Tot (f_cancel acc RM ST TP RI RN v1) (fun (r, RM, ST, TP, RI, RN) => own_M RM FL ST TP RI FI FQ FP RN FN acc) := by
  obtain ⟨lM, lF, lS, lT, w, lI, lQ, lP, f0, f1⟩ := m
  have e1 : (1 : Int32).toInt = 1 := rfl
  have key : 1 ≤ v1.toInt → v1.toInt ≤ acc.toInt → Tot ((wrA ST v1 (3 : Int32)).bind fun A139 => (wrA RM v1 (0 : Int32)).bind fun A140 => (wrA TP v1 (0 : Int32)).bind fun A141 => (f_removeResting RI RN v1).bind fun (s142, s143) => some ((0 : Int32), A140, A139, A141, s142, s143)) (fun (r, RM, ST, TP, RI, RN) => own_M RM FL ST TP RI FI FQ FP RN FN acc) := by
    intro b0 b1
    refine Tot.wr (by omega) (by omega) fun A1 _ l1 => ?_
    refine Tot.wr (by omega) (by omega) fun A2 _ l2 => ?_
    refine Tot.wr (by omega) (by omega) fun A3 _ l3 => ?_
    refine Tot.bind (own_rm w v1) ?_
    rintro ⟨a, b⟩ hab
    exact Tot.mk ⟨l2.trans lM, lF, l1.trans lS, l3.trans lT, hab.1, lI, lQ, lP, f0, f1⟩
  unfold f_cancel f_isResting
  by_cases c1 : v1 < 1
  · rw [if_pos c1]; exact Tot.mk ⟨lM, lF, lS, lT, w, lI, lQ, lP, f0, f1⟩
  by_cases c2 : acc < v1
  · rw [if_neg c1, if_pos c2]; exact Tot.mk ⟨lM, lF, lS, lT, w, lI, lQ, lP, f0, f1⟩
  rw [if_neg c1, if_neg c2]
  rw [ilt] at c1 c2
  rw [rdg (by omega) (by omega), Option.bind_some, Option.bind_some]
  refine own_iE (fun _ => ?_) (fun _ => ?_)
  · exact Tot.mk ⟨lM, lF, lS, lT, w, lI, lQ, lP, f0, f1⟩
  · exact key (by omega) (by omega)
theorem own_ame {RM FL ST TP RI FI FQ FP : List Int32} {SP : List Int64} {acc RN FN : Int32} (m : own_M RM FL ST TP RI FI FQ FP RN FN acc) (lSP : SP.length = 256) (a1 : acc.toInt ≤ 255) (stamp : Int64) (v1 v2 : Int32) :
    Tot (f_amend ST acc RM SP TP stamp v1 v2) (fun (r, RM, SP, TP, stamp) => SP.length = 256 ∧ own_M RM FL ST TP RI FI FQ FP RN FN acc) := by
  obtain ⟨lM, lF, lS, lT, w, lI, lQ, lP, f0, f1⟩ := m
  have e1 : (1 : Int32).toInt = 1 := rfl
  unfold f_amend f_isResting
  by_cases c1 : v1 < 1
  · rw [if_pos c1]; exact Tot.mk ⟨lSP, lM, lF, lS, lT, w, lI, lQ, lP, f0, f1⟩
  by_cases c2 : acc < v1
  · rw [if_neg c1, if_pos c2]; exact Tot.mk ⟨lSP, lM, lF, lS, lT, w, lI, lQ, lP, f0, f1⟩
  rw [if_neg c1, if_neg c2]
  rw [ilt] at c1 c2
  rw [rdg (by omega) (by omega), Option.bind_some, Option.bind_some]
  (repeat' (first | with_reducible refine own_iL (fun _ => ?_) (fun _ => ?_) | with_reducible refine own_iE (fun _ => ?_) (fun _ => ?_) | with_reducible refine own_rdR (by assumption) (by omega) (by omega) (fun _ _ _ => ?_) | with_reducible refine Tot.rd (by omega) (by omega) (fun _ _ => ?_) | with_reducible refine own_wrR (by assumption) (by omega) (by omega) (by omega) (by omega) (fun _ _ _ => ?_) | with_reducible refine Tot.wr (by omega) (by omega) (fun _ _ _ => ?_) | with_reducible refine own_bs ?_))
  all_goals exact Tot.mk ⟨by omega, by omega, by omega, by omega, by omega, w, by omega, by omega, by omega, f0, f1⟩
theorem own_Rrep (n : Nat) : own_R (List.replicate n 0) := by
  intro x hx
  rw [List.eq_of_mem_replicate hx]
  decide
theorem own_new (mi ti : Int32) : Tot (f_init mi ti) (fun (SD, PR, RM, FL, ST, SP, TP, RI, FI, FQ, FP, LI, LR, LA, ma, tc, acc, stamp, RN, FN, LN) => acc = 0 ∧ own_B SD PR RM FL ST SP TP RI FI FQ FP LI LR LA acc RN FN) := by
  unfold f_init f_init_132 f_init_141 f_init_152 f_init_165
  have l1 : (List.replicate 256 (0 : Int32)).length = 256 := List.length_replicate
  have l2 : (List.replicate 256 (0 : Int64)).length = 256 := List.length_replicate
  have l3 : (List.replicate 64 (0 : Int32)).length = 64 := List.length_replicate
  have w : own_W (List.replicate 64 0) 0 0 := ⟨l3, by decide, by decide, own_Rrep 64, fun i i0 i1 => by have : (0 : Int32).toInt = 0 := rfl; omega, fun i j i0 i1 => by have : (0 : Int32).toInt = 0 := rfl; omega⟩
  exact Tot.mk ⟨rfl, l1, l1, l2, by decide, by decide, ⟨l1, l1, l1, l1, w, l3, l3, l3, by decide, by decide⟩, own_Rrep 64, l3, l3, l3⟩
theorem own_subA {SD PR RM FL ST : List Int32} {SP : List Int64} {TP RI FI FQ FP LI LR LA : List Int32} {acc RN FN : Int32} (b : own_B SD PR RM FL ST SP TP RI FI FQ FP LI LR LA acc RN FN) (ma tc LN : Int32) (stamp : Int64) (v1 v2 v3 v4 : Int32) :
    Tot (f_submit ma tc SD PR RM FL ST SP TP RI FI FQ FP LI LR LA acc stamp RN FN LN v1 v2 v3 v4) (fun (r, SD, PR, RM, FL, ST, SP, TP, RI, FI, FQ, FP, LI, LR, LA, acc', stamp, RN, FN, LN) => own_B SD PR RM FL ST SP TP RI FI FQ FP LI LR LA acc' RN FN) := by
  by_cases h1 : v1 = 0 ∨ v1 = 1
  · by_cases h2 : 1 ≤ v2.toInt
    · by_cases h2' : v2.toInt ≤ 1000
      · by_cases h3 : 1 ≤ v3.toInt
        · by_cases h3' : v3.toInt ≤ 10000
          · by_cases h4 : v4 = 0 ∨ v4 = 1
            · by_cases ha : acc.toInt < 255
              · refine Tot.mono (own_sub b ma tc LN stamp v1 v2 v3 v4 h1 h2 h2' h3 h3' h4 ha) ?_
                rintro ⟨r, SD, PR, RM, FL, ST, SP, TP, RI, FI, FQ, FP, LI, LR, LA, acc', stamp, RN, FN, LN⟩ ⟨_, _, b'⟩
                exact b'
              · exact Tot.of (own_sub_full ma tc LN stamp v1 v2 v3 v4 h1 h2 h2' h3 h3' h4 (by omega)) b
            · unfold f_submit f_submit_11
              have n1 : ¬ v2 < 1 := by rw [ilt]; exact Int.not_lt.mpr h2
              have n2 : ¬ (1000 : Int32) < v2 := by rw [ilt]; exact Int.not_lt.mpr h2'
              have n3 : ¬ v3 < 1 := by rw [ilt]; exact Int.not_lt.mpr h3
              have n4 : ¬ (10000 : Int32) < v3 := by rw [ilt]; exact Int.not_lt.mpr h3'
              rw [if_neg n1, if_neg n2, if_neg n3, if_neg n4, if_neg (fun h => h4 (Or.inl h)), if_neg (fun h => h4 (Or.inr h))]
              rcases h1 with h | h <;> subst h <;> exact Tot.mk b
          · unfold f_submit f_submit_11
            have n1 : ¬ v2 < 1 := by rw [ilt]; exact Int.not_lt.mpr h2
            have n2 : ¬ (1000 : Int32) < v2 := by rw [ilt]; exact Int.not_lt.mpr h2'
            have n3 : ¬ v3 < 1 := by rw [ilt]; exact Int.not_lt.mpr h3
            have n4 : (10000 : Int32) < v3 := by rw [ilt]; exact Int.not_le.mp h3'
            rw [if_neg n1, if_neg n2, if_neg n3, if_pos n4]
            rcases h1 with h | h <;> subst h <;> exact Tot.mk b
        · unfold f_submit f_submit_11
          have n1 : ¬ v2 < 1 := by rw [ilt]; exact Int.not_lt.mpr h2
          have n2 : ¬ (1000 : Int32) < v2 := by rw [ilt]; exact Int.not_lt.mpr h2'
          have n3 : v3 < 1 := by rw [ilt]; exact Int.not_le.mp h3
          rw [if_neg n1, if_neg n2, if_pos n3]
          rcases h1 with h | h <;> subst h <;> exact Tot.mk b
      · unfold f_submit f_submit_11
        have n1 : ¬ v2 < 1 := by rw [ilt]; exact Int.not_lt.mpr h2
        have n2 : (1000 : Int32) < v2 := by rw [ilt]; exact Int.not_le.mp h2'
        rw [if_neg n1, if_pos n2]
        rcases h1 with h | h <;> subst h <;> exact Tot.mk b
    · unfold f_submit f_submit_11
      have n1 : v2 < 1 := by rw [ilt]; exact Int.not_le.mp h2
      rw [if_pos n1]
      rcases h1 with h | h <;> subst h <;> exact Tot.mk b
  · unfold f_submit
    rw [if_neg (fun h => h1 (Or.inl h)), if_neg (fun h => h1 (Or.inr h))]
    exact Tot.mk b
/-! What a match does, exactly -/
theorem own_i0 {P : Int32 → Prop} {k : Int32} (h : ∀ j : Int32, 0 ≤ j.toInt → j.toInt < k.toInt → P j) (hk : P k) (k0 : 0 ≤ k.toInt) (hk1 : k.toInt < 2147483647) : ∀ j : Int32, 0 ≤ j.toInt → j.toInt < (k + 1).toInt → P j := by
  have p := own_p1 (a := k) (by omega)
  intro j j0 j1
  by_cases e : j.toInt < k.toInt
  · exact h j j0 e
  · have : j = k := by rw [ieq]; omega
    rw [this]; exact hk
def own_bt (v a b : Int32) : Prop := if v = 0 then b.toInt < a.toInt else a.toInt < b.toInt
/-- the best price of a side -/
theorem own_bestX {SD PR RI : List Int32} {RN acc : Int32} (w : own_W RI RN acc) (lS : SD.length = 256) (lP : PR.length = 256) (hp : ∀ x, own_mem RI RN x → 1 ≤ (gI PR x).toInt) (v1 : Int32) :
    Tot (f_bestOf SD PR RI RN v1) (fun r => (r = 0 ∧ ∀ x, own_mem RI RN x → ¬ gI SD x = v1) ∨ (∃ x, own_mem RI RN x ∧ gI SD x = v1 ∧ gI PR x = r ∧ 1 ≤ r.toInt ∧ ∀ y, own_mem RI RN y → gI SD y = v1 → ¬ own_bt v1 (gI PR y) r)) := by
  have e0 : (0 : Int32).toInt = 0 := rfl
  have l := w.l
  have n0 := w.n0
  have n1 := w.n1
  have key : ∀ (n : Nat) (v2 v3 : Int32), 0 ≤ v3.toInt → v3.toInt ≤ RN.toInt → RN.toInt - v3.toInt < n → ((v2 = 0 ∧ ∀ j : Int32, 0 ≤ j.toInt → j.toInt < v3.toInt → ¬ gI SD (gI RI j) = v1) ∨ (∃ x, own_mem RI RN x ∧ gI SD x = v1 ∧ gI PR x = v2 ∧ 1 ≤ v2.toInt ∧ ∀ j : Int32, 0 ≤ j.toInt → j.toInt < v3.toInt → gI SD (gI RI j) = v1 → ¬ own_bt v1 (gI PR (gI RI j)) v2)) →
      Tot (f_bestOf_4 SD PR RI RN n v1 v2 v3) (fun r => (r = 0 ∧ ∀ x, own_mem RI RN x → ¬ gI SD x = v1) ∨ (∃ x, own_mem RI RN x ∧ gI SD x = v1 ∧ gI PR x = r ∧ 1 ≤ r.toInt ∧ ∀ y, own_mem RI RN y → gI SD y = v1 → ¬ own_bt v1 (gI PR y) r)) := by
    intro n
    induction n with
    | zero => intro v2 v3 h0 h1 h2; omega
    | succ n ih =>
      intro v2 v3 h0 h1 h2 hv
      unfold f_bestOf_4 f_better
      refine own_iL (fun c => ?_) (fun c => ?_)
      · have p := own_p1 (a := v3) (by omega)
        have rg := own_Rg w.r h0 (by omega)
        have hm : own_mem RI RN (gI RI v3) := ⟨v3, h0, c, rfl⟩
        have hpr := hp _ hm
        rw [rdg h0 (by omega), Option.bind_some, rdg rg.1 (by omega), Option.bind_some]
        refine own_iE (fun g => ?_) (fun g => ?_)
        · rw [rdg rg.1 (by omega), Option.bind_some]
          refine own_iE (fun z => ?_) (fun z => ?_)
          · rcases hv with ⟨_, hv⟩ | ⟨x, _, _, _, hx, _⟩
            · refine ih _ _ (by omega) (by omega) (by omega) (Or.inr ⟨_, hm, g, rfl, hpr, ?_⟩)
              refine own_i0 (fun j j0 j1 hs => absurd hs (hv j j0 j1)) (fun _ => ?_) h0 (by omega)
              unfold own_bt
              split <;> omega
            · rw [z] at hx; exact absurd hx (by decide)
          · rcases hv with ⟨hz, _⟩ | ⟨x, hx1, hx2, hx3, hx4, hx5⟩
            · exact absurd hz z
            · refine own_bs ?_
              by_cases b : own_bt v1 (gI PR (gI RI v3)) v2
              · have e : (if (if v1 = (0 : Int32) then (if v2 < gI PR (gI RI v3) then (1 : Int32) else (0 : Int32)) else (if gI PR (gI RI v3) < v2 then (1 : Int32) else (0 : Int32))) = (0 : Int32) then v2 else gI PR (gI RI v3)) = gI PR (gI RI v3) := by
                  unfold own_bt at b
                  by_cases q : v1 = 0
                  · rw [if_pos q] at b ⊢; rw [if_pos (ilt.mpr b), if_neg (by decide)]
                  · rw [if_neg q] at b ⊢; rw [if_pos (ilt.mpr b), if_neg (by decide)]
                rw [e]
                refine ih _ _ (by omega) (by omega) (by omega) (Or.inr ⟨_, hm, g, rfl, hpr, ?_⟩)
                refine own_i0 (fun j j0 j1 hs hb => ?_) (fun _ => ?_) h0 (by omega)
                · refine hx5 j j0 j1 hs ?_
                  unfold own_bt at b hb ⊢
                  by_cases q : v1 = 0
                  · rw [if_pos q] at b hb ⊢; omega
                  · rw [if_neg q] at b hb ⊢; omega
                · unfold own_bt
                  split <;> omega
              · have e : (if (if v1 = (0 : Int32) then (if v2 < gI PR (gI RI v3) then (1 : Int32) else (0 : Int32)) else (if gI PR (gI RI v3) < v2 then (1 : Int32) else (0 : Int32))) = (0 : Int32) then v2 else gI PR (gI RI v3)) = v2 := by
                  have b' := b
                  unfold own_bt at b
                  by_cases q : v1 = 0
                  · rw [if_pos q] at b ⊢; rw [if_neg (fun z => b (ilt.mp z)), if_pos rfl]
                  · rw [if_neg q] at b ⊢; rw [if_neg (fun z => b (ilt.mp z)), if_pos rfl]
                rw [e]
                exact ih _ _ (by omega) (by omega) (by omega) (Or.inr ⟨x, hx1, hx2, hx3, hx4, own_i0 hx5 (fun _ => b) h0 (by omega)⟩)
        · rcases hv with ⟨hz, hv⟩ | ⟨x, hx1, hx2, hx3, hx4, hx5⟩
          · exact ih _ _ (by omega) (by omega) (by omega) (Or.inl ⟨hz, own_i0 hv g h0 (by omega)⟩)
          · exact ih _ _ (by omega) (by omega) (by omega) (Or.inr ⟨x, hx1, hx2, hx3, hx4, own_i0 hx5 (fun q => absurd q g) h0 (by omega)⟩)
      · have e : v3.toInt = RN.toInt := by omega
        rw [e] at hv
        refine Tot.mk ?_
        rcases hv with ⟨hz, hv⟩ | ⟨x, hx1, hx2, hx3, hx4, hx5⟩
        · left
          refine ⟨hz, ?_⟩
          rintro x ⟨j, j0, j1, ej⟩
          rw [← ej]; exact hv j j0 j1
        · right
          refine ⟨x, hx1, hx2, hx3, hx4, ?_⟩
          rintro y ⟨j, j0, j1, ej⟩ hy
          rw [← ej] at hy ⊢
          exact hx5 j j0 j1 hy
  exact key 100000 0 0 (by omega) (by omega) (by omega) (Or.inl ⟨rfl, fun j j0 j1 => by omega⟩)
/-- the ids of one level -/
abbrev own_G (LI : List Int32) (LN : Int32) : Prop := (own_R LI) ∧ (LI.length = 64) ∧ (0 ≤ LN.toInt) ∧ (LN.toInt ≤ 64) ∧ (∀ i j : Int32, 0 ≤ i.toInt → i.toInt < LN.toInt → 0 ≤ j.toInt → j.toInt < LN.toInt → gI LI i = gI LI j → i = j)
theorem own_G.r {LI : List Int32} {LN : Int32} (self : own_G LI LN) : own_R LI := self.1
theorem own_G.l {LI : List Int32} {LN : Int32} (self : own_G LI LN) : LI.length = 64 := self.2.1
theorem own_G.n0 {LI : List Int32} {LN : Int32} (self : own_G LI LN) : 0 ≤ LN.toInt := self.2.2.1
theorem own_G.n1 {LI : List Int32} {LN : Int32} (self : own_G LI LN) : LN.toInt ≤ 64 := self.2.2.2.1
theorem own_G.d {LI : List Int32} {LN : Int32} (self : own_G LI LN) : ∀ i j : Int32, 0 ≤ i.toInt → i.toInt < LN.toInt → 0 ≤ j.toInt → j.toInt < LN.toInt → gI LI i = gI LI j → i = j := self.2.2.2.2
theorem own_gatX {SD PR RI LI : List Int32} {RN acc : Int32} (LN : Int32) (w : own_W RI RN acc) (lS : SD.length = 256) (lP : PR.length = 256) (v1 v2 : Int32) (hR : own_R LI) (hl : LI.length = 64) :
    Tot (f_gatherLevel SD PR RI RN LI LN v1 v2) (fun p => own_G p.1 p.2 ∧ ∀ x, own_mem p.1 p.2 x ↔ own_mem RI RN x ∧ gI SD x = v1 ∧ gI PR x = v2) := by
  have e0 : (0 : Int32).toInt = 0 := rfl
  have e64 : (64 : Int32).toInt = 64 := rfl
  have l := w.l
  have n0 := w.n0
  have n1 := w.n1
  have key : ∀ (n : Nat) (LI : List Int32) (LN v3 : Int32), 0 ≤ v3.toInt → v3.toInt ≤ RN.toInt → RN.toInt - v3.toInt < n → own_G LI LN → LN.toInt ≤ v3.toInt → (∀ x, own_mem LI LN x ↔ own_mem RI v3 x ∧ gI SD x = v1 ∧ gI PR x = v2) →
      Tot (f_gatherLevel_7 SD PR RI RN n LI LN v1 v2 v3) (fun p => own_G p.1 p.2 ∧ ∀ x, own_mem p.1 p.2 x ↔ own_mem RI RN x ∧ gI SD x = v1 ∧ gI PR x = v2) := by
    intro n
    induction n with
    | zero => intro LI LN v3 h0 h1 h2; omega
    | succ n ih =>
      intro LI LN v3 h0 h1 h2 g h3 hm
      have gl := g.l
      have gn0 := g.n0
      have gn1 := g.n1
      unfold f_gatherLevel_7
      refine own_iL (fun c => ?_) (fun c => ?_)
      · have p := own_p1 (a := v3) (by omega)
        have p2 := own_p1 (a := LN) (by omega)
        have rg := own_Rg w.r h0 (by omega)
        have up : ∀ x, own_mem RI (v3 + 1) x ↔ own_mem RI v3 x ∨ gI RI v3 = x := by
          intro x
          constructor
          · rintro ⟨j, j0, j1, ej⟩
            by_cases e : j.toInt < v3.toInt
            · exact Or.inl ⟨j, j0, e, ej⟩
            · have : j = v3 := by rw [ieq]; omega
              rw [this] at ej; exact Or.inr ej
          · rintro (⟨j, j0, j1, ej⟩ | h)
            · exact ⟨j, j0, by omega, ej⟩
            · exact ⟨v3, h0, by omega, h⟩
        have skip : ¬ (gI SD (gI RI v3) = v1 ∧ gI PR (gI RI v3) = v2) → Tot (f_gatherLevel_7 SD PR RI RN n LI LN v1 v2 (v3 + 1)) (fun p => own_G p.1 p.2 ∧ ∀ x, own_mem p.1 p.2 x ↔ own_mem RI RN x ∧ gI SD x = v1 ∧ gI PR x = v2) := by
          intro no
          refine ih _ _ _ (by omega) (by omega) (by omega) g (by omega) ?_
          intro x
          rw [hm x, up x]
          constructor
          · rintro ⟨a, b⟩; exact ⟨Or.inl a, b⟩
          · rintro ⟨a | a, b⟩
            · exact ⟨a, b⟩
            · rw [← a] at b; exact absurd b no
        rw [rdg h0 (by omega), Option.bind_some, rdg rg.1 (by omega), Option.bind_some]
        refine own_iE (fun g1 => ?_) (fun g1 => skip (fun q => g1 q.1))
        rw [rdg rg.1 (by omega), Option.bind_some]
        refine own_iE (fun g2 => ?_) (fun g2 => skip (fun q => g2 q.2))
        refine own_iL (fun c2 => ?_) (fun c2 => absurd c2 (by omega))
        rw [wrA_in gn0 (by omega), Option.bind_some]
        have gs : ∀ j : Int32, 0 ≤ j.toInt → gI (LI.set LN.toInt.toNat (gI RI v3)) j = if LN = j then gI RI v3 else gI LI j := fun j hj => gset gn0 (by omega) hj
        have fresh : ∀ i : Int32, 0 ≤ i.toInt → i.toInt < LN.toInt → ¬ gI LI i = gI RI v3 := by
          intro i i0 i1 hi
          obtain ⟨⟨j, j0, j1, ej⟩, _⟩ := (hm (gI RI v3)).mp ⟨i, i0, i1, hi⟩
          have := w.d j v3 j0 (by omega) h0 c ej
          rw [ieq] at this
          omega
        refine ih _ _ _ (by omega) (by omega) (by omega) ⟨own_Rs g.r rg.1 rg.2, by rw [List.length_set]; exact gl, by omega, by omega, ?_⟩ (by omega) ?_
        · intro i j i0 i1 j0 j1 hh
          rw [gs i i0, gs j j0] at hh
          by_cases ei : LN = i <;> by_cases ej : LN = j
          · rw [← ei, ← ej]
          · rw [if_pos ei, if_neg ej] at hh
            rw [ieq] at ej
            exact absurd hh.symm (fresh j j0 (by omega))
          · rw [if_neg ei, if_pos ej] at hh
            rw [ieq] at ei
            exact absurd hh (fresh i i0 (by omega))
          · rw [if_neg ei, if_neg ej] at hh
            rw [ieq] at ei ej
            exact g.d i j i0 (by omega) j0 (by omega) hh
        · intro x
          rw [up x]
          constructor
          · rintro ⟨j, j0, j1, ej⟩
            rw [gs j j0] at ej
            by_cases e : LN = j
            · rw [if_pos e] at ej
              refine ⟨Or.inr ej, ?_⟩
              rw [← ej]; exact ⟨g1, g2⟩
            · rw [if_neg e] at ej
              rw [ieq] at e
              obtain ⟨a, b⟩ := (hm x).mp ⟨j, j0, by omega, ej⟩
              exact ⟨Or.inl a, b⟩
          · rintro ⟨a | a, b⟩
            · obtain ⟨j, j0, j1, ej⟩ := (hm x).mpr ⟨a, b⟩
              refine ⟨j, j0, by omega, ?_⟩
              rw [gs j j0, if_neg (by rw [ieq]; omega)]
              exact ej
            · refine ⟨LN, gn0, by omega, ?_⟩
              rw [gs LN gn0, if_pos rfl]
              exact a
      · have e : v3 = RN := by rw [ieq]; omega
        rw [e] at hm
        exact Tot.mk ⟨g, hm⟩
  refine key 100000 LI 0 0 (by omega) (by omega) (by omega) ⟨hR, hl, by omega, by omega, fun i j i0 i1 => by omega⟩ (by omega) ?_
  intro x
  constructor
  · rintro ⟨j, j0, j1, _⟩; omega
  · rintro ⟨⟨j, j0, j1, _⟩, _⟩; omega
/-- sorting keeps the ids -/
theorem own_srtX {SP : List Int64} {LI0 : List Int32} {LN : Int32} (lSP : SP.length = 256) (g0 : own_G LI0 LN) :
    Tot (f_sortLevel SP LN LI0) (fun LI => own_G LI LN ∧ ∀ x, own_mem LI LN x ↔ own_mem LI0 LN x) := by
  have e0 : (0 : Int32).toInt = 0 := rfl
  have e1 : (1 : Int32).toInt = 1 := rfl
  have n1 := g0.n1
  have swap : ∀ (M : List Int32) (j : Int32), 1 ≤ j.toInt → j.toInt < LN.toInt → own_G M LN → (∀ x, own_mem M LN x ↔ own_mem LI0 LN x) → ∀ M' : List Int32, M'.length = 64 → own_R M' → (∀ i : Int32, 0 ≤ i.toInt → gI M' i = if i = j - 1 then gI M j else if i = j then gI M (j - 1) else gI M i) → own_G M' LN ∧ ∀ x, own_mem M' LN x ↔ own_mem LI0 LN x := by
    intro M j j0 j1 g hm M' l' r' hg
    have pj := own_m1 (a := j) (by omega)
    have nj : ¬ j = j - 1 := by rw [ieq]; omega
    refine ⟨⟨r', l', g.n0, g.n1, ?_⟩, ?_⟩
    · intro a b a0 a1 b0 b1 hh
      rw [hg a a0, hg b b0] at hh
      by_cases h1 : a = j - 1
      · rw [if_pos h1] at hh
        by_cases h2 : b = j - 1
        · rw [h1, h2]
        · rw [if_neg h2] at hh
          by_cases h3 : b = j
          · rw [if_pos h3] at hh
            have := g.d _ _ (by omega) (by omega) (by omega) (by omega) hh
            exact absurd this nj
          · rw [if_neg h3] at hh
            exact absurd (g.d _ _ (by omega) (by omega) b0 b1 hh).symm h3
      · rw [if_neg h1] at hh
        by_cases h3 : a = j
        · rw [if_pos h3] at hh
          by_cases h2 : b = j - 1
          · rw [if_pos h2] at hh
            have := g.d _ _ (by omega) (by omega) (by omega) (by omega) hh
            exact absurd this.symm nj
          · rw [if_neg h2] at hh
            by_cases h4 : b = j
            · rw [h3, h4]
            · rw [if_neg h4] at hh
              exact absurd (g.d _ _ (by omega) (by omega) b0 b1 hh).symm h2
        · rw [if_neg h3] at hh
          by_cases h2 : b = j - 1
          · rw [if_pos h2] at hh
            exact absurd (g.d _ _ a0 a1 (by omega) (by omega) hh) h3
          · rw [if_neg h2] at hh
            by_cases h4 : b = j
            · rw [if_pos h4] at hh
              exact absurd (g.d _ _ a0 a1 (by omega) (by omega) hh) h1
            · rw [if_neg h4] at hh
              exact g.d _ _ a0 a1 b0 b1 hh
    · intro x
      rw [← hm x]
      constructor
      · rintro ⟨i, i0, i1, ei⟩
        rw [hg i i0] at ei
        by_cases h1 : i = j - 1
        · rw [if_pos h1] at ei; exact ⟨j, by omega, j1, ei⟩
        · rw [if_neg h1] at ei
          by_cases h2 : i = j
          · rw [if_pos h2] at ei; exact ⟨j - 1, by omega, by omega, ei⟩
          · rw [if_neg h2] at ei; exact ⟨i, i0, i1, ei⟩
      · rintro ⟨i, i0, i1, ei⟩
        by_cases h1 : i = j - 1
        · refine ⟨j, by omega, j1, ?_⟩
          rw [hg j (by omega), if_neg nj, if_pos rfl, ← h1]; exact ei
        · by_cases h2 : i = j
          · refine ⟨j - 1, by omega, by omega, ?_⟩
            rw [hg _ (by omega), if_pos rfl, ← h2]; exact ei
          · refine ⟨i, i0, i1, ?_⟩
            rw [hg i i0, if_neg h1, if_neg h2]; exact ei
  have k2 : ∀ (n : Nat) (LI : List Int32) (v1 : Int32), 1 ≤ v1.toInt → 65 - v1.toInt ≤ n → v1.toInt ≤ 64 → own_G LI LN → (∀ x, own_mem LI LN x ↔ own_mem LI0 LN x) → Tot (f_sortLevel_2 SP LN n LI v1) (fun LI => own_G LI LN ∧ ∀ x, own_mem LI LN x ↔ own_mem LI0 LN x) := by
    intro n
    induction n with
    | zero => intro LI v1 h0 h1 h2; omega
    | succ n ih =>
      intro LI v1 h0 h1 h2 g hm
      have gl := g.l
      unfold f_sortLevel_2
      refine own_iL (fun c => ?_) (fun c => Tot.mk ⟨g, hm⟩)
      have p := own_p1 (a := v1) (by omega)
      have rg := own_Rg g.r (j := v1) (by omega) (by omega)
      rw [rdg (by omega) (by omega), Option.bind_some]
      refine Tot.rd rg.1 (by omega) fun st _ => ?_
      have k27 : ∀ (m : Nat) (L : List Int32) (v5 : Int32), 0 ≤ v5.toInt → v5.toInt ≤ v1.toInt → v5.toInt < m → L.length = 64 → own_R L → own_G (L.set v5.toInt.toNat (gI LI v1)) LN → (∀ x, own_mem (L.set v5.toInt.toNat (gI LI v1)) LN x ↔ own_mem LI0 LN x) → Tot (f_sortLevel_27 (f_sortLevel_73 (f_sortLevel_2 SP LN n) SP LN) SP LN m L v1 (gI LI v1) st v5) (fun LI => own_G LI LN ∧ ∀ x, own_mem LI LN x ↔ own_mem LI0 LN x) := by
        intro m
        induction m with
        | zero => intro L v5 a0 a1 a2; omega
        | succ m ihm =>
          intro L v5 a0 a1 a2 lL rL gM hM
          have fin1 : Tot (f_sortLevel_73 (f_sortLevel_2 SP LN n) SP LN L v1 (gI LI v1) v5) (fun LI => own_G LI LN ∧ ∀ x, own_mem LI LN x ↔ own_mem LI0 LN x) := by
            unfold f_sortLevel_73
            rw [wrA_in a0 (by omega), Option.bind_some]
            exact ih _ _ (by omega) (by omega) (by omega) gM hM
          unfold f_sortLevel_27
          refine own_iL (fun c1 => ?_) (fun c1 => fin1)
          have m1 := own_m1 (a := v5) (by omega)
          have em : v5 + (-1) = v5 - 1 := (Int32.sub_eq_add_neg v5 1).symm
          have r5 := own_Rg rL (j := v5 - 1) (by omega) (by omega)
          rw [rdg (by omega) (by omega), Option.bind_some]
          refine Tot.rd r5.1 (by omega) fun sx _ => ?_
          refine Tot.ite (fun _ => ?_) (fun _ => fin1)
          rw [Option.bind_some, wrA_in a0 (by omega), Option.bind_some, em]
          have lM : (L.set v5.toInt.toNat (gI LI v1)).length = 64 := gM.l
          have l2 : (L.set v5.toInt.toNat (gI L (v5 - 1))).length = 64 := by rw [List.length_set]; exact lL
          have r2 := own_Rs (j := v5.toInt.toNat) rL r5.1 r5.2
          have hg : ∀ i : Int32, 0 ≤ i.toInt → gI ((L.set v5.toInt.toNat (gI L (v5 - 1))).set (v5 - 1).toInt.toNat (gI LI v1)) i = if i = v5 - 1 then gI (L.set v5.toInt.toNat (gI LI v1)) v5 else if i = v5 then gI (L.set v5.toInt.toNat (gI LI v1)) (v5 - 1) else gI (L.set v5.toInt.toNat (gI LI v1)) i := by
            intro i i0
            have nv : ¬ v5 = v5 - 1 := fun h => by rw [ieq] at h; omega
            have A := gset (L := L) (i := v5) (j := v5) (x := gI LI v1) a0 (by omega) a0
            have B := gset (L := L) (i := v5) (j := v5 - 1) (x := gI LI v1) a0 (by omega) (by omega)
            have C := gset (L := L) (i := v5) (j := i) (x := gI LI v1) a0 (by omega) i0
            have D := gset (L := L) (i := v5) (j := i) (x := gI L (v5 - 1)) a0 (by omega) i0
            have E := gset (L := L.set v5.toInt.toNat (gI L (v5 - 1))) (i := v5 - 1) (j := i) (x := gI LI v1) (by omega) (by omega) i0
            rw [if_pos rfl] at A
            rw [if_neg nv] at B
            rw [E, A, B, C, D]
            by_cases h1 : i = v5 - 1
            · rw [if_pos h1, if_pos h1.symm]
            · rw [if_neg h1, if_neg (fun h => h1 h.symm)]
              by_cases h2 : i = v5
              · rw [if_pos h2, if_pos h2.symm]
              · rw [if_neg h2, if_neg (fun h => h2 h.symm), if_neg (fun h => h2 h.symm)]
          obtain ⟨gN, hN⟩ := swap _ v5 (by omega) (by omega) gM hM _ (by rw [List.length_set]; exact l2) (own_Rs r2 rg.1 rg.2) hg
          exact ihm _ _ (by omega) (by omega) (by omega) l2 r2 gN hN
      have es : LI.set v1.toInt.toNat (gI LI v1) = LI := by
        refine gext (by rw [List.length_set, gl]; omega) (by rw [List.length_set]) (fun i i0 i1 => ?_)
        rw [gset (by omega) (by omega) i0]
        by_cases e : v1 = i
        · rw [if_pos e, e]
        · rw [if_neg e]
      exact k27 100000 LI v1 (by omega) (by omega) (by omega) gl g.r (by rw [es]; exact g) (by rw [es]; exact hm)
  exact k2 100000 LI0 1 (by omega) (by omega) (by omega) g0 (fun x => Iff.rfl)
/-! Allocation: what is given out sums to what is executed -/
def own_sm (L : List Int32) : Nat → Int
  | 0 => 0
  | n + 1 => own_sm L n + (gI L (Int32.ofNat n)).toInt
theorem own_sm_s {L : List Int32} {k x : Int32} (k0 : 0 ≤ k.toInt) (k1 : k.toInt < L.length) : ∀ n : Nat, n ≤ L.length → n ≤ 100000 → own_sm (L.set k.toInt.toNat x) n = own_sm L n + (if k.toInt < n then x.toInt - (gI L k).toInt else 0) := by
  intro n
  induction n with
  | zero => intro _ _; rw [own_sm, own_sm, if_neg (by omega)]; omega
  | succ n ih =>
    intro h1 h2
    have i := ih (by omega) (by omega)
    have en : (Int32.ofNat n).toInt = n := Int32.toInt_ofNat_of_lt (by omega)
    rw [own_sm, own_sm, i, gset k0 k1 (by omega)]
    by_cases e : k = Int32.ofNat n
    · rw [if_pos e, ← e]
      have ek := ieq.mp e
      rw [if_neg (by omega), if_pos (by omega)]
      omega
    · rw [if_neg e]
      rw [ieq, en] at e
      by_cases g : k.toInt < n
      · rw [if_pos g, if_pos (by omega)]; omega
      · rw [if_neg g, if_neg (by omega)]; omega
theorem own_sm_le {L : List Int32} {m : Nat} {lo hi : Int} (hm : m ≤ 64) (h : ∀ i : Int32, 0 ≤ i.toInt → i.toInt < m → lo ≤ (gI L i).toInt ∧ (gI L i).toInt ≤ hi) : ∀ n : Nat, n ≤ m → n * lo ≤ own_sm L n ∧ own_sm L n ≤ n * hi := by
  intro n
  induction n with
  | zero => intro _; rw [own_sm]; omega
  | succ n ih =>
    intro hn
    have i := ih (by omega)
    have en : (Int32.ofNat n).toInt = n := Int32.toInt_ofNat_of_lt (by omega)
    have r := h (Int32.ofNat n) (by omega) (by omega)
    rw [own_sm, Int.natCast_succ, Int.add_mul, Int.add_mul, Int.one_mul, Int.one_mul]
    omega
theorem own_sm_mono {A B : List Int32} {m : Nat} (hm : m ≤ 64) (h : ∀ i : Int32, 0 ≤ i.toInt → i.toInt < m → (gI A i).toInt ≤ (gI B i).toInt) : ∀ n : Nat, n ≤ m → own_sm A n ≤ own_sm B n := by
  intro n
  induction n with
  | zero => intro _; exact Int.le_refl _
  | succ n ih =>
    intro hn
    have i := ih (by omega)
    have en : (Int32.ofNat n).toInt = n := Int32.toInt_ofNat_of_lt (by omega)
    have r := h (Int32.ofNat n) (by omega) (by omega)
    rw [own_sm, own_sm]
    omega
theorem own_sm_rest {A B : List Int32} {m : Nat} (hm : m ≤ 64) (h : ∀ i : Int32, 0 ≤ i.toInt → i.toInt < m → (gI A i).toInt ≤ (gI B i).toInt) (n : Nat) : ∀ k : Nat, n + k ≤ m → own_sm A (n + k) - own_sm A n ≤ own_sm B (n + k) - own_sm B n := by
  intro k
  induction k with
  | zero => intro _; rw [Nat.add_zero]; omega
  | succ k ih =>
    intro hk
    have i := ih (by omega)
    have en : (Int32.ofNat (n + k)).toInt = (n + k : Nat) := Int32.toInt_ofNat_of_lt (by omega)
    have r := h (Int32.ofNat (n + k)) (by omega) (by omega)
    rw [← Nat.add_assoc, own_sm, own_sm]
    omega
theorem own_sm_1 (L : List Int32) {v : Int32} (v0 : 0 ≤ v.toInt) (v1 : v.toInt < 100000) : own_sm L ((v + 1).toInt.toNat) = own_sm L v.toInt.toNat + (gI L v).toInt := by
  have p := own_p1 (a := v) (by omega)
  have e : Int32.ofNat v.toInt.toNat = v := by
    rw [ieq, Int32.toInt_ofNat_of_lt (by omega)]
    omega
  rw [show (v + 1).toInt.toNat = v.toInt.toNat + 1 by omega, own_sm, e]
/-- what is left at a level, and what is given -/
abbrev own_A (LR LA : List Int32) (LN : Int32) : Prop := (LR.length = 64) ∧ (LA.length = 64) ∧ (0 ≤ LN.toInt) ∧ (LN.toInt ≤ 64) ∧ (∀ i : Int32, 0 ≤ i.toInt → i.toInt < LN.toInt → 1 ≤ (gI LR i).toInt ∧ (gI LR i).toInt ≤ 10000) ∧ (∀ i : Int32, 0 ≤ i.toInt → i.toInt < LN.toInt → 0 ≤ (gI LA i).toInt ∧ (gI LA i).toInt ≤ (gI LR i).toInt)
theorem own_A.lR {LR LA : List Int32} {LN : Int32} (self : own_A LR LA LN) : LR.length = 64 := self.1
theorem own_A.lA {LR LA : List Int32} {LN : Int32} (self : own_A LR LA LN) : LA.length = 64 := self.2.1
theorem own_A.n0 {LR LA : List Int32} {LN : Int32} (self : own_A LR LA LN) : 0 ≤ LN.toInt := self.2.2.1
theorem own_A.n1 {LR LA : List Int32} {LN : Int32} (self : own_A LR LA LN) : LN.toInt ≤ 64 := self.2.2.2.1
theorem own_A.r {LR LA : List Int32} {LN : Int32} (self : own_A LR LA LN) : ∀ i : Int32, 0 ≤ i.toInt → i.toInt < LN.toInt → 1 ≤ (gI LR i).toInt ∧ (gI LR i).toInt ≤ 10000 := self.2.2.2.2.1
theorem own_A.a {LR LA : List Int32} {LN : Int32} (self : own_A LR LA LN) : ∀ i : Int32, 0 ≤ i.toInt → i.toInt < LN.toInt → 0 ≤ (gI LA i).toInt ∧ (gI LA i).toInt ≤ (gI LR i).toInt := self.2.2.2.2.2
theorem own_A.put {LR LA : List Int32} {LN k x : Int32} (h : own_A LR LA LN) (k0 : 0 ≤ k.toInt) (k1 : k.toInt < LN.toInt) (x0 : 0 ≤ x.toInt) (x1 : x.toInt ≤ (gI LR k).toInt) : own_A LR (LA.set k.toInt.toNat x) LN ∧ own_sm (LA.set k.toInt.toNat x) LN.toInt.toNat = own_sm LA LN.toInt.toNat + x.toInt - (gI LA k).toInt := by
  have lA := h.lA
  have n1 := h.n1
  refine ⟨⟨h.lR, by rw [List.length_set]; exact lA, h.n0, n1, h.r, ?_⟩, ?_⟩
  · intro i i0 i1
    rw [gset k0 (by omega) i0]
    by_cases e : k = i
    · rw [if_pos e, ← e]; exact ⟨x0, x1⟩
    · rw [if_neg e]; exact h.a i i0 i1
  · rw [own_sm_s k0 (by omega) _ (by omega) (by omega), if_pos (by omega)]
    omega
theorem own_topX {TP LI LR LA : List Int32} {tc LN v1 : Int32} (lT : TP.length = 256) (g : own_G LI LN) (h : own_A LR LA LN) (hz : ∀ i : Int32, 0 ≤ i.toInt → i.toInt < LN.toInt → gI LA i = 0) (s0 : own_sm LA LN.toInt.toNat = 0) (v0 : 0 ≤ v1.toInt) :
    Tot (f_topStep TP LI LR tc LN LA v1) (fun p => own_A LR p.2 LN ∧ 0 ≤ p.1.toInt ∧ p.1.toInt ≤ v1.toInt ∧ own_sm p.2 LN.toInt.toNat = p.1.toInt) := by
  have e0 : (0 : Int32).toInt = 0 := rfl
  have gl := g.l
  have lR := h.lR
  have lA := h.lA
  have n1 := h.n1
  unfold f_topStep
  refine own_iL (fun ct => ?_) (fun _ => Tot.mk ⟨h, Int.le_refl 0, by dsimp only; omega, by dsimp only; omega⟩)
  have key : ∀ (n : Nat) (v2 : Int32), 0 ≤ v2.toInt → v2.toInt ≤ 64 → 65 - v2.toInt ≤ n → Tot (f_topStep_11 (f_topStep_35 TP LI LR tc LN) TP LI LR tc LN n LA v1 v2) (fun p => own_A LR p.2 LN ∧ 0 ≤ p.1.toInt ∧ p.1.toInt ≤ v1.toInt ∧ own_sm p.2 LN.toInt.toNat = p.1.toInt) := by
    intro n
    induction n with
    | zero => intro v2 a b c; omega
    | succ n ih =>
      intro v2 a b c
      unfold f_topStep_11
      refine own_iL (fun c1 => ?_) (fun _ => Tot.mk ⟨h, Int.le_refl 0, by dsimp only; omega, by dsimp only; omega⟩)
      have p := own_p1 (a := v2) (by omega)
      have rg := own_Rg g.r a (by omega)
      rw [rdg a (by omega), Option.bind_some]
      refine Tot.rd rg.1 (by omega) fun tp _ => ?_
      refine own_iE (fun _ => ih _ (by omega) (by omega) (by omega)) (fun _ => ?_)
      have rr := h.r v2 a c1
      have az := hz v2 a c1
      have fin1 : ∀ t : Int32, t.toInt ≤ v1.toInt → t.toInt ≤ (gI LR v2).toInt → Tot (f_topStep_57 TP LI LR tc LN LA v2 t) (fun p => own_A LR p.2 LN ∧ 0 ≤ p.1.toInt ∧ p.1.toInt ≤ v1.toInt ∧ own_sm p.2 LN.toInt.toNat = p.1.toInt) := by
        intro t t1 t2
        unfold f_topStep_57 f_topStep_72 f_topStep_80
        have hs : ∃ s : Int32, (if (if tc < t then tc else t) < (0 : Int32) then (0 : Int32) else (if tc < t then tc else t)) = s ∧ 0 ≤ s.toInt ∧ s.toInt ≤ v1.toInt ∧ s.toInt ≤ (gI LR v2).toInt := by
          refine ⟨_, rfl, ?_⟩
          by_cases q : tc < t
          · rw [if_pos q, if_neg (fun z => by rw [ilt] at z; omega)]
            rw [ilt] at q
            omega
          · rw [if_neg q]
            by_cases q2 : t < 0
            · rw [if_pos q2]; omega
            · rw [if_neg q2]; rw [ilt] at q2; omega
        obtain ⟨s, es, s1, s2, s3⟩ := hs
        rw [es, rdg a (by omega), Option.bind_some, az, wrA_in a (by omega), Option.bind_some, Int32.zero_add]
        obtain ⟨q1, q2⟩ := h.put a c1 s1 s3
        refine Tot.mk ⟨q1, s1, s2, ?_⟩
        show own_sm (LA.set v2.toInt.toNat s) LN.toInt.toNat = s.toInt
        rw [q2, az, s0]
        omega
      unfold f_topStep_35
      rw [rdg a (by omega), Option.bind_some]
      refine own_iL (fun c2 => ?_) (fun c2 => ?_)
      · rw [Option.bind_some]; exact fin1 _ (by omega) (by omega)
      · exact fin1 _ (by omega) (by omega)
  exact key 100000 0 (by omega) (by omega) (by omega)
theorem own_div1 {e b S : Int} (he : 0 ≤ e) (heS : e ≤ S) (hb : 0 ≤ b) (hS : 0 < S) : 0 ≤ e * b / S ∧ e * b / S ≤ b ∧ (e * b / S) * S ≤ e * b := by
  have m : 0 ≤ e * b := Int.mul_nonneg he hb
  refine ⟨Int.ediv_nonneg m (by omega), ?_, Int.ediv_mul_le _ (by omega)⟩
  apply Int.ediv_le_of_le_mul hS
  rw [Int.mul_comm b S]
  exact Int.mul_le_mul_of_nonneg_right heS hb
theorem own_ldiv {a b : Int64} (h0 : 0 ≤ a.toInt) (h1 : a.toInt < 9000000000000000000) (hb : 0 < b.toInt) : (a / b).toInt = a.toInt / b.toInt := by
  have d0 := Int.ediv_nonneg h0 (show 0 ≤ b.toInt by omega)
  have d1 : a.toInt / b.toInt ≤ a.toInt := Int.ediv_le_self _ h0
  rw [Int64.toInt_div, Int.tdiv_eq_ediv_of_nonneg h0]
  exact Int.bmod_eq_of_le (by omega) (by omega)
theorem own_l32 {a : Int64} (h0 : -2147483648 ≤ a.toInt) (h1 : a.toInt < 2147483648) : a.toInt32.toInt = a.toInt := by
  rw [Int64.toInt_toInt32]
  exact Int.bmod_eq_of_le (by omega) (by omega)
theorem own_prX {LR LA : List Int32} {ma LN e2 : Int32} (h : own_A LR LA LN) (e0' : 0 < e2.toInt) (e1' : e2.toInt ≤ own_sm LR LN.toInt.toNat - own_sm LA LN.toInt.toNat) (e2' : e2.toInt ≤ 1000000) :
    Tot (f_proRataStep LR ma LN LA e2) (fun p => own_A LR p.2 LN ∧ 0 ≤ p.1.toInt ∧ p.1.toInt ≤ e2.toInt ∧ own_sm p.2 LN.toInt.toNat = own_sm LA LN.toInt.toNat + p.1.toInt) := by
  have e0 : (0 : Int32).toInt = 0 := rfl
  have l0 : (0 : Int64).toInt = 0 := rfl
  have lR := h.lR
  have lA := h.lA
  have n0 := h.n0
  have n1 := h.n1
  have key53 : ∀ (S : Int64), S.toInt = own_sm LR LN.toInt.toNat - own_sm LA LN.toInt.toNat → ∀ (n : Nat) (B : List Int32) (v4 v5 : Int32), 0 ≤ v5.toInt → v5.toInt ≤ LN.toInt → LN.toInt - v5.toInt < n → own_A LR B LN → (∀ i : Int32, v5.toInt ≤ i.toInt → i.toInt < LN.toInt → gI B i = gI LA i) → own_sm B LN.toInt.toNat = own_sm LA LN.toInt.toNat + v4.toInt → 0 ≤ v4.toInt → v4.toInt ≤ 10000 * v5.toInt → v4.toInt * S.toInt ≤ e2.toInt * (own_sm LR v5.toInt.toNat - own_sm LA v5.toInt.toNat) →
      Tot (f_proRataStep_53 LR ma LN n B e2 S v4 v5) (fun p => own_A LR p.2 LN ∧ 0 ≤ p.1.toInt ∧ p.1.toInt ≤ e2.toInt ∧ own_sm p.2 LN.toInt.toNat = own_sm LA LN.toInt.toNat + p.1.toInt) := by
    intro S hS n
    induction n with
    | zero => intro B v4 v5 a b c; omega
    | succ n ih =>
      intro B v4 v5 a b c hB hu hs h40 h41 hm
      have lB := hB.lA
      have nz : ¬ S = 0 := fun z => by rw [z, l0] at hS; omega
      unfold f_proRataStep_53
      refine own_iL (fun c1 => ?_) (fun c1 => ?_)
      · have p := own_p1 (a := v5) (by omega)
        have rr := hB.r v5 a c1
        have ra := hB.a v5 a c1
        have sub : (gI LR v5 - gI B v5).toInt = (gI LR v5).toInt - (gI B v5).toInt := isub_i (by omega) (by omega)
        rw [rdg a (by omega), Option.bind_some, rdg a (by omega), Option.bind_some, if_neg nz]
        have ml : (e2.toInt64 * (gI LR v5 - gI B v5).toInt64).toInt = e2.toInt * ((gI LR v5).toInt - (gI B v5).toInt) := by
          have m0 : 0 ≤ e2.toInt * ((gI LR v5).toInt - (gI B v5).toInt) := Int.mul_nonneg (by omega) (by omega)
          have m1 : e2.toInt * ((gI LR v5).toInt - (gI B v5).toInt) ≤ 1000000 * 10000 := Int.mul_le_mul e2' (by omega) (by omega) (by omega)
          rw [lmul_i (by rw [Int32.toInt_toInt64, Int32.toInt_toInt64, sub]; omega) (by rw [Int32.toInt_toInt64, Int32.toInt_toInt64, sub]; omega), Int32.toInt_toInt64, Int32.toInt_toInt64, sub]
        have dv := own_div1 (e := e2.toInt) (b := (gI LR v5).toInt - (gI B v5).toInt) (S := S.toInt) (by omega) (by omega) (by omega) (by omega)
        have m0 : 0 ≤ e2.toInt * ((gI LR v5).toInt - (gI B v5).toInt) := Int.mul_nonneg (by omega) (by omega)
        have m1 : e2.toInt * ((gI LR v5).toInt - (gI B v5).toInt) ≤ 1000000 * 10000 := Int.mul_le_mul e2' (by omega) (by omega) (by omega)
        have dq : ((e2.toInt64 * (gI LR v5 - gI B v5).toInt64) / S).toInt32.toInt = e2.toInt * ((gI LR v5).toInt - (gI B v5).toInt) / S.toInt := by
          have q := own_ldiv (a := e2.toInt64 * (gI LR v5 - gI B v5).toInt64) (b := S) (by rw [ml]; omega) (by rw [ml]; omega) (by omega)
          rw [own_l32 (by rw [q, ml]; omega) (by rw [q, ml]; omega), q, ml]
        have hsh : ∃ sh : Int32, (if ((e2.toInt64 * (gI LR v5 - gI B v5).toInt64) / S).toInt32 < ma then (0 : Int32) else ((e2.toInt64 * (gI LR v5 - gI B v5).toInt64) / S).toInt32) = sh ∧ 0 ≤ sh.toInt ∧ sh.toInt ≤ (gI LR v5).toInt - (gI B v5).toInt ∧ sh.toInt * S.toInt ≤ e2.toInt * ((gI LR v5).toInt - (gI B v5).toInt) := by
          refine ⟨_, rfl, ?_⟩
          by_cases q : ((e2.toInt64 * (gI LR v5 - gI B v5).toInt64) / S).toInt32 < ma
          · rw [if_pos q, e0, Int.zero_mul]
            exact ⟨by omega, by omega, m0⟩
          · rw [if_neg q, dq]
            exact dv
        obtain ⟨sh, es, s1, s2, s3⟩ := hsh
        rw [es]
        unfold f_proRataStep_102
        have ad : (gI B v5 + sh).toInt = (gI B v5).toInt + sh.toInt := iadd_i (by omega) (by omega)
        have a4 : (v4 + sh).toInt = v4.toInt + sh.toInt := iadd_i (by omega) (by omega)
        rw [rdg a (by omega), Option.bind_some, wrA_in a (by omega), Option.bind_some]
        obtain ⟨q1, q2⟩ := hB.put (x := gI B v5 + sh) a c1 (by omega) (by omega)
        refine ih _ _ _ (by omega) (by omega) (by omega) q1 ?_ ?_ (by omega) (by omega) ?_
        · intro i i0 i1
          rw [gset a (by omega) (by omega), if_neg (fun z => by rw [ieq] at z; omega)]
          exact hu i (by omega) i1
        · rw [q2, hs, a4, ad]; omega
        · rw [a4, own_sm_1 LR a (by omega), own_sm_1 LA a (by omega), Int.add_mul]
          have eb := hu v5 (by omega) c1
          rw [eb] at s3
          have : e2.toInt * (own_sm LR v5.toInt.toNat + (gI LR v5).toInt - (own_sm LA v5.toInt.toNat + (gI LA v5).toInt)) = e2.toInt * (own_sm LR v5.toInt.toNat - own_sm LA v5.toInt.toNat) + e2.toInt * ((gI LR v5).toInt - (gI LA v5).toInt) := by
            rw [← Int.mul_add]
            congr 1
            omega
          omega
      · have ev : v5.toInt = LN.toInt := by omega
        rw [ev, ← hS] at hm
        refine Tot.mk ⟨hB, h40, ?_, hs⟩
        exact Int.le_of_mul_le_mul_right hm (by omega)
  have key5 : ∀ (n : Nat) (S : Int64) (v4 : Int32), 0 ≤ v4.toInt → v4.toInt ≤ LN.toInt → LN.toInt - v4.toInt < n → S.toInt = own_sm LR v4.toInt.toNat - own_sm LA v4.toInt.toNat → 0 ≤ S.toInt → S.toInt ≤ 10000 * v4.toInt →
      Tot (f_proRataStep_5 (f_proRataStep_39 LR ma LN) LR ma LN n LA e2 S v4) (fun p => own_A LR p.2 LN ∧ 0 ≤ p.1.toInt ∧ p.1.toInt ≤ e2.toInt ∧ own_sm p.2 LN.toInt.toNat = own_sm LA LN.toInt.toNat + p.1.toInt) := by
    intro n
    induction n with
    | zero => intro S v4 a b c; omega
    | succ n ih =>
      intro S v4 a b c hS h0 h1
      unfold f_proRataStep_5
      refine own_iL (fun c1 => ?_) (fun c1 => ?_)
      · have p := own_p1 (a := v4) (by omega)
        have rr := h.r v4 a c1
        have ra := h.a v4 a c1
        have sub : (gI LR v4 - gI LA v4).toInt = (gI LR v4).toInt - (gI LA v4).toInt := isub_i (by omega) (by omega)
        have ad : (S + (gI LR v4 - gI LA v4).toInt64).toInt = S.toInt + ((gI LR v4).toInt - (gI LA v4).toInt) := by
          rw [ladd_i (by rw [Int32.toInt_toInt64, sub]; omega) (by rw [Int32.toInt_toInt64, sub]; omega), Int32.toInt_toInt64, sub]
        rw [rdg a (by omega), Option.bind_some, rdg a (by omega), Option.bind_some]
        refine ih _ _ (by omega) (by omega) (by omega) ?_ (by omega) (by omega)
        rw [ad, own_sm_1 LR a (by omega), own_sm_1 LA a (by omega)]
        omega
      · have ev : v4.toInt = LN.toInt := by omega
        rw [ev] at hS
        unfold f_proRataStep_39
        rw [if_pos (by rw [lltI]; omega)]
        exact key53 S hS 100000 LA 0 0 (by omega) (by omega) (by omega) h (fun i _ _ => rfl) (by omega) (by omega) (by omega) (by rw [e0]; simp [own_sm])
  unfold f_proRataStep
  exact key5 100000 0 0 (by omega) (by omega) (by omega) rfl (by decide) (by decide)
theorem own_tsX {LR : List Int32} {LN : Int32} : ∀ (n : Nat) (LA : List Int32) (v2 v3 : Int32), own_A LR LA LN → 0 ≤ v2.toInt → v2.toInt ≤ 1000000 → 0 ≤ v3.toInt → v3.toInt ≤ LN.toInt → LN.toInt - v3.toInt < n → v2.toInt ≤ (own_sm LR LN.toInt.toNat - own_sm LR v3.toInt.toNat) - (own_sm LA LN.toInt.toNat - own_sm LA v3.toInt.toNat) →
    Tot (f_timeStep_4 LR LN n LA v2 v3) (fun p => own_A LR p LN ∧ own_sm p LN.toInt.toNat = own_sm LA LN.toInt.toNat + v2.toInt) := by
  intro n
  have e0 : (0 : Int32).toInt = 0 := rfl
  induction n with
  | zero => intro LA v2 v3 h a a' b c d; omega
  | succ n ih =>
    intro LA v2 v3 h a a' b c d hr
    have lR := h.lR
    have lA := h.lA
    have n1 := h.n1
    unfold f_timeStep_4
    refine own_iL (fun c1 => ?_) (fun c1 => ?_)
    · refine own_iL (fun c2 => ?_) (fun c2 => Tot.mk ⟨h, by omega⟩)
      have p := own_p1 (a := v3) (by omega)
      have rr := h.r v3 b c1
      have ra := h.a v3 b c1
      have sub : (gI LR v3 - gI LA v3).toInt = (gI LR v3).toInt - (gI LA v3).toInt := isub_i (by omega) (by omega)
      rw [rdg b (by omega), Option.bind_some, rdg b (by omega), Option.bind_some]
      have hg : ∃ t : Int32, (if v2 < (gI LR v3 - gI LA v3) then v2 else (gI LR v3 - gI LA v3)) = t ∧ 0 ≤ t.toInt ∧ t.toInt ≤ v2.toInt ∧ t.toInt ≤ (gI LR v3).toInt - (gI LA v3).toInt ∧ (t.toInt = v2.toInt ∨ t.toInt = (gI LR v3).toInt - (gI LA v3).toInt) := by
        refine ⟨_, rfl, ?_⟩
        by_cases q : v2 < gI LR v3 - gI LA v3
        · rw [if_pos q]; rw [ilt] at q; omega
        · rw [if_neg q]; rw [ilt] at q; omega
      obtain ⟨t, et, t0, t1, t2, t3⟩ := hg
      rw [et]
      have s1 := own_sm_1 LR b (by omega)
      have s2 := own_sm_1 LA b (by omega)
      have s3 := own_sm_rest (A := LA) (B := LR) (m := LN.toInt.toNat) (by omega) (fun i i0 i1 => (h.a i i0 (by omega)).2) (v3 + 1).toInt.toNat (LN.toInt.toNat - (v3 + 1).toInt.toNat) (by omega)
      rw [show (v3 + 1).toInt.toNat + (LN.toInt.toNat - (v3 + 1).toInt.toNat) = LN.toInt.toNat by omega] at s3
      unfold f_timeStep_43
      refine own_iL (fun c3 => ?_) (fun c3 => ?_)
      · have ad : (gI LA v3 + t).toInt = (gI LA v3).toInt + t.toInt := iadd_i (by omega) (by omega)
        have sv : (v2 - t).toInt = v2.toInt - t.toInt := isub_i (by omega) (by omega)
        rw [rdg b (by omega), Option.bind_some, wrA_in b (by omega), Option.bind_some]
        obtain ⟨q1, q2⟩ := h.put (x := gI LA v3 + t) b c1 (by omega) (by omega)
        have q3 := own_sm_s (L := LA) (k := v3) (x := gI LA v3 + t) b (by omega) (v3 + 1).toInt.toNat (by omega) (by omega)
        rw [if_pos (by omega)] at q3
        refine Tot.mono (ih _ _ _ q1 (by omega) (by omega) (by omega) (by omega) (by omega) ?_) ?_
        · rw [q2, q3, s1, s2, sv, ad]; omega
        · rintro L ⟨g1, g2⟩
          exact ⟨g1, by rw [g2, q2, sv, ad]; omega⟩
      · refine ih _ _ _ h a a' (by omega) (by omega) (by omega) ?_
        rw [s1, s2]; omega
    · have ev : v3.toInt = LN.toInt := by omega
      rw [ev] at hr
      exact Tot.mk ⟨h, by omega⟩
theorem own_alX {TP LI LR LA : List Int32} {ma tc LN q : Int32} (lT : TP.length = 256) (g : own_G LI LN) (h : own_A LR LA LN) (hz : ∀ i : Int32, 0 ≤ i.toInt → i.toInt < LN.toInt → gI LA i = 0) (q0 : 1 ≤ q.toInt) (q1 : q.toInt ≤ 10000) :
    Tot (f_allocate TP LI LR ma tc LN LA q) (fun p => own_A LR p.2 LN ∧ own_sm p.2 LN.toInt.toNat = p.1.toInt ∧ p.1.toInt = (if q.toInt < own_sm LR LN.toInt.toNat then q.toInt else own_sm LR LN.toInt.toNat)) := by
  have e0 : (0 : Int32).toInt = 0 := rfl
  have lR := h.lR
  have n0 := h.n0
  have n1 := h.n1
  have sz : own_sm LA LN.toInt.toNat = 0 := by
    have := own_sm_le (L := LA) (m := LN.toInt.toNat) (lo := 0) (hi := 0) (by omega) (fun i i0 i1 => by rw [hz i i0 (by omega), e0]; omega) LN.toInt.toNat (by omega)
    omega
  have sR := own_sm_le (L := LR) (m := LN.toInt.toNat) (lo := 1) (hi := 10000) (by omega) (fun i i0 i1 => h.r i i0 (by omega)) LN.toInt.toNat (by omega)
  have key : ∀ (n : Nat) (v2 v3 : Int32), 0 ≤ v3.toInt → v3.toInt ≤ LN.toInt → LN.toInt - v3.toInt < n → v2.toInt = own_sm LR v3.toInt.toNat → 0 ≤ v2.toInt → v2.toInt ≤ 10000 * v3.toInt → Tot (f_allocate_4 (f_allocate_27 TP LI LR ma tc LN) TP LI LR ma tc LN n LA q v2 v3) (fun p => own_A LR p.2 LN ∧ own_sm p.2 LN.toInt.toNat = p.1.toInt ∧ p.1.toInt = (if q.toInt < own_sm LR LN.toInt.toNat then q.toInt else own_sm LR LN.toInt.toNat)) := by
    intro n
    induction n with
    | zero => intro v2 v3 a b c; omega
    | succ n ih =>
      intro v2 v3 a b c hv v0 v1
      unfold f_allocate_4
      refine own_iL (fun c1 => ?_) (fun c1 => ?_)
      · have p := own_p1 (a := v3) (by omega)
        have rr := h.r v3 a c1
        have ad : (v2 + gI LR v3).toInt = v2.toInt + (gI LR v3).toInt := iadd_i (by omega) (by omega)
        rw [rdg a (by omega), Option.bind_some]
        refine ih _ _ (by omega) (by omega) (by omega) ?_ (by omega) (by omega)
        rw [ad, own_sm_1 LR a (by omega), hv]
      · have ev : v3.toInt = LN.toInt := by omega
        rw [ev] at hv
        unfold f_allocate_27
        have he : ∃ e : Int32, (if q < v2 then q else v2) = e ∧ e.toInt = (if q.toInt < own_sm LR LN.toInt.toNat then q.toInt else own_sm LR LN.toInt.toNat) := by
          refine ⟨_, rfl, ?_⟩
          by_cases z : q < v2
          · rw [if_pos z]; rw [ilt] at z; rw [if_pos (by omega)]
          · rw [if_neg z]; rw [ilt] at z; rw [if_neg (by omega)]; exact hv
        obtain ⟨e, ee, he⟩ := he
        have e1 : 0 ≤ e.toInt := by rw [he]; split <;> omega
        have e2 : e.toInt ≤ own_sm LR LN.toInt.toNat := by rw [he]; split <;> omega
        rw [ee]
        unfold f_allocate_37
        refine Tot.bind (own_topX lT g h hz sz e1) ?_
        rintro ⟨t, B⟩ ⟨hB, t0, t1, t2⟩
        have t0' : 0 ≤ t.toInt := t0
        have t1' : t.toInt ≤ e.toInt := t1
        have t2' : own_sm B LN.toInt.toNat = t.toInt := t2
        have hB' : own_A LR B LN := hB
        have sv : (e - t).toInt = e.toInt - t.toInt := isub_i (by omega) (by omega)
        have fin1 : ∀ (C : List Int32) (u : Int32), own_A LR C LN → 0 ≤ u.toInt → u.toInt ≤ (e - t).toInt → own_sm C LN.toInt.toNat = t.toInt + u.toInt → Tot (f_allocate_67 TP LI LR ma tc LN C e (e - t) u) (fun p => own_A LR p.2 LN ∧ own_sm p.2 LN.toInt.toNat = p.1.toInt ∧ p.1.toInt = (if q.toInt < own_sm LR LN.toInt.toNat then q.toInt else own_sm LR LN.toInt.toNat)) := by
          intro C u hC u0 u1 hs
          have su : (e - t - u).toInt = e.toInt - t.toInt - u.toInt := by rw [isub_i (by omega) (by omega), sv]
          unfold f_allocate_67 f_timeStep
          refine Tot.bind (own_tsX 100000 C (e - t - u) 0 hC (by omega) (by omega) (by omega) (by omega) (by omega) ?_) ?_
          · rw [hs, su, e0]
            simp only [Int.toNat_zero, own_sm]
            omega
          · rintro L ⟨g1, g2⟩
            refine Tot.mk ⟨g1, ?_, he⟩
            show own_sm L LN.toInt.toNat = e.toInt
            rw [g2, hs, su]; omega
        show Tot (if (0 : Int32) < e - t then _ else _) _
        refine own_iL (fun c2 => ?_) (fun c2 => fin1 B 0 hB' (by omega) (by omega) (by omega))
        refine Tot.bind (own_prX (ma := ma) hB' (by omega) (by omega) (by omega)) ?_
        rintro ⟨u, C⟩ ⟨hC, u0, u1, u2⟩
        have u2' : own_sm C LN.toInt.toNat = own_sm B LN.toInt.toNat + u.toInt := u2
        exact fin1 C u hC u0 u1 (by omega)
  unfold f_allocate
  exact key 100000 0 0 (by omega) (by omega) (by omega) rfl (by omega) (by omega)
/-- what holds of the resting orders throughout -/
abbrev own_X (SD RM ST TP RI : List Int32) (RN acc : Int32) : Prop := (own_W RI RN acc) ∧ (acc.toInt ≤ 255) ∧ (RM.length = 256) ∧ (ST.length = 256) ∧ (TP.length = 256) ∧ (∀ x : Int32, 1 ≤ x.toInt → x.toInt ≤ acc.toInt → (gI ST x = 1 ↔ own_mem RI RN x)) ∧ (∀ x : Int32, own_mem RI RN x → 1 ≤ (gI RM x).toInt ∧ (gI RM x).toInt ≤ 10000) ∧ (∀ x y : Int32, own_mem RI RN x → own_mem RI RN y → gI SD x = gI SD y → ¬ gI TP x = 0 → ¬ gI TP y = 0 → x = y)
theorem own_X.w {SD RM ST TP RI : List Int32} {RN acc : Int32} (self : own_X SD RM ST TP RI RN acc) : own_W RI RN acc := self.1
theorem own_X.a1 {SD RM ST TP RI : List Int32} {RN acc : Int32} (self : own_X SD RM ST TP RI RN acc) : acc.toInt ≤ 255 := self.2.1
theorem own_X.lM {SD RM ST TP RI : List Int32} {RN acc : Int32} (self : own_X SD RM ST TP RI RN acc) : RM.length = 256 := self.2.2.1
theorem own_X.lS {SD RM ST TP RI : List Int32} {RN acc : Int32} (self : own_X SD RM ST TP RI RN acc) : ST.length = 256 := self.2.2.2.1
theorem own_X.lT {SD RM ST TP RI : List Int32} {RN acc : Int32} (self : own_X SD RM ST TP RI RN acc) : TP.length = 256 := self.2.2.2.2.1
theorem own_X.s {SD RM ST TP RI : List Int32} {RN acc : Int32} (self : own_X SD RM ST TP RI RN acc) : ∀ x : Int32, 1 ≤ x.toInt → x.toInt ≤ acc.toInt → (gI ST x = 1 ↔ own_mem RI RN x) := self.2.2.2.2.2.1
theorem own_X.r {SD RM ST TP RI : List Int32} {RN acc : Int32} (self : own_X SD RM ST TP RI RN acc) : ∀ x : Int32, own_mem RI RN x → 1 ≤ (gI RM x).toInt ∧ (gI RM x).toInt ≤ 10000 := self.2.2.2.2.2.2.1
theorem own_X.t {SD RM ST TP RI : List Int32} {RN acc : Int32} (self : own_X SD RM ST TP RI RN acc) : ∀ x y : Int32, own_mem RI RN x → own_mem RI RN y → gI SD x = gI SD y → ¬ gI TP x = 0 → ¬ gI TP y = 0 → x = y := self.2.2.2.2.2.2.2
theorem own_X.rg {SD RM ST TP RI : List Int32} {RN acc : Int32} (h : own_X SD RM ST TP RI RN acc) {x : Int32} (m : own_mem RI RN x) : 1 ≤ x.toInt ∧ x.toInt ≤ acc.toInt := by
  obtain ⟨j, j0, j1, ej⟩ := m
  rw [← ej]
  exact h.w.e j j0 j1
/-- the fills' lists -/
abbrev own_Y (FL FI FQ FP : List Int32) (FN : Int32) : Prop := (FL.length = 256) ∧ (FI.length = 64) ∧ (FQ.length = 64) ∧ (FP.length = 64) ∧ (0 ≤ FN.toInt) ∧ (FN.toInt ≤ 64)
theorem own_Y.lF {FL FI FQ FP : List Int32} {FN : Int32} (self : own_Y FL FI FQ FP FN) : FL.length = 256 := self.1
theorem own_Y.lI {FL FI FQ FP : List Int32} {FN : Int32} (self : own_Y FL FI FQ FP FN) : FI.length = 64 := self.2.1
theorem own_Y.lQ {FL FI FQ FP : List Int32} {FN : Int32} (self : own_Y FL FI FQ FP FN) : FQ.length = 64 := self.2.2.1
theorem own_Y.lP {FL FI FQ FP : List Int32} {FN : Int32} (self : own_Y FL FI FQ FP FN) : FP.length = 64 := self.2.2.2.1
theorem own_Y.f0 {FL FI FQ FP : List Int32} {FN : Int32} (self : own_Y FL FI FQ FP FN) : 0 ≤ FN.toInt := self.2.2.2.2.1
theorem own_Y.f1 {FL FI FQ FP : List Int32} {FN : Int32} (self : own_Y FL FI FQ FP FN) : FN.toInt ≤ 64 := self.2.2.2.2.2
theorem own_par {L : List Int32} {k x : Int32} (l : L.length = 256) (k0 : 0 ≤ k.toInt) (k1 : k.toInt < 256) : (own_sm (L.set k.toInt.toNat (gI L k + x)) 256 - own_sm L 256 - x.toInt) % 2 = 0 := by
  rw [own_sm_s k0 (by omega) 256 (by omega) (by omega), if_pos (by omega), iadd_e]
  omega
theorem own_apX {SD LI LR LA : List Int32} {LN acc : Int32} (g : own_G LI LN) (hA : own_A LR LA LN) (v1 : Int32) {RI0 FL0 : List Int32} {RN0 : Int32} : ∀ (n : Nat) (RM FL ST TP RI FI FQ FP : List Int32) (RN FN v2 : Int32), 0 ≤ v2.toInt → v2.toInt ≤ LN.toInt → LN.toInt - v2.toInt < n → own_X SD RM ST TP RI RN acc → own_Y FL FI FQ FP FN →
    (∀ x, own_mem RI RN x → own_mem RI0 RN0 x) → (∀ j : Int32, v2.toInt ≤ j.toInt → j.toInt < LN.toInt → own_mem RI RN (gI LI j) ∧ gI RM (gI LI j) = gI LR j) → (own_sm FL 256 - own_sm FL0 256 - own_sm LA v2.toInt.toNat) % 2 = 0 → RN.toInt ≤ RN0.toInt → (∀ j : Int32, 0 ≤ j.toInt → j.toInt < v2.toInt → gI LA j = gI LR j → ¬ own_mem RI RN (gI LI j) ∧ RN.toInt ≤ RN0.toInt - 1) → (∀ x : Int32, 0 ≤ x.toInt → x.toInt < 256 → (x.toInt < 1 ∨ acc.toInt < x.toInt) → gI FL x = gI FL0 x) →
    Tot (f_applyLevel_2 LI LA LN n RM FL ST TP RI FI FQ FP RN FN v1 v2) (fun (RM, FL, ST, TP, RI, FI, FQ, FP, RN, FN) => own_X SD RM ST TP RI RN acc ∧ own_Y FL FI FQ FP FN ∧ (∀ x, own_mem RI RN x → own_mem RI0 RN0 x) ∧ (own_sm FL 256 - own_sm FL0 256 - own_sm LA LN.toInt.toNat) % 2 = 0 ∧ RN.toInt ≤ RN0.toInt ∧ (∀ j : Int32, 0 ≤ j.toInt → j.toInt < LN.toInt → gI LA j = gI LR j → ¬ own_mem RI RN (gI LI j) ∧ RN.toInt ≤ RN0.toInt - 1) ∧ (∀ x : Int32, 0 ≤ x.toInt → x.toInt < 256 → (x.toInt < 1 ∨ acc.toInt < x.toInt) → gI FL x = gI FL0 x)) := by
  intro n
  have e0 : (0 : Int32).toInt = 0 := rfl
  have e64 : (64 : Int32).toInt = 64 := rfl
  have gl := g.l
  have lA := hA.lA
  have n1 := hA.n1
  induction n with
  | zero => intro RM FL ST TP RI FI FQ FP RN FN v2 a b c; omega
  | succ n ih =>
    intro RM FL ST TP RI FI FQ FP RN FN v2 a b c X Y h1 h2 h3 h4 h5 h6
    unfold f_applyLevel_2
    by_cases cc : v2 < LN
    rotate_left
    · rw [if_neg cc]
      rw [ilt] at cc
      have ev : v2.toInt = LN.toInt := by omega
      rw [ev] at h3 h5
      exact Tot.mk ⟨X, Y, h1, h3, h4, h5, h6⟩
    rw [if_pos cc]
    rw [ilt] at cc
    have p := own_p1 (a := v2) (by omega)
    have ra := hA.a v2 a cc
    have rr := hA.r v2 a cc
    have s1 := own_sm_1 LA a (by omega)
    obtain ⟨hm, hr⟩ := h2 v2 (by omega) cc
    have rg := X.rg hm
    have xa1 := X.a1
    have lM := X.lM
    have lS := X.lS
    have lT := X.lT
    have lF := Y.lF
    rw [rdg a (by omega), Option.bind_some]
    refine own_iL (fun c1 => ?_) (fun c1 => ?_)
    rotate_left
    · refine ih _ _ _ _ _ _ _ _ _ _ _ (by omega) (by omega) (by omega) X Y h1 (fun j j0 j1 => h2 j (by omega) j1) (by rw [s1]; omega) h4 ?_ h6
      refine own_i0 h5 (fun q => ?_) a (by omega)
      rw [ieq] at q
      omega
    rw [rdg a (by omega), Option.bind_some]
    have key : ∀ (FI FQ FP : List Int32) (FN : Int32), own_Y FL FI FQ FP FN → Tot (f_applyLevel_82 (f_applyLevel_2 LI LA LN n) LI LA LN RM FL ST TP RI FI FQ FP RN FN v1 v2 (gI LA v2) (gI LI v2)) (fun (RM, FL, ST, TP, RI, FI, FQ, FP, RN, FN) => own_X SD RM ST TP RI RN acc ∧ own_Y FL FI FQ FP FN ∧ (∀ x, own_mem RI RN x → own_mem RI0 RN0 x) ∧ (own_sm FL 256 - own_sm FL0 256 - own_sm LA LN.toInt.toNat) % 2 = 0 ∧ RN.toInt ≤ RN0.toInt ∧ (∀ j : Int32, 0 ≤ j.toInt → j.toInt < LN.toInt → gI LA j = gI LR j → ¬ own_mem RI RN (gI LI j) ∧ RN.toInt ≤ RN0.toInt - 1) ∧ (∀ x : Int32, 0 ≤ x.toInt → x.toInt < 256 → (x.toInt < 1 ∨ acc.toInt < x.toInt) → gI FL x = gI FL0 x)) := by
      intro FI FQ FP FN Y
      have dist : ∀ j : Int32, (v2 + 1).toInt ≤ j.toInt → j.toInt < LN.toInt → ¬ gI LI v2 = gI LI j := by
        intro j j0 j1 q
        have := g.d v2 j a cc (by omega) j1 q
        rw [ieq] at this
        omega
      have dist2 : ∀ j : Int32, 0 ≤ j.toInt → j.toInt < v2.toInt → ¬ gI LI v2 = gI LI j := by
        intro j j0 j1 q
        have := g.d v2 j a cc (by omega) (by omega) q
        rw [ieq] at this
        omega
      have rgj : ∀ j : Int32, 0 ≤ j.toInt → j.toInt < 64 → 0 ≤ (gI LI j).toInt := fun j j0 j1 => (own_Rg g.r j0 (by omega)).1
      generalize hid : gI LI v2 = id at *
      unfold f_applyLevel_82
      have sub : (gI LR v2 - gI LA v2).toInt = (gI LR v2).toInt - (gI LA v2).toInt := isub_i (by omega) (by omega)
      rw [rdg (by omega) (by omega), Option.bind_some, hr, wrA_in (by omega) (by omega), Option.bind_some, rdg (by omega) (by omega), Option.bind_some, wrA_in (by omega) (by omega), Option.bind_some]
      have lM1 : (RM.set id.toInt.toNat (gI LR v2 - gI LA v2)).length = 256 := by rw [List.length_set]; exact lM
      have gM : ∀ x : Int32, 0 ≤ x.toInt → gI (RM.set id.toInt.toNat (gI LR v2 - gI LA v2)) x = if id = x then gI LR v2 - gI LA v2 else gI RM x := fun x hx => gset (by omega) (by omega) hx
      have gF : ∀ x : Int32, 0 ≤ x.toInt → gI (FL.set id.toInt.toNat (gI FL id + gI LA v2)) x = if id = x then gI FL id + gI LA v2 else gI FL x := fun x hx => gset (by omega) (by omega) hx
      have Y' : own_Y (FL.set id.toInt.toNat (gI FL id + gI LA v2)) FI FQ FP FN := ⟨by rw [List.length_set]; exact lF, Y.lI, Y.lQ, Y.lP, Y.f0, Y.f1⟩
      have pa := own_par (L := FL) (k := id) (x := gI LA v2) lF (by omega) (by omega)
      have h3' : (own_sm (FL.set id.toInt.toNat (gI FL id + gI LA v2)) 256 - own_sm FL0 256 - own_sm LA (v2 + 1).toInt.toNat) % 2 = 0 := by rw [s1]; omega
      have h6' : ∀ x : Int32, 0 ≤ x.toInt → x.toInt < 256 → (x.toInt < 1 ∨ acc.toInt < x.toInt) → gI (FL.set id.toInt.toNat (gI FL id + gI LA v2)) x = gI FL0 x := by
        intro x x0 x1 hx
        rw [gF x x0, if_neg (fun z => by rw [ieq] at z; omega)]
        exact h6 x x0 x1 hx
      rw [rdg (by omega) (by omega), Option.bind_some, gM id (by omega), if_pos rfl]
      refine own_iL (fun c2 => ?_) (fun c2 => ?_)
      · refine ih _ _ _ _ _ _ _ _ _ _ _ (by omega) (by omega) (by omega) ⟨X.w, X.a1, lM1, lS, lT, X.s, ?_, X.t⟩ Y' h1 ?_ h3' h4 ?_ h6'
        · intro x hx
          have rx := X.rg hx
          rw [gM x (by omega)]
          by_cases e : id = x
          · rw [if_pos e]; omega
          · rw [if_neg e]; exact X.r x hx
        · intro j j0 j1
          obtain ⟨q1, q2⟩ := h2 j (by omega) j1
          refine ⟨q1, ?_⟩
          rw [gM _ (rgj j (by omega) (by omega)), if_neg (dist j j0 j1)]
          exact q2
        · refine own_i0 h5 (fun q => ?_) a (by omega)
          rw [ieq] at q
          omega
      · have eqA : gI LA v2 = gI LR v2 := by rw [ieq]; omega
        rw [wrA_in (by omega) (by omega), Option.bind_some, wrA_in (by omega) (by omega), Option.bind_some, wrA_in (by omega) (by omega), Option.bind_some]
        refine Tot.bind (own_rm X.w id) ?_
        rintro ⟨RI', RN'⟩ ⟨w', hn, hi, hd⟩
        have w'' : own_W RI' RN' acc := w'
        have hi' : ∀ x, own_mem RI' RN' x ↔ own_mem RI RN x ∧ x ≠ id := hi
        have hd' : RN'.toInt = RN.toInt - 1 := hd hm
        have gM2 : ∀ x : Int32, 0 ≤ x.toInt → ¬ id = x → gI ((RM.set id.toInt.toNat (gI LR v2 - gI LA v2)).set id.toInt.toNat 0) x = gI RM x := by
          intro x hx ne
          rw [gset (by omega) (by omega) hx, if_neg ne, gM x hx, if_neg ne]
        have gS : ∀ x : Int32, 0 ≤ x.toInt → gI (ST.set id.toInt.toNat 2) x = if id = x then 2 else gI ST x := fun x hx => gset (by omega) (by omega) hx
        have gT : ∀ x : Int32, 0 ≤ x.toInt → gI (TP.set id.toInt.toNat 0) x = if id = x then 0 else gI TP x := fun x hx => gset (by omega) (by omega) hx
        refine ih _ _ _ _ _ _ _ _ _ _ _ (by omega) (by omega) (by omega) ⟨w'', X.a1, by rw [List.length_set]; exact lM1, by rw [List.length_set]; exact lS, by rw [List.length_set]; exact lT, ?_, ?_, ?_⟩ Y' (fun x hx => h1 x ((hi' x).mp hx).1) ?_ h3' (by omega) ?_ h6'
        · intro x x0 x1
          rw [gS x (by omega), hi' x]
          by_cases e : id = x
          · rw [if_pos e]
            constructor
            · intro q; exact absurd q (by decide)
            · rintro ⟨_, q⟩; exact absurd e.symm q
          · rw [if_neg e, X.s x x0 x1]
            exact ⟨fun q => ⟨q, fun z => e z.symm⟩, fun q => q.1⟩
        · intro x hx
          obtain ⟨q1, q2⟩ := (hi' x).mp hx
          have rx := X.rg q1
          rw [gM2 x (by omega) (fun z => q2 z.symm)]
          exact X.r x q1
        · intro x y hx hy hs tx ty
          obtain ⟨q1, q2⟩ := (hi' x).mp hx
          obtain ⟨q3, q4⟩ := (hi' y).mp hy
          have rx := X.rg q1
          have ry := X.rg q3
          rw [gT x (by omega), if_neg (fun z => q2 z.symm)] at tx
          rw [gT y (by omega), if_neg (fun z => q4 z.symm)] at ty
          exact X.t x y q1 q3 hs tx ty
        · intro j j0 j1
          obtain ⟨q1, q2⟩ := h2 j (by omega) j1
          have dj := dist j j0 j1
          refine ⟨(hi' _).mpr ⟨q1, fun z => dj z.symm⟩, ?_⟩
          rw [gM2 _ (rgj j (by omega) (by omega)) dj]
          exact q2
        · refine own_i0 (fun j j0 j1 q => ?_) (fun _ => ?_) a (by omega)
          · obtain ⟨q1, q2⟩ := h5 j j0 j1 q
            exact ⟨fun z => q1 ((hi' _).mp z).1, by omega⟩
          · refine ⟨fun z => ?_, by omega⟩
            rw [hid] at z
            exact ((hi' _).mp z).2 rfl
    have lI := Y.lI
    have lQ := Y.lQ
    have lP := Y.lP
    have f0 := Y.f0
    have f1 := Y.f1
    refine own_iL (fun c3 => ?_) (fun _ => key _ _ _ _ Y)
    have pF := own_p1 (a := FN) (by omega)
    refine Tot.wr (by omega) (by omega) fun A1 _ l1 => ?_
    refine Tot.wr (by omega) (by omega) fun A2 _ l2 => ?_
    refine Tot.wr (by omega) (by omega) fun A3 _ l3 => ?_
    exact key _ _ _ _ ⟨lF, by omega, by omega, by omega, by omega, by omega⟩
theorem own_sm_eq {A B : List Int32} {m : Nat} (hm : m ≤ 64) (h : ∀ i : Int32, 0 ≤ i.toInt → i.toInt < m → (gI A i).toInt ≤ (gI B i).toInt) (e : own_sm A m = own_sm B m) : ∀ i : Int32, 0 ≤ i.toInt → i.toInt < m → gI A i = gI B i := by
  intro i i0 i1
  have p := own_p1 (a := i) (by omega)
  have s1 := own_sm_1 A i0 (by omega)
  have s2 := own_sm_1 B i0 (by omega)
  have q1 := own_sm_mono (A := A) (B := B) hm h i.toInt.toNat (by omega)
  have q2 := own_sm_rest (A := A) (B := B) hm h (i + 1).toInt.toNat (m - (i + 1).toInt.toNat) (by omega)
  rw [show (i + 1).toInt.toNat + (m - (i + 1).toInt.toNat) = m by omega] at q2
  have r := h i i0 i1
  rw [ieq]
  omega
theorem own_mlX {SD PR RM FL ST TP RI FI FQ FP LI LR LA : List Int32} {SP : List Int64} {RN FN acc q v1 v2 : Int32} (ma tc LN : Int32) (sd : SD.length = 256) (pr : PR.length = 256) (sp : SP.length = 256) (X : own_X SD RM ST TP RI RN acc) (Y : own_Y FL FI FQ FP FN) (V : own_V LI LR LA) (q0 : 1 ≤ q.toInt) (q1 : q.toInt ≤ 10000) (ne : ∃ x, own_mem RI RN x ∧ gI SD x = v1 ∧ gI PR x = v2) :
    Tot (f_matchLevel SD PR SP ma tc RM FL ST TP RI FI FQ FP LI LR LA RN FN LN v1 v2 q) (fun (e, RM', FL', ST', TP', RI', FI', FQ', FP', LI', LR', LA', RN', FN', LN') => own_X SD RM' ST' TP' RI' RN' acc ∧ own_Y FL' FI' FQ' FP' FN' ∧ own_V LI' LR' LA' ∧ (∀ x, own_mem RI' RN' x → own_mem RI RN x) ∧ RN'.toInt ≤ RN.toInt ∧ 1 ≤ e.toInt ∧ e.toInt ≤ q.toInt ∧ (own_sm FL' 256 - own_sm FL 256 - e.toInt) % 2 = 0 ∧ (∀ x : Int32, 0 ≤ x.toInt → x.toInt < 256 → (x.toInt < 1 ∨ acc.toInt < x.toInt) → gI FL' x = gI FL x) ∧ (e.toInt < q.toInt → RN'.toInt ≤ RN.toInt - 1)) := by
  have e0 : (0 : Int32).toInt = 0 := rfl
  have lM := X.lM
  unfold f_matchLevel
  refine Tot.bind (own_gatX LN X.w sd pr v1 v2 V.r V.lI) ?_
  rintro ⟨LI1, LN1⟩ ⟨g1, hg1⟩
  have hg1' : ∀ x, own_mem LI1 LN1 x ↔ own_mem RI RN x ∧ gI SD x = v1 ∧ gI PR x = v2 := hg1
  have g1' : own_G LI1 LN1 := g1
  refine Tot.bind (own_srtX (LN := LN1) sp g1') ?_
  rintro LI2 ⟨g2, hg2⟩
  have hmem : ∀ x, own_mem LI2 LN1 x ↔ own_mem RI RN x ∧ gI SD x = v1 ∧ gI PR x = v2 := fun x => (hg2 x).trans (hg1' x)
  have n1 := g2.n1
  have n0 := g2.n0
  have gl := g2.l
  have hid : ∀ j : Int32, 0 ≤ j.toInt → j.toInt < LN1.toInt → own_mem RI RN (gI LI2 j) := fun j j0 j1 => ((hmem _).mp ⟨j, j0, j1, rfl⟩).1
  have npos : 1 ≤ LN1.toInt := by
    obtain ⟨x, hx⟩ := ne
    obtain ⟨j, j0, j1, _⟩ := (hmem x).mpr hx
    omega
  have key : ∀ (n : Nat) (LR LA : List Int32) (v4 : Int32), 0 ≤ v4.toInt → v4.toInt ≤ LN1.toInt → LN1.toInt - v4.toInt < n → LR.length = 64 → LA.length = 64 → (∀ j : Int32, 0 ≤ j.toInt → j.toInt < v4.toInt → gI LR j = gI RM (gI LI2 j) ∧ gI LA j = 0) →
    Tot (f_matchLevel_13 (f_matchLevel_59 SD PR SP ma tc) SD PR SP ma tc n RM FL ST TP RI FI FQ FP LI2 LR LA RN FN LN1 v2 q v4) (fun (e, RM', FL', ST', TP', RI', FI', FQ', FP', LI', LR', LA', RN', FN', LN') => own_X SD RM' ST' TP' RI' RN' acc ∧ own_Y FL' FI' FQ' FP' FN' ∧ own_V LI' LR' LA' ∧ (∀ x, own_mem RI' RN' x → own_mem RI RN x) ∧ RN'.toInt ≤ RN.toInt ∧ 1 ≤ e.toInt ∧ e.toInt ≤ q.toInt ∧ (own_sm FL' 256 - own_sm FL 256 - e.toInt) % 2 = 0 ∧ (∀ x : Int32, 0 ≤ x.toInt → x.toInt < 256 → (x.toInt < 1 ∨ acc.toInt < x.toInt) → gI FL' x = gI FL x) ∧ (e.toInt < q.toInt → RN'.toInt ≤ RN.toInt - 1)) := by
    intro n
    induction n with
    | zero => intro LR LA v4 a b c; omega
    | succ n ih =>
      intro LR LA v4 a b c lR lA hv
      unfold f_matchLevel_13
      refine own_iL (fun c1 => ?_) (fun c1 => ?_)
      · have p := own_p1 (a := v4) (by omega)
        have rg := own_Rg g2.r a (by omega)
        rw [rdg a (by omega), Option.bind_some, rdg rg.1 (by omega), Option.bind_some, wrA_in a (by omega), Option.bind_some, wrA_in a (by omega), Option.bind_some]
        refine ih _ _ _ (by omega) (by omega) (by omega) (by rw [List.length_set]; exact lR) (by rw [List.length_set]; exact lA) ?_
        refine own_i0 (fun j j0 j1 => ?_) ?_ a (by omega)
        · rw [gset a (by omega) j0, gset a (by omega) j0, if_neg (fun z => by rw [ieq] at z; omega), if_neg (fun z => by rw [ieq] at z; omega)]
          exact hv j j0 j1
        · rw [gset a (by omega) a, gset a (by omega) a, if_pos rfl, if_pos rfl]
          exact ⟨rfl, rfl⟩
      · have ev : v4.toInt = LN1.toInt := by omega
        rw [ev] at hv
        have hA : own_A LR LA LN1 := by
          refine ⟨lR, lA, n0, n1, ?_, ?_⟩
          · intro i i0 i1
            rw [(hv i i0 i1).1]
            exact X.r _ (hid i i0 i1)
          · intro i i0 i1
            have r := X.r _ (hid i i0 i1)
            rw [(hv i i0 i1).2, (hv i i0 i1).1, e0]
            omega
        unfold f_matchLevel_59
        refine Tot.bind (own_alX (ma := ma) (tc := tc) X.lT g2 hA (fun i i0 i1 => (hv i i0 i1).2) q0 q1) ?_
        rintro ⟨e, LA1⟩ ⟨hA1, hs, he⟩
        have hA1' : own_A LR LA1 LN1 := hA1
        have hs' : own_sm LA1 LN1.toInt.toNat = e.toInt := hs
        have he' : e.toInt = (if q.toInt < own_sm LR LN1.toInt.toNat then q.toInt else own_sm LR LN1.toInt.toNat) := he
        have sR := own_sm_le (L := LR) (m := LN1.toInt.toNat) (lo := 1) (hi := 10000) (by omega) (fun i i0 i1 => hA.r i i0 (by omega)) LN1.toInt.toNat (by omega)
        have eb : 1 ≤ e.toInt ∧ e.toInt ≤ q.toInt := by rw [he']; split <;> omega
        unfold f_applyLevel
        refine Tot.bind (own_apX (SD := SD) (RI0 := RI) (FL0 := FL) (RN0 := RN) g2 hA1' v2 100000 RM FL ST TP RI FI FQ FP RN FN 0 (by omega) (by omega) (by omega) X Y (fun x hx => hx) (fun j j0 j1 => ⟨hid j (by omega) j1, ((hv j (by omega) j1).1).symm⟩) (by rw [e0]; simp [own_sm]) (by omega) (fun j j0 j1 => by omega) (fun x _ _ _ => rfl)) ?_
        rintro ⟨RM', FL', ST', TP', RI', FI', FQ', FP', RN', FN'⟩ ⟨X', Y', b1, b2, b3, b4, b5⟩
        have b2' : (own_sm FL' 256 - own_sm FL 256 - own_sm LA1 LN1.toInt.toNat) % 2 = 0 := b2
        rw [hs'] at b2'
        refine Tot.mk ⟨X', Y', ⟨g2.r, gl, lR, hA1'.lA⟩, b1, b3, eb.1, eb.2, b2', b5, ?_⟩
        intro lt
        have et : own_sm LA1 LN1.toInt.toNat = own_sm LR LN1.toInt.toNat := by
          rw [hs', he']
          rw [he'] at lt
          split at lt
          · omega
          · rw [if_neg (by omega)]
        have eq := own_sm_eq (A := LA1) (B := LR) (m := LN1.toInt.toNat) (by omega) (fun i i0 i1 => (hA1'.a i i0 (by omega)).2) et 0 (by omega) (by omega)
        exact (b4 0 (by omega) (by omega) eq).2
  exact key 100000 LR LA 0 (by omega) (by omega) (by omega) V.lR V.lA (fun j j0 j1 => by omega)
/-- a price that does not cross -/
def own_nc (side price p : Int32) : Prop := if side = 0 then price.toInt < p.toInt else p.toInt < price.toInt
theorem own_miX {SD PR : List Int32} {SP : List Int64} {ma tc acc side price id : Int32} (sd : SD.length = 256) (pr : PR.length = 256) (sp : SP.length = 256) (hside : side = 0 ∨ side = 1) (hid : id.toInt = acc.toInt + 1) (hid1 : id.toInt ≤ 255) (ha : 0 ≤ acc.toInt) : ∀ (n : Nat) (RM FL ST TP RI FI FQ FP LI LR LA : List Int32) (RN FN LN q v7 : Int32), 0 ≤ v7.toInt → v7.toInt ≤ 65 → 66 - v7.toInt ≤ n → own_X SD RM ST TP RI RN acc → own_Y FL FI FQ FP FN → own_V LI LR LA → (∀ x, own_mem RI RN x → 1 ≤ (gI PR x).toInt) → 0 ≤ q.toInt → q.toInt ≤ 10000 → own_sm FL 256 % 2 = 0 → (0 < q.toInt → RN.toInt + v7.toInt ≤ 64) →
    Tot (f_matchIncoming_12 SD PR SP ma tc n RM FL ST TP RI FI FQ FP LI LR LA RN FN LN id side price q (1 - side) v7) (fun (q', RM', FL', ST', TP', RI', FI', FQ', FP', LI', LR', LA', RN', FN', LN') => own_X SD RM' ST' TP' RI' RN' acc ∧ own_Y FL' FI' FQ' FP' FN' ∧ own_V LI' LR' LA' ∧ (∀ x, own_mem RI' RN' x → own_mem RI RN x) ∧ 0 ≤ q'.toInt ∧ q'.toInt ≤ q.toInt ∧ own_sm FL' 256 % 2 = 0 ∧ (∀ x : Int32, 0 ≤ x.toInt → x.toInt < 256 → (x.toInt < 1 ∨ id.toInt < x.toInt) → gI FL' x = gI FL x) ∧ (0 < q'.toInt → ∀ x, own_mem RI' RN' x → gI SD x = 1 - side → own_nc side price (gI PR x))) := by
  intro n
  have e0 : (0 : Int32).toInt = 0 := rfl
  have e64 : (64 : Int32).toInt = 64 := rfl
  induction n with
  | zero => intro RM FL ST TP RI FI FQ FP LI LR LA RN FN LN q v7 a b c; omega
  | succ n ih =>
    intro RM FL ST TP RI FI FQ FP LI LR LA RN FN LN q v7 a b c X Y V hp q0 q1 hpar hrn
    have p7 := own_p1 (a := v7) (by omega)
    have n0 := X.w.n0
    unfold f_matchIncoming_12 f_crosses
    refine own_iL (fun c1 => ?_) (fun c1 => ?_)
    · refine Tot.mk ⟨X, Y, V, fun x hx => hx, q0, Int.le_refl _, hpar, fun x _ _ _ => rfl, fun hq => ?_⟩
      have hq' : 0 < q.toInt := hq
      have := hrn hq'
      omega
    refine own_iL (fun c5 => ?_) (fun c5 => ?_)
    rotate_left
    · refine Tot.mk ⟨X, Y, V, fun x hx => hx, q0, Int.le_refl _, hpar, fun x _ _ _ => rfl, fun hq => ?_⟩
      have hq' : 0 < q.toInt := hq
      omega
    refine Tot.bind (own_bestX X.w sd pr hp (1 - side)) ?_
    intro r hb
    refine own_iE (fun z => ?_) (fun z => ?_)
    · rcases hb with ⟨_, hb⟩ | ⟨x, _, _, _, hr, _⟩
      · refine Tot.mk ⟨X, Y, V, fun x hx => hx, q0, Int.le_refl _, hpar, fun x _ _ _ => rfl, fun _ x hx hs => ?_⟩
        exact absurd hs (hb x hx)
      · rw [z] at hr; exact absurd hr (by decide)
    rcases hb with ⟨hz, _⟩ | ⟨x, hx1, hx2, hx3, hx4, hx5⟩
    · exact absurd hz z
    refine own_bs ?_
    refine own_iE (fun cz => ?_) (fun cz => ?_)
    · refine Tot.mk ⟨X, Y, V, fun x hx => hx, q0, Int.le_refl _, hpar, fun x _ _ _ => rfl, fun _ y hy hs => ?_⟩
      have nb := hx5 y hy hs
      unfold own_bt at nb
      unfold own_nc
      rcases hside with h | h
      · subst h
        rw [if_pos rfl] at cz ⊢
        rw [if_neg (by decide)] at nb
        by_cases g : price < r
        · rw [ilt] at g; omega
        · rw [if_neg g] at cz; exact absurd cz (by decide)
      · subst h
        rw [if_neg (by decide)] at cz ⊢
        rw [if_pos (by decide)] at nb
        by_cases g : r < price
        · rw [ilt] at g; omega
        · rw [if_neg g] at cz; exact absurd cz (by decide)
    refine Tot.bind (own_mlX ma tc LN sd pr sp X Y V (by omega) q1 ⟨x, hx1, hx2, hx3⟩) ?_
    rintro ⟨e, RM', FL', ST', TP', RI', FI', FQ', FP', LI', LR', LA', RN', FN', LN'⟩ ⟨X', Y', V', b1, b2, b3, b4, b5, b6, b7⟩
    have b2' : RN'.toInt ≤ RN.toInt := b2
    have b3' : 1 ≤ e.toInt := b3
    have b4' : e.toInt ≤ q.toInt := b4
    have b5' : (own_sm FL' 256 - own_sm FL 256 - e.toInt) % 2 = 0 := b5
    have b6' : ∀ x : Int32, 0 ≤ x.toInt → x.toInt < 256 → (x.toInt < 1 ∨ acc.toInt < x.toInt) → gI FL' x = gI FL x := b6
    have b7' : e.toInt < q.toInt → RN'.toInt ≤ RN.toInt - 1 := b7
    have lF' : FL'.length = 256 := Y'.lF
    refine own_iL (fun _ => ?_) (fun z => absurd z (by omega))
    have sv : (q - e).toInt = q.toInt - e.toInt := isub_i (by omega) (by omega)
    have pa := own_par (L := FL') (k := id) (x := e) lF' (by omega) (by omega)
    have gF : ∀ x : Int32, 0 ≤ x.toInt → gI (FL'.set id.toInt.toNat (gI FL' id + e)) x = if id = x then gI FL' id + e else gI FL' x := fun x hx => gset (by omega) (by omega) hx
    rw [rdg (by omega) (by omega), Option.bind_some, wrA_in (by omega) (by omega), Option.bind_some]
    have hrq := hrn (by omega)
    refine Tot.mono (ih RM' _ ST' TP' RI' FI' FQ' FP' LI' LR' LA' RN' FN' LN' (q - e) (v7 + 1) (by omega) (by omega) (by omega) X' ⟨by rw [List.length_set]; exact lF', Y'.lI, Y'.lQ, Y'.lP, Y'.f0, Y'.f1⟩ V' (fun x hx => hp x (b1 x hx)) (by omega) (by omega) (by omega) (fun hq => by have := b7' (by omega); omega)) ?_
    rintro ⟨q', RM2, FL2, ST2, TP2, RI2, FI2, FQ2, FP2, LI2, LR2, LA2, RN2, FN2, LN2⟩ ⟨X2, Y2, V2, d1, d2, d3, d4, d5, d6⟩
    have d3' : q'.toInt ≤ (q - e).toInt := d3
    have d5' : ∀ x : Int32, 0 ≤ x.toInt → x.toInt < 256 → (x.toInt < 1 ∨ id.toInt < x.toInt) → gI FL2 x = gI (FL'.set id.toInt.toNat (gI FL' id + e)) x := d5
    refine ⟨X2, Y2, V2, fun x hx => b1 x (d1 x hx), d2, ?_, d4, ?_, d6⟩
    · show q'.toInt ≤ q.toInt
      omega
    · intro x x0 x1 hx
      show gI FL2 x = gI FL x
      rw [d5' x x0 x1 hx, gF x x0, if_neg (fun z => by rw [ieq] at z; omega)]
      exact b6' x x0 x1 (by omega)
/-- the whole book -/
abbrev own_Z (SD PR RM FL ST : List Int32) (SP : List Int64) (TP RI FI FQ FP LI LR LA : List Int32) (acc RN FN : Int32) : Prop := (SD.length = 256) ∧ (PR.length = 256) ∧ (SP.length = 256) ∧ (0 ≤ acc.toInt) ∧ (own_X SD RM ST TP RI RN acc) ∧ (own_Y FL FI FQ FP FN) ∧ (own_V LI LR LA) ∧ (∀ x : Int32, 1 ≤ x.toInt → x.toInt ≤ acc.toInt → 1 ≤ (gI PR x).toInt ∧ (gI PR x).toInt ≤ 1000 ∧ (gI SD x = 0 ∨ gI SD x = 1)) ∧ (∀ x y : Int32, own_mem RI RN x → own_mem RI RN y → gI SD x = 0 → gI SD y = 1 → (gI PR x).toInt < (gI PR y).toInt) ∧ (own_sm FL 256 % 2 = 0) ∧ (∀ x : Int32, 0 ≤ x.toInt → x.toInt < 256 → (x.toInt < 1 ∨ acc.toInt < x.toInt) → gI FL x = 0)
theorem own_Z.sd {SD PR RM FL ST : List Int32} {SP : List Int64} {TP RI FI FQ FP LI LR LA : List Int32} {acc RN FN : Int32} (self : own_Z SD PR RM FL ST SP TP RI FI FQ FP LI LR LA acc RN FN) : SD.length = 256 := self.1
theorem own_Z.pr {SD PR RM FL ST : List Int32} {SP : List Int64} {TP RI FI FQ FP LI LR LA : List Int32} {acc RN FN : Int32} (self : own_Z SD PR RM FL ST SP TP RI FI FQ FP LI LR LA acc RN FN) : PR.length = 256 := self.2.1
theorem own_Z.sp {SD PR RM FL ST : List Int32} {SP : List Int64} {TP RI FI FQ FP LI LR LA : List Int32} {acc RN FN : Int32} (self : own_Z SD PR RM FL ST SP TP RI FI FQ FP LI LR LA acc RN FN) : SP.length = 256 := self.2.2.1
theorem own_Z.a0 {SD PR RM FL ST : List Int32} {SP : List Int64} {TP RI FI FQ FP LI LR LA : List Int32} {acc RN FN : Int32} (self : own_Z SD PR RM FL ST SP TP RI FI FQ FP LI LR LA acc RN FN) : 0 ≤ acc.toInt := self.2.2.2.1
theorem own_Z.X {SD PR RM FL ST : List Int32} {SP : List Int64} {TP RI FI FQ FP LI LR LA : List Int32} {acc RN FN : Int32} (self : own_Z SD PR RM FL ST SP TP RI FI FQ FP LI LR LA acc RN FN) : own_X SD RM ST TP RI RN acc := self.2.2.2.2.1
theorem own_Z.Y {SD PR RM FL ST : List Int32} {SP : List Int64} {TP RI FI FQ FP LI LR LA : List Int32} {acc RN FN : Int32} (self : own_Z SD PR RM FL ST SP TP RI FI FQ FP LI LR LA acc RN FN) : own_Y FL FI FQ FP FN := self.2.2.2.2.2.1
theorem own_Z.V {SD PR RM FL ST : List Int32} {SP : List Int64} {TP RI FI FQ FP LI LR LA : List Int32} {acc RN FN : Int32} (self : own_Z SD PR RM FL ST SP TP RI FI FQ FP LI LR LA acc RN FN) : own_V LI LR LA := self.2.2.2.2.2.2.1
theorem own_Z.p1 {SD PR RM FL ST : List Int32} {SP : List Int64} {TP RI FI FQ FP LI LR LA : List Int32} {acc RN FN : Int32} (self : own_Z SD PR RM FL ST SP TP RI FI FQ FP LI LR LA acc RN FN) : ∀ x : Int32, 1 ≤ x.toInt → x.toInt ≤ acc.toInt → 1 ≤ (gI PR x).toInt ∧ (gI PR x).toInt ≤ 1000 ∧ (gI SD x = 0 ∨ gI SD x = 1) := self.2.2.2.2.2.2.2.1
theorem own_Z.nc {SD PR RM FL ST : List Int32} {SP : List Int64} {TP RI FI FQ FP LI LR LA : List Int32} {acc RN FN : Int32} (self : own_Z SD PR RM FL ST SP TP RI FI FQ FP LI LR LA acc RN FN) : ∀ x y : Int32, own_mem RI RN x → own_mem RI RN y → gI SD x = 0 → gI SD y = 1 → (gI PR x).toInt < (gI PR y).toInt := self.2.2.2.2.2.2.2.2.1
theorem own_Z.par {SD PR RM FL ST : List Int32} {SP : List Int64} {TP RI FI FQ FP LI LR LA : List Int32} {acc RN FN : Int32} (self : own_Z SD PR RM FL ST SP TP RI FI FQ FP LI LR LA acc RN FN) : own_sm FL 256 % 2 = 0 := self.2.2.2.2.2.2.2.2.2.1
theorem own_Z.fz {SD PR RM FL ST : List Int32} {SP : List Int64} {TP RI FI FQ FP LI LR LA : List Int32} {acc RN FN : Int32} (self : own_Z SD PR RM FL ST SP TP RI FI FQ FP LI LR LA acc RN FN) : ∀ x : Int32, 0 ≤ x.toInt → x.toInt < 256 → (x.toInt < 1 ∨ acc.toInt < x.toInt) → gI FL x = 0 := self.2.2.2.2.2.2.2.2.2.2
theorem own_cfX {SD RI TP0 : List Int32} {RN acc : Int32} (w : own_W RI RN acc) (lS : SD.length = 256) (lT : TP0.length = 256) (v1 : Int32) : Tot (f_clearFlags SD RI RN TP0 v1) (fun T => T.length = 256 ∧ (∀ x, own_mem RI RN x → gI SD x = v1 → gI T x = 0) ∧ (∀ x : Int32, 0 ≤ x.toInt → gI T x = 0 ∨ gI T x = gI TP0 x)) := by
  have e0 : (0 : Int32).toInt = 0 := rfl
  have l := w.l
  have n0 := w.n0
  have n1 := w.n1
  have key : ∀ (n : Nat) (T : List Int32) (v2 : Int32), 0 ≤ v2.toInt → v2.toInt ≤ RN.toInt → RN.toInt - v2.toInt < n → T.length = 256 → (∀ j : Int32, 0 ≤ j.toInt → j.toInt < v2.toInt → gI SD (gI RI j) = v1 → gI T (gI RI j) = 0) → (∀ x : Int32, 0 ≤ x.toInt → gI T x = 0 ∨ gI T x = gI TP0 x) →
      Tot (f_clearFlags_2 SD RI RN n T v1 v2) (fun T => T.length = 256 ∧ (∀ x, own_mem RI RN x → gI SD x = v1 → gI T x = 0) ∧ (∀ x : Int32, 0 ≤ x.toInt → gI T x = 0 ∨ gI T x = gI TP0 x)) := by
    intro n
    induction n with
    | zero => intro T v2 a b c; omega
    | succ n ih =>
      intro T v2 a b c lT h1 h2
      unfold f_clearFlags_2
      refine own_iL (fun c1 => ?_) (fun c1 => ?_)
      · have p := own_p1 (a := v2) (by omega)
        have rg := own_Rg w.r a (by omega)
        rw [rdg a (by omega), Option.bind_some, rdg rg.1 (by omega), Option.bind_some]
        refine own_iE (fun g => ?_) (fun g => ?_)
        · rw [wrA_in rg.1 (by omega), Option.bind_some]
          have gT : ∀ x : Int32, 0 ≤ x.toInt → gI (T.set (gI RI v2).toInt.toNat 0) x = if gI RI v2 = x then 0 else gI T x := fun x hx => gset rg.1 (by omega) hx
          refine ih _ _ (by omega) (by omega) (by omega) (by rw [List.length_set]; exact lT) ?_ ?_
          · refine own_i0 (fun j j0 j1 hs => ?_) (fun _ => ?_) a (by omega)
            · have rj := own_Rg w.r j0 (by omega)
              rw [gT _ rj.1]
              by_cases e : gI RI v2 = gI RI j
              · rw [if_pos e]
              · rw [if_neg e]; exact h1 j j0 j1 hs
            · rw [gT _ rg.1, if_pos rfl]
          · intro x hx
            rw [gT x hx]
            by_cases e : gI RI v2 = x
            · rw [if_pos e]; exact Or.inl rfl
            · rw [if_neg e]; exact h2 x hx
        · exact ih _ _ (by omega) (by omega) (by omega) lT (own_i0 h1 (fun q => absurd q g) a (by omega)) h2
      · have e : v2.toInt = RN.toInt := by omega
        rw [e] at h1
        refine Tot.mk ⟨lT, ?_, h2⟩
        rintro x ⟨j, j0, j1, ej⟩ hs
        rw [← ej] at hs ⊢
        exact h1 j j0 j1 hs
  unfold f_clearFlags
  exact key 100000 TP0 0 (by omega) (by omega) (by omega) lT (fun j j0 j1 => by omega) (fun x _ => Or.inr rfl)
theorem own_fiX {SD PR RM ST TP RI : List Int32} {SP : List Int64} {acc RN : Int32} (stamp : Int64) {id side price q kind : Int32} (sd : SD.length = 256) (pr : PR.length = 256) (sp : SP.length = 256) (X : own_X SD RM ST TP RI RN acc) (hp : ∀ x, own_mem RI RN x → 1 ≤ (gI PR x).toInt) (hid : id.toInt = acc.toInt + 1) (hid1 : id.toInt ≤ 255) (ha : 0 ≤ acc.toInt) (hs : gI SD id = side) (hpr : gI PR id = price) (hside : side = 0 ∨ side = 1) (q0 : 0 ≤ q.toInt) (q1 : q.toInt ≤ 10000)
    (nc : ∀ x y : Int32, own_mem RI RN x → own_mem RI RN y → gI SD x = 0 → gI SD y = 1 → (gI PR x).toInt < (gI PR y).toInt) (hnc : 0 < q.toInt → ∀ x, own_mem RI RN x → gI SD x = 1 - side → own_nc side price (gI PR x)) :
    Tot (f_finishIncoming SD PR RM ST SP TP RI stamp RN id side price q kind) (fun (RM, ST, SP, TP, RI, stamp, RN) => own_X SD RM ST TP RI RN id ∧ SP.length = 256 ∧ (∀ x y : Int32, own_mem RI RN x → own_mem RI RN y → gI SD x = 0 → gI SD y = 1 → (gI PR x).toInt < (gI PR y).toInt)) := by
  have e0 : (0 : Int32).toInt = 0 := rfl
  have e64 : (64 : Int32).toInt = 64 := rfl
  have lM := X.lM
  have lS := X.lS
  have lT := X.lT
  have nid : ¬ own_mem RI RN id := fun h => by have := X.rg h; omega
  have out : ∀ (sv : Int32), ¬ sv = 1 → own_X SD (RM.set id.toInt.toNat 0) (ST.set id.toInt.toNat sv) TP RI RN id := by
    intro sv hsv
    refine ⟨X.w.up (by omega), hid1, by rw [List.length_set]; exact lM, by rw [List.length_set]; exact lS, lT, ?_, ?_, X.t⟩
    · intro x x0 x1
      rw [gset (by omega) (by omega) (by omega)]
      by_cases e : id = x
      · rw [if_pos e]
        exact ⟨fun z => absurd z hsv, fun z => absurd (e ▸ z) nid⟩
      · rw [if_neg e]
        exact X.s x x0 (by rw [ieq] at e; omega)
    · intro x hx
      have rx := X.rg hx
      rw [gset (by omega) (by omega) (by omega), if_neg (fun z => by rw [ieq] at z; omega)]
      exact X.r x hx
  have k35 : Tot (f_finishIncoming_35 SD PR RM ST SP TP RI stamp RN id) (fun (RM, ST, SP, TP, RI, stamp, RN) => own_X SD RM ST TP RI RN id ∧ SP.length = 256 ∧ (∀ x y : Int32, own_mem RI RN x → own_mem RI RN y → gI SD x = 0 → gI SD y = 1 → (gI PR x).toInt < (gI PR y).toInt)) := by
    unfold f_finishIncoming_35
    rw [wrA_in (by omega) (by omega), Option.bind_some, wrA_in (by omega) (by omega), Option.bind_some]
    exact Tot.mk ⟨out 4 (by decide), sp, nc⟩
  unfold f_finishIncoming f_better
  refine own_iE (fun _ => ?_) (fun cq => ?_)
  · rw [wrA_in (by omega) (by omega), Option.bind_some, wrA_in (by omega) (by omega), Option.bind_some]
    exact Tot.mk ⟨out 2 (by decide), sp, nc⟩
  have qp : 0 < q.toInt := by rw [ieq] at cq; omega
  refine own_iE (fun _ => k35) (fun _ => ?_)
  refine own_iL (fun cr => ?_) (fun _ => k35)
  have n0 := X.w.n0
  have lR := X.w.l
  -- the order rests
  have k90 : ∀ (T : List Int32) (t0 : Int32), T.length = 256 → (t0 = 0 ∨ t0 = 1) → (∀ x, own_mem RI RN x → gI T x = 0 ∨ gI T x = gI TP x) → (t0 = 1 → ∀ x, own_mem RI RN x → gI SD x = side → gI T x = 0) →
      Tot (f_finishIncoming_90 SD PR RM ST SP T RI stamp RN id q t0) (fun (RM, ST, SP, TP, RI, stamp, RN) => own_X SD RM ST TP RI RN id ∧ SP.length = 256 ∧ (∀ x y : Int32, own_mem RI RN x → own_mem RI RN y → gI SD x = 0 → gI SD y = 1 → (gI PR x).toInt < (gI PR y).toInt)) := by
    intro T t0 lT' ht hT1 hT2
    unfold f_finishIncoming_90
    rw [wrA_in (by omega) (by omega), Option.bind_some, wrA_in (by omega) (by omega), Option.bind_some, wrA_in (by omega) (by omega), Option.bind_some, wrA_in (by omega) (by omega), Option.bind_some, wrA_in (by omega) (by omega), Option.bind_some]
    have w' := X.w.add ha hid hid1 (by omega)
    have pR := own_p1 (a := RN) (by omega)
    have gR : ∀ j : Int32, 0 ≤ j.toInt → gI (RI.set RN.toInt.toNat id) j = if RN = j then id else gI RI j := fun j hj => gset n0 (by omega) hj
    have mm : ∀ x, own_mem (RI.set RN.toInt.toNat id) (RN + 1) x ↔ own_mem RI RN x ∨ x = id := by
      intro x
      constructor
      · rintro ⟨j, j0, j1, ej⟩
        rw [gR j j0] at ej
        by_cases e : RN = j
        · rw [if_pos e] at ej; exact Or.inr ej.symm
        · rw [if_neg e] at ej
          rw [ieq] at e
          exact Or.inl ⟨j, j0, by omega, ej⟩
      · rintro (⟨j, j0, j1, ej⟩ | h)
        · refine ⟨j, j0, by omega, ?_⟩
          rw [gR j j0, if_neg (fun z => by rw [ieq] at z; omega)]; exact ej
        · refine ⟨RN, n0, by omega, ?_⟩
          rw [gR RN n0, if_pos rfl, h]
    have t1 : t0 &&& 1 = t0 := by rcases ht with h | h <;> rw [h] <;> decide
    have gT : ∀ x : Int32, 0 ≤ x.toInt → gI (T.set id.toInt.toNat (t0 &&& 1)) x = if id = x then t0 else gI T x := fun x hx => by rw [t1]; exact gset (by omega) (by omega) hx
    have gS : ∀ x : Int32, 0 ≤ x.toInt → gI (ST.set id.toInt.toNat 1) x = if id = x then 1 else gI ST x := fun x hx => gset (by omega) (by omega) hx
    have gM : ∀ x : Int32, 0 ≤ x.toInt → gI (RM.set id.toInt.toNat q) x = if id = x then q else gI RM x := fun x hx => gset (by omega) (by omega) hx
    have old : ∀ x, own_mem RI RN x → ¬ id = x ∧ 1 ≤ x.toInt := fun x hx => ⟨fun z => nid (z ▸ hx), (X.rg hx).1⟩
    have told : ∀ x, own_mem RI RN x → ¬ gI T x = 0 → gI TP x = gI T x := fun x hx hz => ((hT1 x hx).resolve_left hz).symm
    refine Tot.mk ⟨⟨w', hid1, by rw [List.length_set]; exact lM, by rw [List.length_set]; exact lS, by rw [List.length_set]; exact lT', ?_, ?_, ?_⟩, by rw [List.length_set]; exact sp, ?_⟩
    · intro x x0 x1
      rw [gS x (by omega), mm x]
      by_cases e : id = x
      · rw [if_pos e]; exact ⟨fun _ => Or.inr e.symm, fun _ => rfl⟩
      · rw [if_neg e, X.s x x0 (by rw [ieq] at e; omega)]
        exact ⟨Or.inl, fun z => z.resolve_right (fun z => e z.symm)⟩
    · intro x hx
      rcases (mm x).mp hx with h | h
      · obtain ⟨o1, o2⟩ := old x h
        rw [gM x (by omega), if_neg o1]; exact X.r x h
      · rw [h, gM id (by omega), if_pos rfl]; omega
    · intro x y hx hy hsd tx ty
      rcases (mm x).mp hx with h | h <;> rcases (mm y).mp hy with h' | h'
      · obtain ⟨o1, o2⟩ := old x h
        obtain ⟨o3, o4⟩ := old y h'
        rw [gT x (by omega), if_neg o1] at tx
        rw [gT y (by omega), if_neg o3] at ty
        exact X.t x y h h' hsd (by rw [told x h tx]; exact tx) (by rw [told y h' ty]; exact ty)
      · exfalso
        obtain ⟨o1, o2⟩ := old x h
        rw [h', gT id (by omega), if_pos rfl] at ty
        rw [gT x (by omega), if_neg o1] at tx
        rw [h', hs] at hsd
        exact tx (hT2 (ht.resolve_left ty) x h hsd)
      · exfalso
        obtain ⟨o1, o2⟩ := old y h'
        rw [h, gT id (by omega), if_pos rfl] at tx
        rw [gT y (by omega), if_neg o1] at ty
        rw [h, hs] at hsd
        exact ty (hT2 (ht.resolve_left tx) y h' hsd.symm)
      · rw [h, h']
    · intro x y hx hy sx sy
      rcases (mm x).mp hx with h | h <;> rcases (mm y).mp hy with h' | h'
      · exact nc x y h h' sx sy
      · rw [h', hs] at sy
        have := hnc qp x h (by rw [sx, sy]; decide)
        unfold own_nc at this
        rw [if_neg (by rw [sy]; decide)] at this
        rw [h', hpr]; exact this
      · rw [h, hs] at sx
        have := hnc qp y h' (by rw [sx, sy]; decide)
        unfold own_nc at this
        rw [if_pos sx] at this
        rw [h, hpr]; exact this
      · rw [h, hs] at sx
        rw [h', hs, sx] at sy
        exact absurd sy (by decide)
  have k78 : ∀ t0 : Int32, (t0 = 0 ∨ t0 = 1) → Tot (f_finishIncoming_78 SD PR RM ST SP TP RI stamp RN id side q t0) (fun (RM, ST, SP, TP, RI, stamp, RN) => own_X SD RM ST TP RI RN id ∧ SP.length = 256 ∧ (∀ x y : Int32, own_mem RI RN x → own_mem RI RN y → gI SD x = 0 → gI SD y = 1 → (gI PR x).toInt < (gI PR y).toInt)) := by
    intro t0 ht
    unfold f_finishIncoming_78
    refine own_iE (fun z => ?_) (fun z => ?_)
    · exact k90 TP t0 lT ht (fun _ _ => Or.inr rfl) (fun h => by rw [h] at z; exact absurd z (by decide))
    · refine Tot.bind (own_cfX X.w sd lT side) ?_
      rintro T ⟨h1, h2, h3⟩
      exact k90 T t0 h1 ht (fun x hx => h3 x (by have := X.rg hx; omega)) (fun _ => h2)
  refine Tot.bind (own_bestX X.w sd pr hp side) ?_
  intro r _
  refine own_iE (fun _ => k78 1 (Or.inr rfl)) (fun _ => ?_)
  refine own_bs ?_
  have two : ∀ c : Int32, (if c = (0 : Int32) then (0 : Int32) else (1 : Int32)) = 0 ∨ (if c = (0 : Int32) then (0 : Int32) else (1 : Int32)) = 1 := by
    intro c
    split
    · exact Or.inl rfl
    · exact Or.inr rfl
  exact k78 _ (two _)
theorem own_subX {SD PR RM FL ST : List Int32} {SP : List Int64} {TP RI FI FQ FP LI LR LA : List Int32} {acc RN FN : Int32} (b : own_Z SD PR RM FL ST SP TP RI FI FQ FP LI LR LA acc RN FN) (ma tc LN : Int32) (stamp : Int64) (v1 v2 v3 v4 : Int32) (h1 : v1 = 0 ∨ v1 = 1) (h2 : 1 ≤ v2.toInt) (h2' : v2.toInt ≤ 1000) (h3 : 1 ≤ v3.toInt) (h3' : v3.toInt ≤ 10000) (h4 : v4 = 0 ∨ v4 = 1) (ha : acc.toInt < 255) :
    Tot (f_submit ma tc SD PR RM FL ST SP TP RI FI FQ FP LI LR LA acc stamp RN FN LN v1 v2 v3 v4) (fun (r, SD, PR, RM, FL, ST, SP, TP, RI, FI, FQ, FP, LI, LR, LA, acc', stamp, RN, FN, LN) => own_Z SD PR RM FL ST SP TP RI FI FQ FP LI LR LA acc' RN FN) := by
  obtain ⟨sd, pr, sp, a0, X, Y, V, p1, nc, par, fz⟩ := b
  have p := own_p1 (a := acc) (by omega)
  have e0 : (0 : Int32).toInt = 0 := rfl
  have e1 : (1 : Int32).toInt = 1 := rfl
  have e255 : (255 : Int32).toInt = 255 := rfl
  have e1000 : (1000 : Int32).toInt = 1000 := rfl
  have e10000 : (10000 : Int32).toInt = 10000 := rfl
  have lM := X.lM
  have lS := X.lS
  have lT := X.lT
  have lF := Y.lF
  have key : Tot (f_submit_55 ma tc SD PR RM FL ST SP TP RI FI FQ FP LI LR LA acc stamp RN FN LN v1 v2 v3 v4) (fun (r, SD, PR, RM, FL, ST, SP, TP, RI, FI, FQ, FP, LI, LR, LA, acc', stamp, RN, FN, LN) => own_Z SD PR RM FL ST SP TP RI FI FQ FP LI LR LA acc' RN FN) := by
    generalize hid : acc + 1 = id at p
    unfold f_submit_55
    rw [hid]
    refine own_iL (fun c => ?_) (fun c => absurd c (by omega))
    rw [wrA_in (by omega) (by omega), Option.bind_some, wrA_in (by omega) (by omega), Option.bind_some, wrA_in (by omega) (by omega), Option.bind_some, wrA_in (by omega) (by omega), Option.bind_some, wrA_in (by omega) (by omega), Option.bind_some, wrA_in (by omega) (by omega), Option.bind_some]
    have gD : ∀ x : Int32, 0 ≤ x.toInt → gI (SD.set id.toInt.toNat v1) x = if id = x then v1 else gI SD x := fun x hx => gset (by omega) (by omega) hx
    have gP : ∀ x : Int32, 0 ≤ x.toInt → gI (PR.set id.toInt.toNat v2) x = if id = x then v2 else gI PR x := fun x hx => gset (by omega) (by omega) hx
    have gM : ∀ x : Int32, 0 ≤ x.toInt → gI (RM.set id.toInt.toNat 0) x = if id = x then 0 else gI RM x := fun x hx => gset (by omega) (by omega) hx
    have gT : ∀ x : Int32, 0 ≤ x.toInt → gI (TP.set id.toInt.toNat 0) x = if id = x then 0 else gI TP x := fun x hx => gset (by omega) (by omega) hx
    have gF : ∀ x : Int32, 0 ≤ x.toInt → gI (FL.set id.toInt.toNat 0) x = if id = x then 0 else gI FL x := fun x hx => gset (by omega) (by omega) hx
    have ne : ∀ x : Int32, x.toInt ≤ acc.toInt → ¬ id = x := fun x hx z => by rw [ieq] at z; omega
    have oD : ∀ x, own_mem RI RN x → gI (SD.set id.toInt.toNat v1) x = gI SD x := fun x hx => by have := X.rg hx; rw [gD x (by omega), if_neg (ne x this.2)]
    have oP : ∀ x, own_mem RI RN x → gI (PR.set id.toInt.toNat v2) x = gI PR x := fun x hx => by have := X.rg hx; rw [gP x (by omega), if_neg (ne x this.2)]
    have X1 : own_X (SD.set id.toInt.toNat v1) (RM.set id.toInt.toNat 0) ST (TP.set id.toInt.toNat 0) RI RN acc := by
      refine ⟨X.w, X.a1, by rw [List.length_set]; exact lM, lS, by rw [List.length_set]; exact lT, X.s, ?_, ?_⟩
      · intro x hx
        have := X.rg hx
        rw [gM x (by omega), if_neg (ne x this.2)]
        exact X.r x hx
      · intro x y hx hy hs tx ty
        have rx := X.rg hx
        have ry := X.rg hy
        rw [oD x hx, oD y hy] at hs
        rw [gT x (by omega), if_neg (ne x rx.2)] at tx
        rw [gT y (by omega), if_neg (ne y ry.2)] at ty
        exact X.t x y hx hy hs tx ty
    have par1 : own_sm (FL.set id.toInt.toNat 0) 256 % 2 = 0 := by
      rw [own_sm_s (by omega) (by omega) 256 (by omega) (by omega), if_pos (by omega), fz id (by omega) (by omega) (Or.inr (by omega))]
      omega
    have hp1 : ∀ x, own_mem RI RN x → 1 ≤ (gI (PR.set id.toInt.toNat v2) x).toInt := fun x hx => by rw [oP x hx]; have r := X.rg hx; exact (p1 x r.1 r.2).1
    have n1 := X.w.n1
    unfold f_matchIncoming
    refine Tot.bind (own_miX (ma := ma) (tc := tc) (price := v2) (id := id) (by rw [List.length_set]; exact sd) (by rw [List.length_set]; exact pr) (by rw [List.length_set]; exact sp) h1 p (by omega) a0 100000 _ _ _ _ _ _ _ _ _ _ _ RN 0 LN v3 0 (by omega) (by omega) (by omega) X1 ⟨by rw [List.length_set]; exact lF, Y.lI, Y.lQ, Y.lP, by omega, by omega⟩ V hp1 (by omega) h3' par1 (fun _ => by omega)) ?_
    rintro ⟨q, RM2, FL2, ST2, TP2, RI2, FI2, FQ2, FP2, LI2, LR2, LA2, RN2, FN2, LN2⟩ ⟨X2, Y2, V2, d1, d2, d3, d4, d5, d6⟩
    have d1' : ∀ x, own_mem RI2 RN2 x → own_mem RI RN x := d1
    have d3' : q.toInt ≤ v3.toInt := d3
    have d5' : ∀ x : Int32, 0 ≤ x.toInt → x.toInt < 256 → (x.toInt < 1 ∨ id.toInt < x.toInt) → gI FL2 x = gI (FL.set id.toInt.toNat 0) x := d5
    refine Tot.bind (own_fiX (kind := v4) stamp (by rw [List.length_set]; exact sd) (by rw [List.length_set]; exact pr) (by rw [List.length_set]; exact sp) X2 (fun x hx => hp1 x (d1' x hx)) p (by omega) a0 (by rw [gD id (by omega), if_pos rfl]) (by rw [gP id (by omega), if_pos rfl]) h1 d2 (by omega) ?_ d6) ?_
    · intro x y hx hy sx sy
      rw [oD x (d1' x hx)] at sx
      rw [oD y (d1' y hy)] at sy
      rw [oP x (d1' x hx), oP y (d1' y hy)]
      exact nc x y (d1' x hx) (d1' y hy) sx sy
    rintro ⟨RM3, ST3, SP3, TP3, RI3, stamp3, RN3⟩ ⟨X3, l3, nc3⟩
    refine Tot.mk ⟨by rw [List.length_set]; exact sd, by rw [List.length_set]; exact pr, l3, by omega, X3, Y2, V2, ?_, nc3, d4, ?_⟩
    · intro x x0 x1
      rw [gD x (by omega), gP x (by omega)]
      by_cases e : id = x
      · rw [if_pos e, if_pos e]; exact ⟨h2, h2', h1⟩
      · rw [if_neg e, if_neg e]
        exact p1 x x0 (by rw [ieq] at e; omega)
    · intro x x0 x1 hx
      show gI FL2 x = 0
      rw [d5' x x0 x1 hx, gF x x0]
      by_cases e : id = x
      · rw [if_pos e]
      · rw [if_neg e]; exact fz x x0 x1 (by omega)
  have key2 : Tot (f_submit_11 ma tc SD PR RM FL ST SP TP RI FI FQ FP LI LR LA acc stamp RN FN LN v1 v2 v3 v4) (fun (r, SD, PR, RM, FL, ST, SP, TP, RI, FI, FQ, FP, LI, LR, LA, acc', stamp, RN, FN, LN) => own_Z SD PR RM FL ST SP TP RI FI FQ FP LI LR LA acc' RN FN) := by
    unfold f_submit_11
    refine own_iL (fun c => absurd c (by omega)) (fun _ => ?_)
    refine own_iL (fun c => absurd c (by omega)) (fun _ => ?_)
    refine own_iL (fun c => absurd c (by omega)) (fun _ => ?_)
    refine own_iL (fun c => absurd c (by omega)) (fun _ => ?_)
    refine own_iE (fun _ => key) (fun c => ?_)
    exact own_iE (fun _ => key) (fun c' => absurd h4 (by rintro (h | h) <;> contradiction))
  unfold f_submit
  refine own_iE (fun _ => key2) (fun c => ?_)
  exact own_iE (fun _ => key2) (fun c' => absurd h1 (by rintro (h | h) <;> contradiction))
theorem own_subZ {SD PR RM FL ST : List Int32} {SP : List Int64} {TP RI FI FQ FP LI LR LA : List Int32} {acc RN FN : Int32} (b : own_Z SD PR RM FL ST SP TP RI FI FQ FP LI LR LA acc RN FN) (ma tc LN : Int32) (stamp : Int64) (v1 v2 v3 v4 : Int32) :
    Tot (f_submit ma tc SD PR RM FL ST SP TP RI FI FQ FP LI LR LA acc stamp RN FN LN v1 v2 v3 v4) (fun (r, SD, PR, RM, FL, ST, SP, TP, RI, FI, FQ, FP, LI, LR, LA, acc', stamp, RN, FN, LN) => own_Z SD PR RM FL ST SP TP RI FI FQ FP LI LR LA acc' RN FN) := by
  by_cases h1 : v1 = 0 ∨ v1 = 1
  · by_cases h2 : 1 ≤ v2.toInt
    · by_cases h2' : v2.toInt ≤ 1000
      · by_cases h3 : 1 ≤ v3.toInt
        · by_cases h3' : v3.toInt ≤ 10000
          · by_cases h4 : v4 = 0 ∨ v4 = 1
            · by_cases ha : acc.toInt < 255
              · exact own_subX b ma tc LN stamp v1 v2 v3 v4 h1 h2 h2' h3 h3' h4 ha
              · exact Tot.of (own_sub_full ma tc LN stamp v1 v2 v3 v4 h1 h2 h2' h3 h3' h4 (by omega)) b
            · unfold f_submit f_submit_11
              have n1 : ¬ v2 < 1 := by rw [ilt]; exact Int.not_lt.mpr h2
              have n2 : ¬ (1000 : Int32) < v2 := by rw [ilt]; exact Int.not_lt.mpr h2'
              have n3 : ¬ v3 < 1 := by rw [ilt]; exact Int.not_lt.mpr h3
              have n4 : ¬ (10000 : Int32) < v3 := by rw [ilt]; exact Int.not_lt.mpr h3'
              rw [if_neg n1, if_neg n2, if_neg n3, if_neg n4, if_neg (fun h => h4 (Or.inl h)), if_neg (fun h => h4 (Or.inr h))]
              rcases h1 with h | h <;> subst h <;> exact Tot.mk b
          · unfold f_submit f_submit_11
            have n1 : ¬ v2 < 1 := by rw [ilt]; exact Int.not_lt.mpr h2
            have n2 : ¬ (1000 : Int32) < v2 := by rw [ilt]; exact Int.not_lt.mpr h2'
            have n3 : ¬ v3 < 1 := by rw [ilt]; exact Int.not_lt.mpr h3
            have n4 : (10000 : Int32) < v3 := by rw [ilt]; exact Int.not_le.mp h3'
            rw [if_neg n1, if_neg n2, if_neg n3, if_pos n4]
            rcases h1 with h | h <;> subst h <;> exact Tot.mk b
        · unfold f_submit f_submit_11
          have n1 : ¬ v2 < 1 := by rw [ilt]; exact Int.not_lt.mpr h2
          have n2 : ¬ (1000 : Int32) < v2 := by rw [ilt]; exact Int.not_lt.mpr h2'
          have n3 : v3 < 1 := by rw [ilt]; exact Int.not_le.mp h3
          rw [if_neg n1, if_neg n2, if_pos n3]
          rcases h1 with h | h <;> subst h <;> exact Tot.mk b
      · unfold f_submit f_submit_11
        have n1 : ¬ v2 < 1 := by rw [ilt]; exact Int.not_lt.mpr h2
        have n2 : (1000 : Int32) < v2 := by rw [ilt]; exact Int.not_le.mp h2'
        rw [if_neg n1, if_pos n2]
        rcases h1 with h | h <;> subst h <;> exact Tot.mk b
    · unfold f_submit f_submit_11
      have n1 : v2 < 1 := by rw [ilt]; exact Int.not_le.mp h2
      rw [if_pos n1]
      rcases h1 with h | h <;> subst h <;> exact Tot.mk b
  · unfold f_submit
    rw [if_neg (fun h => h1 (Or.inl h)), if_neg (fun h => h1 (Or.inr h))]
    exact Tot.mk b
/-- resting, or not -/
theorem own_rst {SD RM ST TP RI : List Int32} {RN acc : Int32} (X : own_X SD RM ST TP RI RN acc) (v : Int32) : (f_isResting ST acc v = some 0 ∧ ¬ own_mem RI RN v) ∨ (f_isResting ST acc v = some 1 ∧ own_mem RI RN v ∧ 1 ≤ v.toInt ∧ v.toInt ≤ acc.toInt ∧ gI ST v = 1) := by
  have e1 : (1 : Int32).toInt = 1 := rfl
  have lS := X.lS
  have a1 := X.a1
  unfold f_isResting
  by_cases c1 : v < 1
  · rw [if_pos c1]
    rw [ilt] at c1
    exact Or.inl ⟨rfl, fun h => by have := X.rg h; omega⟩
  rw [if_neg c1]
  by_cases c2 : acc < v
  · rw [if_pos c2]
    rw [ilt] at c2
    exact Or.inl ⟨rfl, fun h => by have := X.rg h; omega⟩
  rw [if_neg c2]
  rw [ilt] at c1 c2
  rw [rdg (by omega) (by omega), Option.bind_some]
  have s := X.s v (by omega) (by omega)
  by_cases g : gI ST v = 1
  · rw [if_pos g]; exact Or.inr ⟨rfl, s.mp g, by omega, by omega, g⟩
  · rw [if_neg g]; exact Or.inl ⟨rfl, fun h => g (s.mpr h)⟩
theorem own_canZ {SD PR RM FL ST : List Int32} {SP : List Int64} {TP RI FI FQ FP LI LR LA : List Int32} {acc RN FN : Int32} (b : own_Z SD PR RM FL ST SP TP RI FI FQ FP LI LR LA acc RN FN) (v : Int32) :
    Tot (f_cancel acc RM ST TP RI RN v) (fun (r, RM, ST, TP, RI, RN) => own_Z SD PR RM FL ST SP TP RI FI FQ FP LI LR LA acc RN FN) := by
  have b' := b
  obtain ⟨sd, pr, sp, a0, X, Y, V, p1, nc, par, fz⟩ := b
  have a1 := X.a1
  have lM := X.lM
  have lS := X.lS
  have lT := X.lT
  unfold f_cancel
  rcases own_rst X v with ⟨e, _⟩ | ⟨e, hm, v0, v1, _⟩
  · rw [e, Option.bind_some, if_pos rfl]; exact Tot.mk b'
  · rw [e, Option.bind_some, if_neg (by decide), wrA_in (by omega) (by omega), Option.bind_some, wrA_in (by omega) (by omega), Option.bind_some, wrA_in (by omega) (by omega), Option.bind_some]
    refine Tot.bind (own_rm X.w v) ?_
    rintro ⟨RI', RN'⟩ ⟨w', _, hi, _⟩
    have hi' : ∀ x, own_mem RI' RN' x ↔ own_mem RI RN x ∧ x ≠ v := hi
    have gS : ∀ x : Int32, 0 ≤ x.toInt → gI (ST.set v.toInt.toNat 3) x = if v = x then 3 else gI ST x := fun x hx => gset (by omega) (by omega) hx
    have gM : ∀ x : Int32, 0 ≤ x.toInt → gI (RM.set v.toInt.toNat 0) x = if v = x then 0 else gI RM x := fun x hx => gset (by omega) (by omega) hx
    have gT : ∀ x : Int32, 0 ≤ x.toInt → gI (TP.set v.toInt.toNat 0) x = if v = x then 0 else gI TP x := fun x hx => gset (by omega) (by omega) hx
    refine Tot.mk ⟨sd, pr, sp, a0, ⟨w', a1, by rw [List.length_set]; exact lM, by rw [List.length_set]; exact lS, by rw [List.length_set]; exact lT, ?_, ?_, ?_⟩, Y, V, p1, fun x y hx hy => nc x y ((hi' x).mp hx).1 ((hi' y).mp hy).1, par, fz⟩
    · intro x x0 x1
      rw [gS x (by omega), hi' x]
      by_cases e : v = x
      · rw [if_pos e]
        exact ⟨fun q => absurd q (by decide), fun q => absurd e.symm q.2⟩
      · rw [if_neg e, X.s x x0 x1]
        exact ⟨fun q => ⟨q, fun z => e z.symm⟩, fun q => q.1⟩
    · intro x hx
      obtain ⟨q1, q2⟩ := (hi' x).mp hx
      have rx := X.rg q1
      rw [gM x (by omega), if_neg (fun z => q2 z.symm)]
      exact X.r x q1
    · intro x y hx hy hs tx ty
      obtain ⟨q1, q2⟩ := (hi' x).mp hx
      obtain ⟨q3, q4⟩ := (hi' y).mp hy
      have rx := X.rg q1
      have ry := X.rg q3
      rw [gT x (by omega), if_neg (fun z => q2 z.symm)] at tx
      rw [gT y (by omega), if_neg (fun z => q4 z.symm)] at ty
      exact X.t x y q1 q3 hs tx ty
theorem own_ameZ {SD PR RM FL ST : List Int32} {SP : List Int64} {TP RI FI FQ FP LI LR LA : List Int32} {acc RN FN : Int32} (b : own_Z SD PR RM FL ST SP TP RI FI FQ FP LI LR LA acc RN FN) (stamp : Int64) (v q : Int32) :
    Tot (f_amend ST acc RM SP TP stamp v q) (fun (r, RM, SP, TP, stamp) => own_Z SD PR RM FL ST SP TP RI FI FQ FP LI LR LA acc RN FN) := by
  have b' := b
  obtain ⟨sd, pr, sp, a0, X, Y, V, p1, nc, par, fz⟩ := b
  have a1 := X.a1
  have lM := X.lM
  have lS := X.lS
  have lT := X.lT
  have e1 : (1 : Int32).toInt = 1 := rfl
  have e10000 : (10000 : Int32).toInt = 10000 := rfl
  unfold f_amend
  rcases own_rst X v with ⟨e, _⟩ | ⟨e, hm, v0, v1, _⟩
  · rw [e, Option.bind_some, if_pos rfl]; exact Tot.mk b'
  · rw [e, Option.bind_some, if_neg (by decide)]
    refine own_iL (fun _ => Tot.mk b') (fun c1 => own_iL (fun _ => Tot.mk b') (fun c2 => ?_))
    have gM : ∀ x : Int32, 0 ≤ x.toInt → gI (RM.set v.toInt.toNat q) x = if v = x then q else gI RM x := fun x hx => gset (by omega) (by omega) hx
    have gT : ∀ x : Int32, 0 ≤ x.toInt → gI (TP.set v.toInt.toNat 0) x = if v = x then 0 else gI TP x := fun x hx => gset (by omega) (by omega) hx
    have hr : ∀ x, own_mem RI RN x → 1 ≤ (gI (RM.set v.toInt.toNat q) x).toInt ∧ (gI (RM.set v.toInt.toNat q) x).toInt ≤ 10000 := by
      intro x hx
      have rx := X.rg hx
      rw [gM x (by omega)]
      by_cases e : v = x
      · rw [if_pos e]; omega
      · rw [if_neg e]; exact X.r x hx
    rw [rdg (by omega) (by omega), Option.bind_some, Option.bind_some, wrA_in (by omega) (by omega), Option.bind_some, Option.bind_some, wrA_in (by omega) (by omega), Option.bind_some, wrA_in (by omega) (by omega), Option.bind_some]
    refine own_iL (fun _ => ?_) (fun _ => own_iL (fun _ => ?_) (fun _ => Tot.mk b'))
    · exact Tot.mk ⟨sd, pr, sp, a0, ⟨X.w, a1, by rw [List.length_set]; exact lM, lS, lT, X.s, hr, X.t⟩, Y, V, p1, nc, par, fz⟩
    · refine Tot.mk ⟨sd, pr, by rw [List.length_set]; exact sp, a0, ⟨X.w, a1, by rw [List.length_set]; exact lM, lS, by rw [List.length_set]; exact lT, X.s, hr, ?_⟩, Y, V, p1, nc, par, fz⟩
      intro x y hx hy hs tx ty
      have rx := X.rg hx
      have ry := X.rg hy
      rw [gT x (by omega)] at tx
      rw [gT y (by omega)] at ty
      by_cases ex : v = x
      · rw [if_pos ex] at tx; exact absurd rfl tx
      · by_cases ey : v = y
        · rw [if_pos ey] at ty; exact absurd rfl ty
        · rw [if_neg ex] at tx
          rw [if_neg ey] at ty
          exact X.t x y hx hy hs tx ty
theorem own_newZ (mi ti : Int32) : Tot (f_init mi ti) (fun (SD, PR, RM, FL, ST, SP, TP, RI, FI, FQ, FP, LI, LR, LA, ma, tc, acc, stamp, RN, FN, LN) => own_Z SD PR RM FL ST SP TP RI FI FQ FP LI LR LA acc RN FN) := by
  unfold f_init f_init_132 f_init_141 f_init_152 f_init_165
  have e0 : (0 : Int32).toInt = 0 := rfl
  have l1 : (List.replicate 256 (0 : Int32)).length = 256 := List.length_replicate
  have l2 : (List.replicate 256 (0 : Int64)).length = 256 := List.length_replicate
  have l3 : (List.replicate 64 (0 : Int32)).length = 64 := List.length_replicate
  have w : own_W (List.replicate 64 0) 0 0 := ⟨l3, by decide, by decide, own_Rrep 64, fun i i0 i1 => by omega, fun i j i0 i1 => by omega⟩
  have nm : ∀ x, ¬ own_mem (List.replicate 64 0) 0 x := by
    rintro x ⟨j, j0, j1, _⟩
    omega
  have sz : ∀ n : Nat, n ≤ 256 → own_sm (List.replicate 256 0) n = 0 := by
    intro n
    induction n with
    | zero => intro _; rfl
    | succ n ih =>
      intro hn
      have en : (Int32.ofNat n).toInt = n := Int32.toInt_ofNat_of_lt (by omega)
      rw [own_sm, ih (by omega), gI_rep (by omega) (by omega)]
      rfl
  refine Tot.mk ⟨l1, l1, l2, by decide, ⟨w, by decide, l1, l1, l1, ?_, fun x hx => absurd hx (nm x), fun x y hx => absurd hx (nm x)⟩, ⟨l1, l3, l3, l3, by decide, by decide⟩, ⟨own_Rrep 64, l3, l3, l3⟩, ?_, fun x y hx => absurd hx (nm x), by rw [sz 256 (by omega)]; decide, ?_⟩
  · intro x x0 x1
    omega
  · intro x x0 x1
    omega
  · intro x x0 x1 _
    exact gI_rep x0 (by omega)
/-! Counting orders -/
def own_cnt (p : Nat → Bool) : Nat → Nat
  | 0 => 0
  | n + 1 => own_cnt p n + (if p n then 1 else 0)
theorem own_cnt_same {p q : Nat → Bool} : ∀ n, (∀ j, j < n → p j = q j) → own_cnt p n = own_cnt q n := by
  intro n
  induction n with
  | zero => intro _; rw [own_cnt, own_cnt]
  | succ n ih => intro h; rw [own_cnt, own_cnt, ih (fun j hj => h j (by omega)), h n (by omega)]
theorem own_cnt_upd {p q : Nat → Bool} {i : Nat} : ∀ n, i < n → (∀ j, j < n → j ≠ i → p j = q j) → own_cnt q n + (if p i then 1 else 0) = own_cnt p n + (if q i then 1 else 0) := by
  intro n
  induction n with
  | zero => intro h _; omega
  | succ n ih =>
    intro h hj
    rw [own_cnt, own_cnt]
    by_cases e : i = n
    · subst e
      have s := own_cnt_same i (fun j k => hj j (by omega) (by omega))
      omega
    · have s := ih (by omega) (fun j a b => hj j (by omega) b)
      have t := hj n (by omega) (fun z => e z.symm)
      rw [t]
      omega
theorem own_cnt_add {p q r : Nat → Bool} : ∀ n, (∀ j, j < n → (if p j then 1 else 0) + (if q j then 1 else 0) = (if r j then 1 else (0 : Nat))) → own_cnt p n + own_cnt q n = own_cnt r n := by
  intro n
  induction n with
  | zero => intro _; rfl
  | succ n ih =>
    intro h
    have a := ih (fun j hj => h j (by omega))
    have b := h n (by omega)
    rw [own_cnt, own_cnt, own_cnt]
    omega
theorem own_cnt_0 {p : Nat → Bool} : ∀ n, (∀ j, j < n → p j = false) → own_cnt p n = 0 := by
  intro n
  induction n with
  | zero => intro _; rfl
  | succ n ih => intro h; rw [own_cnt, ih (fun j hj => h j (by omega)), h n (by omega)]; rfl
theorem own_cnt_one {p : Nat → Bool} : ∀ n, (∀ i j, i < n → j < n → p i = true → p j = true → i = j) → own_cnt p n ≤ 1 := by
  intro n
  induction n with
  | zero => intro _; rw [own_cnt]; omega
  | succ n ih =>
    intro h
    rw [own_cnt]
    by_cases g : p n = true
    · rw [if_pos g, own_cnt_0 n]
      · omega
      · intro j hj
        by_cases e : p j = true
        · have := h j n (by omega) (by omega) e g
          omega
        · simpa using e
    · rw [if_neg g]
      exact ih (fun i j a b => h i j (by omega) (by omega))
theorem own_on {x : Int32} (h : 0 ≤ x.toInt) : Int32.ofNat x.toInt.toNat = x := by
  have := Int32.toInt_lt x
  rw [ieq, Int32.toInt_ofNat_of_lt (by omega)]
  omega
def own_pk (RI : List Int32) (k x : Nat) : Bool := (List.range k).any (fun j => decide (gI RI (Int32.ofNat j) = Int32.ofNat x))
theorem own_pk_iff (RI : List Int32) (k x : Nat) : own_pk RI k x = true ↔ ∃ j, j < k ∧ gI RI (Int32.ofNat j) = Int32.ofNat x := by
  unfold own_pk
  rw [List.any_eq_true]
  constructor
  · rintro ⟨j, hj, h⟩
    exact ⟨j, List.mem_range.mp hj, of_decide_eq_true h⟩
  · rintro ⟨j, hj, h⟩
    exact ⟨j, List.mem_range.mpr hj, decide_eq_true h⟩
theorem own_cnt_rest {RI : List Int32} {RN acc : Int32} (w : own_W RI RN acc) (a1 : acc.toInt ≤ 255) : ∀ k : Nat, (k : Int) ≤ RN.toInt → own_cnt (own_pk RI k) 256 = k := by
  intro k
  have n1 := w.n1
  induction k with
  | zero =>
    intro _
    apply own_cnt_0
    intro j _
    rfl
  | succ k ih =>
    intro hk
    have i := ih (by omega)
    have ek : (Int32.ofNat k).toInt = k := Int32.toInt_ofNat_of_lt (by omega)
    have rg := w.e (Int32.ofNat k) (by omega) (by omega)
    have u := own_cnt_upd (p := own_pk RI k) (q := own_pk RI (k + 1)) (i := (gI RI (Int32.ofNat k)).toInt.toNat) 256 (by omega) (by
      intro j hj ne
      rw [Bool.eq_iff_iff, own_pk_iff, own_pk_iff]
      constructor
      · rintro ⟨a, ha, h⟩; exact ⟨a, by omega, h⟩
      · rintro ⟨a, ha, h⟩
        by_cases e : a = k
        · subst e
          exfalso
          rw [h] at ne
          rw [Int32.toInt_ofNat_of_lt (by omega)] at ne
          omega
        · exact ⟨a, by omega, h⟩)
    have f1 : own_pk RI k (gI RI (Int32.ofNat k)).toInt.toNat = false := by
      rw [Bool.eq_false_iff]
      intro h
      obtain ⟨a, ha, h⟩ := (own_pk_iff _ _ _).mp h
      rw [own_on (by omega)] at h
      have ea : (Int32.ofNat a).toInt = a := Int32.toInt_ofNat_of_lt (by omega)
      have := w.d (Int32.ofNat a) (Int32.ofNat k) (by omega) (by omega) (by omega) (by omega) h
      rw [ieq] at this
      omega
    have f2 : own_pk RI (k + 1) (gI RI (Int32.ofNat k)).toInt.toNat = true := (own_pk_iff _ _ _).mpr ⟨k, by omega, by rw [own_on (by omega)]⟩
    rw [f1, f2, i] at u
    simpa using u
def own_pq (ST : List Int32) (acc : Int32) (x : Nat) : Bool := decide (gI ST (Int32.ofNat x) = 1 ∧ 1 ≤ x ∧ (x : Int) ≤ acc.toInt)
def own_pT (ST TP : List Int32) (acc : Int32) (x : Nat) : Bool := own_pq ST acc x && decide (¬ gI TP (Int32.ofNat x) = 0)
theorem own_pq_iff {SD RM ST TP RI : List Int32} {RN acc : Int32} (X : own_X SD RM ST TP RI RN acc) {x : Nat} (hx : x < 256) : own_pq ST acc x = true ↔ own_mem RI RN (Int32.ofNat x) := by
  have ex : (Int32.ofNat x).toInt = x := Int32.toInt_ofNat_of_lt (by omega)
  unfold own_pq
  rw [decide_eq_true_iff]
  constructor
  · rintro ⟨a, b, c⟩
    exact (X.s _ (by omega) (by omega)).mp a
  · intro h
    have rg := X.rg h
    exact ⟨(X.s _ rg.1 rg.2).mpr h, by omega, by omega⟩
theorem own_pq_cnt {SD RM ST TP RI : List Int32} {RN acc : Int32} (X : own_X SD RM ST TP RI RN acc) : (own_cnt (own_pq ST acc) 256 : Int) = RN.toInt := by
  have n0 := X.w.n0
  have n1 := X.w.n1
  have c := own_cnt_rest X.w X.a1 RN.toInt.toNat (by omega)
  have s : own_cnt (own_pq ST acc) 256 = own_cnt (own_pk RI RN.toInt.toNat) 256 := by
    apply own_cnt_same
    intro x hx
    rw [Bool.eq_iff_iff, own_pq_iff X hx, own_pk_iff]
    constructor
    · rintro ⟨j, j0, j1, ej⟩
      exact ⟨j.toInt.toNat, by omega, by rw [own_on j0]; exact ej⟩
    · rintro ⟨j, hj, h⟩
      have ej : (Int32.ofNat j).toInt = j := Int32.toInt_ofNat_of_lt (by omega)
      exact ⟨Int32.ofNat j, by omega, by omega, h⟩
  rw [s, c]
  omega
theorem own_pT_cnt {SD RM ST TP RI : List Int32} {RN acc : Int32} (X : own_X SD RM ST TP RI RN acc) (hs : ∀ x : Int32, 1 ≤ x.toInt → x.toInt ≤ acc.toInt → gI SD x = 0 ∨ gI SD x = 1) : own_cnt (own_pT ST TP acc) 256 ≤ 2 := by
  have one : ∀ v : Int32, own_cnt (fun x => own_pT ST TP acc x && decide (gI SD (Int32.ofNat x) = v)) 256 ≤ 1 := by
    intro v
    apply own_cnt_one
    intro i j hi hj pi pj
    simp only [own_pT, Bool.and_eq_true, decide_eq_true_iff] at pi pj
    have mi := (own_pq_iff X hi).mp pi.1.1
    have mj := (own_pq_iff X hj).mp pj.1.1
    have := X.t _ _ mi mj (pi.2.trans pj.2.symm) pi.1.2 pj.1.2
    rw [ieq, Int32.toInt_ofNat_of_lt (by omega), Int32.toInt_ofNat_of_lt (by omega)] at this
    omega
  have ad := own_cnt_add (p := fun x => own_pT ST TP acc x && decide (gI SD (Int32.ofNat x) = 0)) (q := fun x => own_pT ST TP acc x && decide (gI SD (Int32.ofNat x) = 1)) (r := own_pT ST TP acc) 256 (by
    intro j hj
    cases hp : own_pT ST TP acc j with
    | false => simp
    | true =>
      have hp' := hp
      simp only [own_pT, Bool.and_eq_true] at hp'
      have m := (own_pq_iff X hj).mp hp'.1
      have rg := X.rg m
      rcases hs _ rg.1 rg.2 with h | h
      · rw [h]; decide
      · rw [h]; decide)
  have a := one 0
  have b := one 1
  omega
theorem own_rkp {SD PR ST RI : List Int32} {SP : List Int64} {acc RN v : Int32} (w : own_W RI RN acc) (lD : SD.length = 256) (lP : PR.length = 256) (lSP : SP.length = 256) (v0 : 1 ≤ v.toInt) (v1 : v.toInt ≤ 255) : Tot (f_priorityRank_14 SD PR ST SP RI acc RN 100000 v 0 0) (fun r => 0 ≤ r.toInt) := by
  have e0 : (0 : Int32).toInt = 0 := rfl
  have l := w.l
  have n0 := w.n0
  have n1 := w.n1
  have r := w.r
  have key : ∀ (n : Nat) (v2 v3 : Int32), 0 ≤ v3.toInt → v3.toInt ≤ RN.toInt → RN.toInt - v3.toInt < n → 0 ≤ v2.toInt → v2.toInt ≤ v3.toInt → Tot (f_priorityRank_14 SD PR ST SP RI acc RN n v v2 v3) (fun r => 0 ≤ r.toInt) := by
    intro n
    induction n with
    | zero => intro v2 v3 h0 h1 h2; omega
    | succ n ih =>
      intro v2 v3 h0 h1 h2 h3 h4
      have p := own_p1 (a := v3) (by omega)
      have p2 := own_p1 (a := v2) (by omega)
      unfold f_priorityRank_14
      (repeat' (first | with_reducible refine own_iL (fun _ => ?_) (fun _ => ?_) | with_reducible refine own_iE (fun _ => ?_) (fun _ => ?_) | with_reducible refine own_rdR (by assumption) (by omega) (by omega) (fun _ _ _ => ?_) | with_reducible refine Tot.rd (by omega) (by omega) (fun _ _ => ?_) | with_reducible refine own_wrR (by assumption) (by omega) (by omega) (by omega) (by omega) (fun _ _ _ => ?_) | with_reducible refine Tot.wr (by omega) (by omega) (fun _ _ _ => ?_) | with_reducible refine own_bs ?_))
      · refine ih _ _ (by omega) (by omega) (by omega) ?_ ?_
        · split <;> omega
        · split <;> omega
      · exact ih _ _ (by omega) (by omega) (by omega) (by omega) (by omega)
      · exact ih _ _ (by omega) (by omega) (by omega) (by omega) (by omega)
      · exact Tot.mk h3
  exact key 100000 0 0 (by omega) (by omega) (by omega) (by omega) (by omega)
theorem own_ok {SD PR RM FL ST : List Int32} {SP : List Int64} {TP RI FI FQ FP LI LR LA : List Int32} {acc RN FN : Int32} (b : own_Z SD PR RM FL ST SP TP RI FI FQ FP LI LR LA acc RN FN) : Tot (f_L_ok SD PR RM FL ST SP TP RI acc RN) (fun r => r = 1) := by
  obtain ⟨sd, pr, sp, a0, X, Y, V, p1, nc, par, fz⟩ := b
  have e0 : (0 : Int32).toInt = 0 := rfl
  have e1 : (1 : Int32).toInt = 1 := rfl
  have e2 : (2 : Int32).toInt = 2 := rfl
  have e64 : (64 : Int32).toInt = 64 := rfl
  have e255 : (255 : Int32).toInt = 255 := rfl
  have e10000 : (10000 : Int32).toInt = 10000 := rfl
  have lM := X.lM
  have lS := X.lS
  have lT := X.lT
  have lF := Y.lF
  have a1 := X.a1
  have n1 := X.w.n1
  have cr := own_pq_cnt X
  have ct := own_pT_cnt X (fun x h1 h2 => (p1 x h1 h2).2.2)
  have k154 : ∀ v3 v4 v5 : Int32, v3.toInt = own_cnt (own_pq ST acc) 256 → v4.toInt = own_cnt (own_pT ST TP acc) 256 → (v5.toInt - own_sm FL 256) % 2 = 0 → Tot (f_L_ok_154 SD PR RM FL ST SP TP RI acc RN v3 v4 v5) (fun r => r = 1) := by
    intro v3 v4 v5 h3 h4 h5
    unfold f_L_ok_154 f_restingCount
    refine own_bs (Tot.mk ?_)
    have ev : v5 &&& 1 = 0 := by
      have r := iand_rng v5 1 (by decide)
      have key : (v5 &&& 1).toBitVec.toNat = v5.toBitVec.toNat % 2 := by
        rw [Int32.toBitVec_and, BitVec.toNat_and]
        exact Nat.and_one_is_mod _
      have c1 : v5.toInt % 2 = 0 := by omega
      have c2 : v5.toInt = (v5.toBitVec.toNat : Int) ∨ v5.toInt = (v5.toBitVec.toNat : Int) - 4294967296 := by
        have q : v5.toInt = v5.toBitVec.toInt := rfl
        rw [q, BitVec.toInt_eq_toNat_cond]
        split
        · exact Or.inl rfl
        · exact Or.inr rfl
      have c3 : (v5 &&& 1).toInt = (v5 &&& 1).toBitVec.toNat := by
        have q : (v5 &&& 1).toInt = (v5 &&& 1).toBitVec.toInt := rfl
        rw [q, BitVec.toInt_eq_toNat_cond]
        rw [if_pos (by rw [key]; omega)]
      rw [ieq, c3, key]
      omega
    rw [if_pos (by rw [ieq]; omega), if_neg (by rw [ilt]; omega), if_neg (by rw [ilt]; omega), if_pos ev]
  have key : ∀ (n i : Nat) (v3 v4 v5 v6 : Int32), v6.toInt = i → 1 ≤ i → i ≤ 256 → 256 - i < n → v3.toInt = own_cnt (own_pq ST acc) i → v4.toInt = own_cnt (own_pT ST TP acc) i → (v5.toInt - own_sm FL i) % 2 = 0 → own_cnt (own_pq ST acc) i ≤ i → own_cnt (own_pT ST TP acc) i ≤ i →
      Tot (f_L_ok_38 (f_L_ok_154 SD PR RM FL ST SP TP RI acc RN) SD PR RM FL ST SP TP RI acc RN n v3 v4 v5 v6) (fun r => r = 1) := by
    intro n
    induction n with
    | zero => intro i v3 v4 v5 v6 h6 h1 h2 h3; omega
    | succ n ih =>
      intro i v3 v4 v5 v6 h6 i1 i2 hn h3 h4 h5 b3 b4
      unfold f_L_ok_38
      refine own_iL (fun c => ?_) (fun c => ?_)
      · have : i = 256 := by omega
        subst this
        exact k154 v3 v4 v5 h3 h4 h5
      have o6 : Int32.ofNat i = v6 := by
        have := own_on (x := v6) (by omega)
        rw [show v6.toInt.toNat = i by omega] at this
        exact this
      have p6 := own_p1 (a := v6) (by omega)
      have s1 : own_cnt (own_pq ST acc) (i + 1) = own_cnt (own_pq ST acc) i + (if own_pq ST acc i then 1 else 0) := by rw [own_cnt]
      have s2 : own_cnt (own_pT ST TP acc) (i + 1) = own_cnt (own_pT ST TP acc) i + (if own_pT ST TP acc i then 1 else 0) := by rw [own_cnt]
      have s3 : own_sm FL (i + 1) = own_sm FL i + (gI FL v6).toInt := by rw [own_sm, o6]
      have fl : f_filled FL acc v6 = some (gI FL v6) := by
        unfold f_filled
        rw [if_neg (by rw [ilt]; omega)]
        by_cases g : acc < v6
        · rw [if_pos g]
          rw [ilt] at g
          rw [fz v6 (by omega) (by omega) (Or.inr (by omega))]
        · rw [if_neg g, rdg (by omega) (by omega), Option.bind_some]
      have sum : ((v5 + gI FL v6).toInt - own_sm FL (i + 1)) % 2 = 0 := by rw [s3, iadd_e]; omega
      have k137 : ∀ v3 v4 : Int32, v3.toInt = own_cnt (own_pq ST acc) (i + 1) → v4.toInt = own_cnt (own_pT ST TP acc) (i + 1) → Tot (f_L_ok_137 (f_L_ok_38 (f_L_ok_154 SD PR RM FL ST SP TP RI acc RN) SD PR RM FL ST SP TP RI acc RN n) (f_L_ok_154 SD PR RM FL ST SP TP RI acc RN) SD PR RM FL ST SP TP RI acc RN v3 v4 v5 v6) (fun r => r = 1) := by
        intro v3 v4 q3 q4
        unfold f_L_ok_137
        rw [fl, Option.bind_some]
        refine ih (i + 1) v3 v4 _ _ (by omega) (by omega) (by omega) (by omega) q3 q4 sum ?_ ?_
        · rw [s1]; split <;> omega
        · rw [s2]; split <;> omega
      have pri := own_pq_iff X (x := i) (by omega)
      rw [o6] at pri
      rcases own_rst X v6 with ⟨er, nm⟩ | ⟨er, hm, v0, v1, hst⟩
      · have prf : own_pq ST acc i = false := by
          rw [Bool.eq_false_iff]
          exact fun h => nm (pri.mp h)
        have pTf : own_pT ST TP acc i = false := by unfold own_pT; rw [prf]; rfl
        rw [prf] at s1
        rw [pTf] at s2
        have st : ∃ s, f_status ST acc v6 = some s ∧ ¬ s = 1 := by
          unfold f_status
          rw [if_neg (by rw [ilt]; omega)]
          by_cases g : acc < v6
          · rw [if_pos g]; exact ⟨0, rfl, by decide⟩
          · rw [if_neg g, rdg (by omega) (by omega), Option.bind_some]
            rw [ilt] at g
            exact ⟨_, rfl, fun h => nm ((X.s v6 (by omega) (by omega)).mp h)⟩
        obtain ⟨s, es, ns⟩ := st
        have rm : f_remaining RM ST acc v6 = some 0 := by
          unfold f_remaining
          rw [er, Option.bind_some, if_pos rfl]
        have rk : f_priorityRank SD PR ST SP RI acc RN v6 = some (-1) := by
          unfold f_priorityRank
          rw [er, Option.bind_some, if_pos rfl]
        have tp : f_isTop ST TP acc v6 = some 0 := by
          unfold f_isTop
          rw [er, Option.bind_some, if_pos rfl]
        rw [es, Option.bind_some, rm, Option.bind_some, rk, Option.bind_some, tp, Option.bind_some, if_neg ns, if_pos rfl, if_pos rfl, if_pos rfl]
        exact k137 _ _ (by rw [s1, h3]; simp) (by rw [s2, h4]; simp)
      · have prt : own_pq ST acc i = true := pri.mpr hm
        rw [prt] at s1
        have st : f_status ST acc v6 = some 1 := by
          unfold f_status
          rw [if_neg (by rw [ilt]; omega), if_neg (by rw [ilt]; omega), rdg (by omega) (by omega), Option.bind_some, hst]
        have rm : f_remaining RM ST acc v6 = some (gI RM v6) := by
          unfold f_remaining
          rw [er, Option.bind_some, if_neg (by decide), rdg (by omega) (by omega), Option.bind_some]
        have tp : f_isTop ST TP acc v6 = some (if gI TP v6 = 0 then 0 else 1) := by
          unfold f_isTop
          rw [er, Option.bind_some, if_neg (by decide), rdg (by omega) (by omega), Option.bind_some]
        obtain ⟨rk, erk, hrk⟩ := own_rkp (SD := SD) (PR := PR) (ST := ST) (SP := SP) (v := v6) X.w sd pr sp v0 (by omega)
        have rk' : f_priorityRank SD PR ST SP RI acc RN v6 = some rk := by
          unfold f_priorityRank
          rw [er, Option.bind_some, if_neg (by decide), erk]
        have rr := X.r v6 hm
        have q3 : (v3 + 1).toInt = own_cnt (own_pq ST acc) (i + 1) := by
          rw [own_p1 (a := v3) (by omega), s1, h3]
          simp
        rw [st, Option.bind_some, rm, Option.bind_some, rk', Option.bind_some, tp, Option.bind_some, if_pos rfl, if_neg (by rw [ilt]; omega), if_neg (by rw [ilt]; omega), if_neg (by rw [ilt]; omega)]
        by_cases g : gI TP v6 = 0
        · have pTf : own_pT ST TP acc i = false := by unfold own_pT; rw [o6, prt, g]; rfl
          rw [pTf] at s2
          rw [if_pos g, if_pos rfl]
          exact k137 _ _ q3 (by rw [s2, h4]; simp)
        · have pTt : own_pT ST TP acc i = true := by unfold own_pT; rw [o6, prt, decide_eq_true g]; rfl
          rw [pTt] at s2
          rw [if_neg g, if_neg (by decide)]
          refine k137 _ _ q3 ?_
          rw [own_p1 (a := v4) (by omega), s2, h4]
          simp
  have k27 : Tot (f_L_ok_27 SD PR RM FL ST SP TP RI acc RN) (fun r => r = 1) := by
    unfold f_L_ok_27
    have z1 : own_pq ST acc 0 = false := by
      unfold own_pq
      rw [decide_eq_false_iff_not]
      omega
    have z2 : own_pT ST TP acc 0 = false := by unfold own_pT; rw [z1]; rfl
    have c1 : own_cnt (own_pq ST acc) 1 = 0 := by rw [own_cnt, z1]; rfl
    have c2 : own_cnt (own_pT ST TP acc) 1 = 0 := by rw [own_cnt, z2]; rfl
    have c3 : own_sm FL 1 = 0 := by
      have := fz 0 (by decide) (by decide) (Or.inl (by decide))
      show 0 + (gI FL (Int32.ofNat 0)).toInt = 0
      rw [show Int32.ofNat 0 = 0 from rfl, this]
      rfl
    exact key 100000 1 0 0 0 1 rfl (by omega) (by omega) (by omega) (by rw [c1]; rfl) (by rw [c2]; rfl) (by rw [c3]; decide) (by omega) (by omega)
  have hp : ∀ x, own_mem RI RN x → 1 ≤ (gI PR x).toInt := fun x hx => by have r := X.rg hx; exact (p1 x r.1 r.2).1
  unfold f_L_ok f_bestPrice f_bestPrice_11
  rw [if_pos rfl, if_neg (by decide), if_pos rfl]
  refine Tot.bind (Tot.bind (own_bestX X.w sd pr hp 0) fun r hr => Tot.mk hr) ?_
  intro r0 hr0
  refine Tot.bind (Tot.bind (own_bestX X.w sd pr hp 1) fun r hr => Tot.mk hr) ?_
  intro r1 hr1
  refine own_iE (fun _ => k27) (fun z0 => own_iE (fun _ => k27) (fun z1 => ?_))
  rcases hr0 with ⟨h, _⟩ | ⟨x, x1, x2, x3, _, _⟩
  · exact absurd h z0
  rcases hr1 with ⟨h, _⟩ | ⟨y, y1, y2, y3, _, _⟩
  · exact absurd h z1
  have := nc x y x1 y1 x2 y2
  rw [x3, y3] at this
  exact own_iL (fun _ => k27) (fun q => absurd q (by omega))
theorem own_18 (scr : List Int32) (h : scr.length ≤ 260) (ma tc v2 : Int32) (hv : 5 * v2.toInt ≤ scr.length) : ∀ (n : Nat) (SD PR RM FL ST : List Int32) (SP : List Int64) (TP RI FI FQ FP LI LR LA : List Int32) (acc : Int32) (stamp : Int64) (RN FN LN v3 : Int32), own_Z SD PR RM FL ST SP TP RI FI FQ FP LI LR LA acc RN FN → 0 ≤ v3.toInt → v3.toInt ≤ 300 → 310 - v3.toInt ≤ n →
    Tot (f_L_law_18 (f_L_law_130 scr) scr n SD PR RM FL ST SP TP RI FI FQ FP LI LR LA ma tc acc stamp RN FN LN v2 v3) (fun r => r = 1) := by
  intro n
  induction n with
  | zero => intro SD PR RM FL ST SP TP RI FI FQ FP LI LR LA acc stamp RN FN LN v3 b h0 h1 h2; omega
  | succ n ih =>
    intro SD PR RM FL ST SP TP RI FI FQ FP LI LR LA acc stamp RN FN LN v3 b h0 h1 h2
    have p := own_p1 (a := v3) (by omega)
    unfold f_L_law_18
    by_cases c : v3 < v2
    rotate_left
    · rw [if_neg c]
      unfold f_L_law_130
      refine Tot.bind (own_ok b) fun r hr => ?_
      rw [hr]
      exact Tot.mk rfl
    rw [if_pos c]
    rw [ilt] at c
    have q0 : (5 * v3).toInt = 5 * v3.toInt := by ((try simp only [ilt, ile, ieq, iadd_e, isub_e, imul_e, Int32.reduceToInt] at *) <;> omega)
    have q1 : (5 * v3 + 1).toInt = 5 * v3.toInt + 1 := by ((try simp only [ilt, ile, ieq, iadd_e, isub_e, imul_e, Int32.reduceToInt] at *) <;> omega)
    have q2 : (5 * v3 + 2).toInt = 5 * v3.toInt + 2 := by ((try simp only [ilt, ile, ieq, iadd_e, isub_e, imul_e, Int32.reduceToInt] at *) <;> omega)
    have q3 : (5 * v3 + 3).toInt = 5 * v3.toInt + 3 := by ((try simp only [ilt, ile, ieq, iadd_e, isub_e, imul_e, Int32.reduceToInt] at *) <;> omega)
    have q4 : (5 * v3 + 4).toInt = 5 * v3.toInt + 4 := by ((try simp only [ilt, ile, ieq, iadd_e, isub_e, imul_e, Int32.reduceToInt] at *) <;> omega)
    refine Tot.rd (by omega) (by omega) fun x0 _ => ?_
    refine Tot.rd (by omega) (by omega) fun x1 _ => ?_
    refine Tot.rd (by omega) (by omega) fun x2 _ => ?_
    refine Tot.rd (by omega) (by omega) fun x3 _ => ?_
    refine Tot.rd (by omega) (by omega) fun x4 _ => ?_
    have nx : ∀ (SD PR RM FL ST : List Int32) (SP : List Int64) (TP RI FI FQ FP LI LR LA : List Int32) (acc : Int32) (stamp : Int64) (RN FN LN : Int32), own_Z SD PR RM FL ST SP TP RI FI FQ FP LI LR LA acc RN FN → Tot (f_L_law_115 (f_L_law_18 (f_L_law_130 scr) scr n) (f_L_law_130 scr) scr SD PR RM FL ST SP TP RI FI FQ FP LI LR LA ma tc acc stamp RN FN LN v2 v3) (fun r => r = 1) := by
      intro SD PR RM FL ST SP TP RI FI FQ FP LI LR LA acc stamp RN FN LN b
      unfold f_L_law_115
      refine Tot.bind (own_ok b) fun r hr => ?_
      rw [hr, if_neg (by decide)]
      exact ih _ _ _ _ _ _ _ _ _ _ _ _ _ _ _ _ _ _ _ _ b (by omega) (by omega) (by omega)
    refine own_iE (fun _ => ?_) (fun _ => own_iE (fun _ => ?_) (fun _ => ?_))
    · refine Tot.bind (own_canZ b x1) ?_
      rintro ⟨r, RM', ST', TP', RI', RN'⟩ b'
      exact nx _ _ _ _ _ _ _ _ _ _ _ _ _ _ _ _ _ _ _ b'
    · refine Tot.bind (own_ameZ b stamp x1 x2) ?_
      rintro ⟨r, RM', SP', TP', stamp'⟩ b'
      exact nx _ _ _ _ _ _ _ _ _ _ _ _ _ _ _ _ _ _ _ b'
    · refine Tot.bind (own_subZ b ma tc LN stamp x1 x2 x3 x4) ?_
      rintro ⟨r, SD, PR, RM, FL, ST, SP, TP, RI, FI, FQ, FP, LI, LR, LA, acc', stamp, RN, FN, LN⟩ b'
      exact nx _ _ _ _ _ _ _ _ _ _ _ _ _ _ _ _ _ _ _ b'
theorem own_true (scr : List Int32) (h : scr.length ≤ 260) : f_L_law scr = some 1 := by
  apply Tot.eq
  have hl := iscr h
  unfold f_L_law
  have hv : 5 * (scr.length.toInt32 / (5 : Int32)).toInt ≤ scr.length := by
    have d : (scr.length.toInt32 / 5).toInt = (scr.length : Int) / 5 := by
      rw [Int32.toInt_div, hl, Int.tdiv_eq_ediv_of_nonneg (by omega)]
      have e5 : (5 : Int32).toInt = 5 := rfl
      rw [e5, Jvm.Own.bmod32]
      omega
    rw [d]
    omega
  refine Tot.bind (own_newZ 5 50) ?_
  rintro ⟨SD, PR, RM, FL, ST, SP, TP, RI, FI, FQ, FP, LI, LR, LA, ma, tc, acc, stamp, RN, FN, LN⟩ b
  exact own_18 scr h ma tc _ hv 100000 _ _ _ _ _ _ _ _ _ _ _ _ _ _ _ _ _ _ _ _ b (by decide) (by decide) (by decide)
set_option maxRecDepth 65536 in
theorem comes_1 {Post : Tables → Env → Array Value → State → Outcome → State → Prop} (hpost : ∀ tb e args s v u, (limb_1_1.after args s (.returned v) u = true ∧ limb_1_2.after args s (.returned v) u = true ∧ True) → FrameEnd s (.returned v) u (Jvm.fieldLocs frame_1_writes args s ++ Jvm.arrayLocs frame_1_arrays args s ++ Jvm.staticLocs frame_1_statics s) 40 4608 → Post tb e args s (.returned v) u) :
    ArmFor flags0 classFile x code maxLocals ret World_1 tables_1 room_1 Calls_1 rest_1 Pre_1 Post := by
  intro l hfl _ _ p e ha hc hk s m args below hf hA hF happ hP
  obtain ⟨hcalls, hrest, hpre⟩ := hP
  obtain ⟨-, -, -, hnamed, -, -, -, hat⟩ := (Spec.applies_iff hf).mp happ
  obtain ⟨hg, hn⟩ := and_e (Cond.before_iff.mp (show (Jvm.Cond.and given_1 narrow_1).before args s = true from hpre))
  obtain ⟨h1, h2⟩ := and_e hg
  have hw := fun d (hd : d ∈ tables_1) => atoms_spec (ws := Jvm.Cond.code x code maxLocals ret :: tables_1) hat d (List.mem_cons_of_mem _ hd)
  obtain ⟨w0, rfl⟩ : ∃ w0 : Value, args = #[w0] := by
    have hs : args.size = 1 := by simpa [Cond.value, given_1] using h1
    obtain ⟨L⟩ := args
    match L, hs with
    | [w0], _ => exact ⟨w0, rfl⟩
  have hfit : Fit s := fun {y c} hc i hi => by
    obtain ⟨ha, rfl⟩ := Array.getElem?_eq_some_iff.mp hc
    have q := List.all_eq_true.mp ((Array.all_eq_true_iff_forall_mem.mp hF) _ (Array.getElem_mem ha)) i (List.mem_range.mpr hi)
    simpa [Array.getElem?_eq_getElem hi] using q
  obtain ⟨hn1, hn2⟩ := and_e hn
  obtain ⟨ad, e0⟩ := arr_v hn1
  obtain ⟨cl, A⟩ := Arr.start e0 hn1
  obtain rfl : w0 = .ref ad := Option.some.inj e0
  obtain ⟨scr, hs1, hs2, hs3⟩ := script_of hfit A e0 hn2
  have E : OEndsQ own_P 0 0 (entL [.ref 0] d_0.maxL) [] [.inr (.inl (false, scr))] (LawQ 1 15 2261) := ok_L_law (own_true scr hs2)
  have hS : SR [ad] [.ref 0] [.ref ad] := ⟨_, _, rfl, ⟨ad, rfl, rfl⟩, rfl⟩
  have hH : HR own_P s s.heap.size s.heap [ad] [.inr (.inl (false, scr))] := hr_script rfl A hs1 hs2 hs3
  have M := law_met (l := l) own_chk (fun w hw' => hw w (own_in w hw')) hm_0 E hS (Nat.le_of_ble_eq_true rfl) hH tables_1 room_1 (Nat.le_of_ble_eq_true rfl) (Nat.le_of_ble_eq_true rfl) (Nat.le_of_ble_eq_true rfl) (Nat.le_of_ble_eq_true rfl)
  obtain ⟨n, o, h1, h2, h3, L, rfl, N, hq⟩ := M p e ha hc hk s m _ below hf ((Spec.applies_iff_loose hf).mp happ).1 ⟨rfl, State.Warmed39.refl s, rfl⟩ trivial
  refine ⟨n, _, h1, h2, h3, hpost _ _ _ _ _ _ ⟨Cond.after_iff.mpr rfl, Cond.after_iff.mpr (eq_i res_at (Term.int_eval (1)) rfl), trivial⟩ ⟨hq.1, hq.2.1, (hq.2.2.sift fun y hy => Or.inr (N y hy)).mono (by decide) (by decide)⟩⟩
theorem main_1_1 : Claimed_1_1 := comes_1 fun _ _ _ _ _ _ h hF => ⟨h.1, hF⟩
theorem main_1_2 : Claimed_1_2 := comes_1 fun _ _ _ _ _ _ h hF => ⟨h.2.1, hF⟩
end Jvm.Pilot.@@N@@
namespace Jvm.Pilot.@@N@@
open Jvm Jvm.ClassFile Sem Op Lib Jvm.Free Jvm.Stand Jvm.Pilot.@@N@@.Jvm.D
/-! MADE BY PROGRAM (witnessworld.py) out of the Statement's table words and the real class files: 13 classes; the members and pool entries that the words name. The judged class is class 1, her method 1. -/
namespace start1
open Jvm.ClassFile
def u (s : String) : CpInfo := .utf8 (stringToUtf16 s)
/-- a pool by its gaps: so many unusable entries, then the entry; so many at the end -/
def gap : Nat → List CpInfo → List CpInfo
  | 0, r => r
  | n + 1, r => .unusable :: gap n r
def poolList (es : List (Nat × CpInfo)) (last : Nat) : List CpInfo := es.foldr (fun e r => gap e.1 (e.2 :: r)) (gap last [])
def pool (es : List (Nat × CpInfo)) (last : Nat) : Array CpInfo := ⟨poolList es last⟩
def fileOf (pool : Array CpInfo) (this : Nat) (attrs : Array Attribute := #[]) (ms : Array MethodInfo := #[]) (fl : Nat := 33) (sup : Nat := 0) (ifs : Array Nat := #[]) (fds : Array FieldInfo := #[]) : ClassFile where
  minorVersion := 0
  majorVersion := 65
  constantPool := pool
  accessFlags := fl
  thisClass := this
  superClass := sup
  interfaces := ifs
  fields := fds
  methods := ms
  attributes := attrs
def plain (name : String) (sup : Option ClassId) : Class where
  name := name
  kind := .ordinary
  loader := none
  accessFlags := 33
  super := sup
  interfaces := #[]
  cf := none
  fields := #[]
  methods := #[]
  instanceTypes := #[]
  staticTypes := #[]
  resolved := #[]
  callSites := []
  init := .initialized
  statics := none
  mirror := none

def pool0 : Array CpInfo := pool [(5, u "<init>"), (0, u "()V"), (1, .class_ 10), (1, u "java/lang/Object")] 113

def k0c0 : Code := { maxStack := 0, maxLocals := 1, code := object_method_1_code, exceptionTable := #[], attributes := #[] }
def k0m0 : Method := { name := "<init>", desc := "()V", sig := { parameters := [], returnType := none }, accessFlags := 1, code := some k0c0 }
/-- java/lang/Object -/
def k0 : Class := { plain "java/lang/Object" none with
  accessFlags := 33
  interfaces := #[]
  cf := some (fileOf pool0 8 #[] #[{ accessFlags := 1, nameIndex := 5, descriptorIndex := 6, attributes := #[] }] 33 0 #[] #[])
  fields := #[]
  methods := #[k0m0]
  instanceTypes := #[]
  staticTypes := #[]
  resolved := Array.replicate 124 none
  statics := none }

def pool1 : Array CpInfo := pool [(2, .class_ 4), (1, u "java/lang/Object"), (0, u "<init>"), (0, u "()V"), (0, .class_ 8), (0, u "ProRataBook"), (0, .methodref 7 10), (0, .nameAndType 5 11), (0, u "(II)V"), (0, .methodref 7 13), (0, .nameAndType 14 15), (0, u "cancel"), (0, u "(I)I"), (0, .methodref 7 17), (0, .nameAndType 18 19), (0, u "amend"), (0, u "(II)I"), (0, .methodref 7 21), (0, .nameAndType 22 23), (0, u "submit"), (0, u "(IIII)I"), (0, .methodref 25 26), (0, .class_ 27), (0, .nameAndType 28 29), (0, u "ProRataBookL4"), (0, u "ok"), (0, u "(LProRataBook;)Z"), (0, .methodref 7 31), (0, .nameAndType 32 15), (0, u "bestPrice"), (0, .methodref 7 34), (0, .nameAndType 35 15), (0, u "status"), (0, .methodref 7 37), (0, .nameAndType 38 15), (0, u "remaining"), (0, .methodref 7 40), (0, .nameAndType 41 15), (0, u "priorityRank"), (0, .methodref 7 43), (0, .nameAndType 44 45), (0, u "isTop"), (0, u "(I)Z"), (0, .methodref 7 47), (0, .nameAndType 48 15), (0, u "filled"), (0, .methodref 7 50), (0, .nameAndType 51 52), (0, u "restingCount"), (0, u "()I"), (2, u "law"), (0, u "([I)Z")] 5

def k1m0 : Method := { name := "<init>", desc := "()V", sig := { parameters := [], returnType := none }, accessFlags := 1, code := none }
def k1c1 : Code := { maxStack := 5, maxLocals := 9, code := code, exceptionTable := #[], attributes := #[] }
def k1m1 : Method := { name := "law", desc := "([I)Z", sig := { parameters := [(.array .int)], returnType := some .boolean }, accessFlags := 9, code := some k1c1 }
def k1c2 : Code := { maxStack := 3, maxLocals := 11, code := method_3_code, exceptionTable := #[], attributes := #[] }
def k1m2 : Method := { name := "ok", desc := "(LProRataBook;)Z", sig := { parameters := [(.object "ProRataBook")], returnType := some .boolean }, accessFlags := 10, code := some k1c2 }
/-- ProRataBookL4 -/
def k1 : Class := { plain "ProRataBookL4" (some 0) with
  accessFlags := 49
  interfaces := #[]
  cf := some (fileOf pool1 25 #[] #[{ accessFlags := 1, nameIndex := 5, descriptorIndex := 6, attributes := #[] }, { accessFlags := 9, nameIndex := 55, descriptorIndex := 56, attributes := #[] }, { accessFlags := 10, nameIndex := 28, descriptorIndex := 29, attributes := #[] }] 49 2 #[] #[])
  fields := #[]
  methods := #[k1m0, k1m1, k1m2]
  instanceTypes := #[]
  staticTypes := #[]
  resolved := Array.replicate 62 none
  statics := none }

def pool2 : Array CpInfo := pool [(1, .methodref 2 3), (0, .class_ 4), (0, .nameAndType 5 6), (0, u "java/lang/Object"), (0, u "<init>"), (0, u "()V"), (0, .fieldref 8 9), (0, .class_ 10), (0, .nameAndType 11 12), (0, u "ProRataBook"), (0, u "oSide"), (0, u "[I"), (0, .fieldref 8 14), (0, .nameAndType 15 12), (0, u "oPrice"), (0, .fieldref 8 17), (0, .nameAndType 18 12), (0, u "oRem"), (0, .fieldref 8 20), (0, .nameAndType 21 12), (0, u "oFilled"), (0, .fieldref 8 23), (0, .nameAndType 24 12), (0, u "oStatus"), (0, .fieldref 8 26), (0, .nameAndType 27 28), (0, u "oStamp"), (0, u "[J"), (0, .fieldref 8 30), (0, .nameAndType 31 32), (0, u "oTop"), (0, u "[Z"), (0, .fieldref 8 34), (0, .nameAndType 35 12), (0, u "restIds"), (0, .fieldref 8 37), (0, .nameAndType 38 12), (0, u "fIds"), (0, .fieldref 8 40), (0, .nameAndType 41 12), (0, u "fQty"), (0, .fieldref 8 43), (0, .nameAndType 44 12), (0, u "fPrice"), (0, .fieldref 8 46), (0, .nameAndType 47 12), (0, u "lvlIds"), (0, .fieldref 8 49), (0, .nameAndType 50 12), (0, u "lvlR"), (0, .fieldref 8 52), (0, .nameAndType 53 12), (0, u "lvlA"), (0, .fieldref 8 55), (0, .nameAndType 56 57), (0, u "minAlloc"), (0, u "I"), (0, .fieldref 8 59), (0, .nameAndType 60 57), (0, u "topCap"), (0, .fieldref 8 62), (0, .nameAndType 63 57), (0, u "accepted"), (0, .fieldref 8 65), (0, .nameAndType 66 67), (0, u "stampCounter"), (0, u "J"), (0, .fieldref 8 69), (0, .nameAndType 70 57), (0, u "restN"), (0, .fieldref 8 72), (0, .nameAndType 73 57), (0, u "fN"), (0, .fieldref 8 75), (0, .nameAndType 76 57), (0, u "lvlN"), (0, .methodref 8 78), (0, .nameAndType 79 80), (0, u "matchIncoming"), (0, u "(IIII)I"), (0, .methodref 8 82), (0, .nameAndType 83 84), (0, u "finishIncoming"), (0, u "(IIIII)V"), (0, .methodref 8 86), (0, .nameAndType 87 88), (0, u "bestOf"), (0, u "(I)I"), (0, .methodref 8 90), (0, .nameAndType 91 92), (0, u "crosses"), (0, u "(III)Z"), (0, .methodref 8 94), (0, .nameAndType 95 96), (0, u "matchLevel"), (0, u "(III)I"), (0, .methodref 8 98), (0, .nameAndType 99 92), (0, u "better"), (0, .methodref 8 101), (0, .nameAndType 102 103), (0, u "clearFlags"), (0, u "(I)V"), (0, .methodref 8 105), (0, .nameAndType 106 107), (0, u "gatherLevel"), (0, u "(II)V"), (0, .methodref 8 109), (0, .nameAndType 110 6), (0, u "sortLevel"), (0, .methodref 8 112), (0, .nameAndType 113 88), (0, u "allocate"), (0, .methodref 8 115), (0, .nameAndType 116 103), (0, u "applyLevel"), (0, .methodref 8 118), (0, .nameAndType 119 88), (0, u "topStep"), (0, .methodref 8 121), (0, .nameAndType 122 88), (0, u "proRataStep"), (0, .methodref 8 124), (0, .nameAndType 125 103), (0, u "timeStep"), (0, .methodref 8 127), (0, .nameAndType 128 103), (0, u "removeResting"), (0, .methodref 8 130), (0, .nameAndType 131 132), (0, u "isResting"), (0, u "(I)Z"), (0, u "BUY"), (2, u "SELL"), (1, u "LIMIT"), (0, u "IOC"), (0, u "OK"), (0, u "ERR_SIDE"), (1, u "ERR_PRICE"), (1, u "ERR_QTY"), (1, u "ERR_KIND"), (1, u "ERR_NO_IDS"), (1, u "ERR_UNKNOWN"), (1, u "STATUS_NONE"), (0, u "STATUS_RESTING"), (0, u "STATUS_FILLED"), (1, u "STATUS_CANCELLED"), (1, u "STATUS_DISCARDED"), (1, u "MAX_RESTING"), (1, u "MAX_IDS"), (4, u "submit"), (0, u "cancel"), (0, u "amend"), (0, u "(II)I"), (0, u "status"), (0, u "remaining"), (0, u "filled"), (0, u "isTop"), (0, u "priorityRank"), (0, u "bestPrice"), (2, u "restingCount"), (0, u "()I")] 6

def k2c0 : Code := { maxStack := 3, maxLocals := 5, code := prog_1_method_1_code, exceptionTable := #[], attributes := #[] }
def k2m0 : Method := { name := "<init>", desc := "(II)V", sig := { parameters := [.int, .int], returnType := none }, accessFlags := 1, code := some k2c0 }
def k2c1 : Code := { maxStack := 6, maxLocals := 7, code := prog_1_method_2_code, exceptionTable := #[], attributes := #[] }
def k2m1 : Method := { name := "submit", desc := "(IIII)I", sig := { parameters := [.int, .int, .int, .int], returnType := some .int }, accessFlags := 1, code := some k2c1 }
def k2c2 : Code := { maxStack := 4, maxLocals := 10, code := prog_1_method_3_code, exceptionTable := #[], attributes := #[] }
def k2m2 : Method := { name := "matchIncoming", desc := "(IIII)I", sig := { parameters := [.int, .int, .int, .int], returnType := some .int }, accessFlags := 2, code := some k2c2 }
def k2c3 : Code := { maxStack := 5, maxLocals := 8, code := prog_1_method_4_code, exceptionTable := #[], attributes := #[] }
def k2m3 : Method := { name := "finishIncoming", desc := "(IIIII)V", sig := { parameters := [.int, .int, .int, .int, .int], returnType := none }, accessFlags := 2, code := some k2c3 }
def k2c4 : Code := { maxStack := 3, maxLocals := 4, code := prog_1_method_5_code, exceptionTable := #[], attributes := #[] }
def k2m4 : Method := { name := "clearFlags", desc := "(I)V", sig := { parameters := [.int], returnType := none }, accessFlags := 2, code := some k2c4 }
def k2c5 : Code := { maxStack := 2, maxLocals := 4, code := prog_1_method_6_code, exceptionTable := #[], attributes := #[] }
def k2m5 : Method := { name := "crosses", desc := "(III)Z", sig := { parameters := [.int, .int, .int], returnType := some .boolean }, accessFlags := 2, code := some k2c5 }
def k2c6 : Code := { maxStack := 2, maxLocals := 4, code := prog_1_method_7_code, exceptionTable := #[], attributes := #[] }
def k2m6 : Method := { name := "better", desc := "(III)Z", sig := { parameters := [.int, .int, .int], returnType := some .boolean }, accessFlags := 2, code := some k2c6 }
def k2c7 : Code := { maxStack := 4, maxLocals := 6, code := prog_1_method_8_code, exceptionTable := #[], attributes := #[] }
def k2m7 : Method := { name := "matchLevel", desc := "(III)I", sig := { parameters := [.int, .int, .int], returnType := some .int }, accessFlags := 2, code := some k2c7 }
def k2c8 : Code := { maxStack := 3, maxLocals := 5, code := prog_1_method_9_code, exceptionTable := #[], attributes := #[] }
def k2m8 : Method := { name := "gatherLevel", desc := "(II)V", sig := { parameters := [.int, .int], returnType := none }, accessFlags := 2, code := some k2c8 }
def k2c9 : Code := { maxStack := 5, maxLocals := 6, code := prog_1_method_10_code, exceptionTable := #[], attributes := #[] }
def k2m9 : Method := { name := "sortLevel", desc := "()V", sig := { parameters := [], returnType := none }, accessFlags := 2, code := some k2c9 }
def k2c10 : Code := { maxStack := 3, maxLocals := 7, code := prog_1_method_11_code, exceptionTable := #[], attributes := #[] }
def k2m10 : Method := { name := "allocate", desc := "(I)I", sig := { parameters := [.int], returnType := some .int }, accessFlags := 2, code := some k2c10 }
def k2c11 : Code := { maxStack := 4, maxLocals := 5, code := prog_1_method_12_code, exceptionTable := #[], attributes := #[] }
def k2m11 : Method := { name := "topStep", desc := "(I)I", sig := { parameters := [.int], returnType := some .int }, accessFlags := 2, code := some k2c11 }
def k2c12 : Code := { maxStack := 5, maxLocals := 9, code := prog_1_method_13_code, exceptionTable := #[], attributes := #[] }
def k2m12 : Method := { name := "proRataStep", desc := "(I)I", sig := { parameters := [.int], returnType := some .int }, accessFlags := 2, code := some k2c12 }
def k2c13 : Code := { maxStack := 4, maxLocals := 6, code := prog_1_method_14_code, exceptionTable := #[], attributes := #[] }
def k2m13 : Method := { name := "timeStep", desc := "(I)V", sig := { parameters := [.int], returnType := none }, accessFlags := 2, code := some k2c13 }
def k2c14 : Code := { maxStack := 4, maxLocals := 5, code := prog_1_method_15_code, exceptionTable := #[], attributes := #[] }
def k2m14 : Method := { name := "applyLevel", desc := "(I)V", sig := { parameters := [.int], returnType := none }, accessFlags := 2, code := some k2c14 }
def k2c15 : Code := { maxStack := 5, maxLocals := 3, code := prog_1_method_16_code, exceptionTable := #[], attributes := #[] }
def k2m15 : Method := { name := "removeResting", desc := "(I)V", sig := { parameters := [.int], returnType := none }, accessFlags := 2, code := some k2c15 }
def k2c16 : Code := { maxStack := 2, maxLocals := 2, code := prog_1_method_17_code, exceptionTable := #[], attributes := #[] }
def k2m16 : Method := { name := "isResting", desc := "(I)Z", sig := { parameters := [.int], returnType := some .boolean }, accessFlags := 2, code := some k2c16 }
def k2c17 : Code := { maxStack := 4, maxLocals := 6, code := prog_1_method_18_code, exceptionTable := #[], attributes := #[] }
def k2m17 : Method := { name := "bestOf", desc := "(I)I", sig := { parameters := [.int], returnType := some .int }, accessFlags := 2, code := some k2c17 }
def k2c18 : Code := { maxStack := 3, maxLocals := 2, code := prog_1_method_19_code, exceptionTable := #[], attributes := #[] }
def k2m18 : Method := { name := "cancel", desc := "(I)I", sig := { parameters := [.int], returnType := some .int }, accessFlags := 1, code := some k2c18 }
def k2c19 : Code := { maxStack := 5, maxLocals := 3, code := prog_1_method_20_code, exceptionTable := #[], attributes := #[] }
def k2m19 : Method := { name := "amend", desc := "(II)I", sig := { parameters := [.int, .int], returnType := some .int }, accessFlags := 1, code := some k2c19 }
def k2c20 : Code := { maxStack := 2, maxLocals := 2, code := prog_1_method_21_code, exceptionTable := #[], attributes := #[] }
def k2m20 : Method := { name := "status", desc := "(I)I", sig := { parameters := [.int], returnType := some .int }, accessFlags := 1, code := some k2c20 }
def k2c21 : Code := { maxStack := 2, maxLocals := 2, code := prog_1_method_22_code, exceptionTable := #[], attributes := #[] }
def k2m21 : Method := { name := "remaining", desc := "(I)I", sig := { parameters := [.int], returnType := some .int }, accessFlags := 1, code := some k2c21 }
def k2c22 : Code := { maxStack := 2, maxLocals := 2, code := prog_1_method_23_code, exceptionTable := #[], attributes := #[] }
def k2m22 : Method := { name := "filled", desc := "(I)I", sig := { parameters := [.int], returnType := some .int }, accessFlags := 1, code := some k2c22 }
def k2c23 : Code := { maxStack := 2, maxLocals := 2, code := prog_1_method_24_code, exceptionTable := #[], attributes := #[] }
def k2m23 : Method := { name := "isTop", desc := "(I)Z", sig := { parameters := [.int], returnType := some .boolean }, accessFlags := 1, code := some k2c23 }
def k2c24 : Code := { maxStack := 4, maxLocals := 5, code := prog_1_method_25_code, exceptionTable := #[], attributes := #[] }
def k2m24 : Method := { name := "priorityRank", desc := "(I)I", sig := { parameters := [.int], returnType := some .int }, accessFlags := 1, code := some k2c24 }
def k2c25 : Code := { maxStack := 2, maxLocals := 2, code := prog_1_method_26_code, exceptionTable := #[], attributes := #[] }
def k2m25 : Method := { name := "bestPrice", desc := "(I)I", sig := { parameters := [.int], returnType := some .int }, accessFlags := 1, code := some k2c25 }
def k2c26 : Code := { maxStack := 1, maxLocals := 1, code := prog_1_method_29_code, exceptionTable := #[], attributes := #[] }
def k2m26 : Method := { name := "restingCount", desc := "()I", sig := { parameters := [], returnType := some .int }, accessFlags := 1, code := some k2c26 }
/-- ProRataBook -/
def k2 : Class := { plain "ProRataBook" (some 0) with
  accessFlags := 49
  interfaces := #[]
  cf := some (fileOf pool2 8 #[] #[{ accessFlags := 1, nameIndex := 5, descriptorIndex := 107, attributes := #[] }, { accessFlags := 1, nameIndex := 168, descriptorIndex := 80, attributes := #[] }, { accessFlags := 2, nameIndex := 79, descriptorIndex := 80, attributes := #[] }, { accessFlags := 2, nameIndex := 83, descriptorIndex := 84, attributes := #[] }, { accessFlags := 2, nameIndex := 102, descriptorIndex := 103, attributes := #[] }, { accessFlags := 2, nameIndex := 91, descriptorIndex := 92, attributes := #[] }, { accessFlags := 2, nameIndex := 99, descriptorIndex := 92, attributes := #[] }, { accessFlags := 2, nameIndex := 95, descriptorIndex := 96, attributes := #[] }, { accessFlags := 2, nameIndex := 106, descriptorIndex := 107, attributes := #[] }, { accessFlags := 2, nameIndex := 110, descriptorIndex := 6, attributes := #[] }, { accessFlags := 2, nameIndex := 113, descriptorIndex := 88, attributes := #[] }, { accessFlags := 2, nameIndex := 119, descriptorIndex := 88, attributes := #[] }, { accessFlags := 2, nameIndex := 122, descriptorIndex := 88, attributes := #[] }, { accessFlags := 2, nameIndex := 125, descriptorIndex := 103, attributes := #[] }, { accessFlags := 2, nameIndex := 116, descriptorIndex := 103, attributes := #[] }, { accessFlags := 2, nameIndex := 128, descriptorIndex := 103, attributes := #[] }, { accessFlags := 2, nameIndex := 131, descriptorIndex := 132, attributes := #[] }, { accessFlags := 2, nameIndex := 87, descriptorIndex := 88, attributes := #[] }, { accessFlags := 1, nameIndex := 169, descriptorIndex := 88, attributes := #[] }, { accessFlags := 1, nameIndex := 170, descriptorIndex := 171, attributes := #[] }, { accessFlags := 1, nameIndex := 172, descriptorIndex := 88, attributes := #[] }, { accessFlags := 1, nameIndex := 173, descriptorIndex := 88, attributes := #[] }, { accessFlags := 1, nameIndex := 174, descriptorIndex := 88, attributes := #[] }, { accessFlags := 1, nameIndex := 175, descriptorIndex := 132, attributes := #[] }, { accessFlags := 1, nameIndex := 176, descriptorIndex := 88, attributes := #[] }, { accessFlags := 1, nameIndex := 177, descriptorIndex := 88, attributes := #[] }, { accessFlags := 1, nameIndex := 180, descriptorIndex := 181, attributes := #[] }] 49 2 #[] #[{ accessFlags := 25, nameIndex := 133, descriptorIndex := 57, attributes := #[] }, { accessFlags := 25, nameIndex := 136, descriptorIndex := 57, attributes := #[] }, { accessFlags := 25, nameIndex := 138, descriptorIndex := 57, attributes := #[] }, { accessFlags := 25, nameIndex := 139, descriptorIndex := 57, attributes := #[] }, { accessFlags := 25, nameIndex := 140, descriptorIndex := 57, attributes := #[] }, { accessFlags := 25, nameIndex := 141, descriptorIndex := 57, attributes := #[] }, { accessFlags := 25, nameIndex := 143, descriptorIndex := 57, attributes := #[] }, { accessFlags := 25, nameIndex := 145, descriptorIndex := 57, attributes := #[] }, { accessFlags := 25, nameIndex := 147, descriptorIndex := 57, attributes := #[] }, { accessFlags := 25, nameIndex := 149, descriptorIndex := 57, attributes := #[] }, { accessFlags := 25, nameIndex := 151, descriptorIndex := 57, attributes := #[] }, { accessFlags := 25, nameIndex := 153, descriptorIndex := 57, attributes := #[] }, { accessFlags := 25, nameIndex := 154, descriptorIndex := 57, attributes := #[] }, { accessFlags := 25, nameIndex := 155, descriptorIndex := 57, attributes := #[] }, { accessFlags := 25, nameIndex := 157, descriptorIndex := 57, attributes := #[] }, { accessFlags := 25, nameIndex := 159, descriptorIndex := 57, attributes := #[] }, { accessFlags := 25, nameIndex := 161, descriptorIndex := 57, attributes := #[] }, { accessFlags := 25, nameIndex := 163, descriptorIndex := 57, attributes := #[] }, { accessFlags := 2, nameIndex := 56, descriptorIndex := 57, attributes := #[] }, { accessFlags := 2, nameIndex := 60, descriptorIndex := 57, attributes := #[] }, { accessFlags := 2, nameIndex := 63, descriptorIndex := 57, attributes := #[] }, { accessFlags := 2, nameIndex := 66, descriptorIndex := 67, attributes := #[] }, { accessFlags := 2, nameIndex := 11, descriptorIndex := 12, attributes := #[] }, { accessFlags := 2, nameIndex := 15, descriptorIndex := 12, attributes := #[] }, { accessFlags := 2, nameIndex := 18, descriptorIndex := 12, attributes := #[] }, { accessFlags := 2, nameIndex := 21, descriptorIndex := 12, attributes := #[] }, { accessFlags := 2, nameIndex := 24, descriptorIndex := 12, attributes := #[] }, { accessFlags := 2, nameIndex := 27, descriptorIndex := 28, attributes := #[] }, { accessFlags := 2, nameIndex := 31, descriptorIndex := 32, attributes := #[] }, { accessFlags := 2, nameIndex := 35, descriptorIndex := 12, attributes := #[] }, { accessFlags := 2, nameIndex := 70, descriptorIndex := 57, attributes := #[] }, { accessFlags := 2, nameIndex := 38, descriptorIndex := 12, attributes := #[] }, { accessFlags := 2, nameIndex := 41, descriptorIndex := 12, attributes := #[] }, { accessFlags := 2, nameIndex := 44, descriptorIndex := 12, attributes := #[] }, { accessFlags := 2, nameIndex := 73, descriptorIndex := 57, attributes := #[] }, { accessFlags := 2, nameIndex := 47, descriptorIndex := 12, attributes := #[] }, { accessFlags := 2, nameIndex := 50, descriptorIndex := 12, attributes := #[] }, { accessFlags := 2, nameIndex := 53, descriptorIndex := 12, attributes := #[] }, { accessFlags := 2, nameIndex := 76, descriptorIndex := 57, attributes := #[] }])
  fields := #[{ name := "BUY", type := .int, accessFlags := 25, slot := 0, constantValue := 0 }, { name := "SELL", type := .int, accessFlags := 25, slot := 1, constantValue := 0 }, { name := "LIMIT", type := .int, accessFlags := 25, slot := 2, constantValue := 0 }, { name := "IOC", type := .int, accessFlags := 25, slot := 3, constantValue := 0 }, { name := "OK", type := .int, accessFlags := 25, slot := 4, constantValue := 0 }, { name := "ERR_SIDE", type := .int, accessFlags := 25, slot := 5, constantValue := 0 }, { name := "ERR_PRICE", type := .int, accessFlags := 25, slot := 6, constantValue := 0 }, { name := "ERR_QTY", type := .int, accessFlags := 25, slot := 7, constantValue := 0 }, { name := "ERR_KIND", type := .int, accessFlags := 25, slot := 8, constantValue := 0 }, { name := "ERR_NO_IDS", type := .int, accessFlags := 25, slot := 9, constantValue := 0 }, { name := "ERR_UNKNOWN", type := .int, accessFlags := 25, slot := 10, constantValue := 0 }, { name := "STATUS_NONE", type := .int, accessFlags := 25, slot := 11, constantValue := 0 }, { name := "STATUS_RESTING", type := .int, accessFlags := 25, slot := 12, constantValue := 0 }, { name := "STATUS_FILLED", type := .int, accessFlags := 25, slot := 13, constantValue := 0 }, { name := "STATUS_CANCELLED", type := .int, accessFlags := 25, slot := 14, constantValue := 0 }, { name := "STATUS_DISCARDED", type := .int, accessFlags := 25, slot := 15, constantValue := 0 }, { name := "MAX_RESTING", type := .int, accessFlags := 25, slot := 16, constantValue := 0 }, { name := "MAX_IDS", type := .int, accessFlags := 25, slot := 17, constantValue := 0 }, { name := "minAlloc", type := .int, accessFlags := 2, slot := 0, constantValue := 0 }, { name := "topCap", type := .int, accessFlags := 2, slot := 1, constantValue := 0 }, { name := "accepted", type := .int, accessFlags := 2, slot := 2, constantValue := 0 }, { name := "stampCounter", type := .long, accessFlags := 2, slot := 3, constantValue := 0 }, { name := "oSide", type := (.array .int), accessFlags := 2, slot := 4, constantValue := 0 }, { name := "oPrice", type := (.array .int), accessFlags := 2, slot := 5, constantValue := 0 }, { name := "oRem", type := (.array .int), accessFlags := 2, slot := 6, constantValue := 0 }, { name := "oFilled", type := (.array .int), accessFlags := 2, slot := 7, constantValue := 0 }, { name := "oStatus", type := (.array .int), accessFlags := 2, slot := 8, constantValue := 0 }, { name := "oStamp", type := (.array .long), accessFlags := 2, slot := 9, constantValue := 0 }, { name := "oTop", type := (.array .boolean), accessFlags := 2, slot := 10, constantValue := 0 }, { name := "restIds", type := (.array .int), accessFlags := 2, slot := 11, constantValue := 0 }, { name := "restN", type := .int, accessFlags := 2, slot := 12, constantValue := 0 }, { name := "fIds", type := (.array .int), accessFlags := 2, slot := 13, constantValue := 0 }, { name := "fQty", type := (.array .int), accessFlags := 2, slot := 14, constantValue := 0 }, { name := "fPrice", type := (.array .int), accessFlags := 2, slot := 15, constantValue := 0 }, { name := "fN", type := .int, accessFlags := 2, slot := 16, constantValue := 0 }, { name := "lvlIds", type := (.array .int), accessFlags := 2, slot := 17, constantValue := 0 }, { name := "lvlR", type := (.array .int), accessFlags := 2, slot := 18, constantValue := 0 }, { name := "lvlA", type := (.array .int), accessFlags := 2, slot := 19, constantValue := 0 }, { name := "lvlN", type := .int, accessFlags := 2, slot := 20, constantValue := 0 }]
  methods := #[k2m0, k2m1, k2m2, k2m3, k2m4, k2m5, k2m6, k2m7, k2m8, k2m9, k2m10, k2m11, k2m12, k2m13, k2m14, k2m15, k2m16, k2m17, k2m18, k2m19, k2m20, k2m21, k2m22, k2m23, k2m24, k2m25, k2m26]
  instanceTypes := #[.int, .int, .int, .long, (.array .int), (.array .int), (.array .int), (.array .int), (.array .int), (.array .long), (.array .boolean), (.array .int), .int, (.array .int), (.array .int), (.array .int), .int, (.array .int), (.array .int), (.array .int), .int]
  staticTypes := #[.int, .int, .int, .int, .int, .int, .int, .int, .int, .int, .int, .int, .int, .int, .int, .int, .int, .int]
  resolved := Array.replicate 188 none
  statics := none }

def pool3 : Array CpInfo := pool [(1, u "java/lang/Cloneable"), (0, .class_ 1), (0, u "java/lang/Object"), (0, .class_ 3)] 3

/-- java/lang/Cloneable -/
def k3 : Class := { plain "java/lang/Cloneable" (some 0) with
  accessFlags := 1537
  interfaces := #[]
  cf := some (fileOf pool3 2 #[] #[] 1537 4 #[] #[])
  fields := #[]
  methods := #[]
  instanceTypes := #[]
  staticTypes := #[]
  resolved := Array.replicate 8 none
  statics := none }

def pool4 : Array CpInfo := pool [(1, u "java/io/Serializable"), (0, .class_ 1), (0, u "java/lang/Object"), (0, .class_ 3)] 3

/-- java/io/Serializable -/
def k4 : Class := { plain "java/io/Serializable" (some 0) with
  accessFlags := 1537
  interfaces := #[]
  cf := some (fileOf pool4 2 #[] #[] 1537 4 #[] #[])
  fields := #[]
  methods := #[]
  instanceTypes := #[]
  staticTypes := #[]
  resolved := Array.replicate 8 none
  statics := none }

/-- the primitive boolean -/
def k5 : Class := { plain "boolean" none with kind := .primitive 'Z', accessFlags := 0x411 }
/-- [Z -/
def k6 : Class := { plain "[Z" (some 0) with kind := .array 5 .boolean, interfaces := #[3, 4], accessFlags := 1041 }

/-- the primitive byte -/
def k7 : Class := { plain "byte" none with kind := .primitive 'B', accessFlags := 0x411 }
/-- [B -/
def k8 : Class := { plain "[B" (some 0) with kind := .array 7 .byte, interfaces := #[3, 4], accessFlags := 1041 }

/-- the primitive int -/
def k9 : Class := { plain "int" none with kind := .primitive 'I', accessFlags := 0x411 }
/-- [I -/
def k10 : Class := { plain "[I" (some 0) with kind := .array 9 .int, interfaces := #[3, 4], accessFlags := 1041 }

/-- the primitive long -/
def k11 : Class := { plain "long" none with kind := .primitive 'J', accessFlags := 0x411 }
/-- [J -/
def k12 : Class := { plain "[J" (some 0) with kind := .array 11 .long, interfaces := #[3, 4], accessFlags := 1041 }

def heap : Heap := #[{ cls := 10, slots := #[.int 1, .int 2, .int 3], vm := .none }]
def classes : Array Class := #[k0, k1, k2, k3, k4, k5, k6, k7, k8, k9, k10, k11, k12]
def interned : List (Array UInt16 × Addr) := []
def slotsUsed : Nat := 3
def theMethod : MethodId := ⟨1, 1⟩
def args0 : Array Value := #[.ref 0]
def aboutOver (below : List Frame) : State where
  vm := { classes := classes, interned := interned.toArray }
  heap := heap
  slotsUsed := slotsUsed
  threads := #[{ frames := .invoking theMethod args0 :: below }]
def below0 : List Frame := [.native { method := ⟨0, 0⟩, args := #[] }]
def about1 : State := aboutOver below0
def p0 : Program := .bare "" "" ""
def e0 : Env := launch0.env 0 0 0
theorem w_frames : about1.frames = Frame.invoking theMethod args0 :: below0 := rfl
set_option maxRecDepth 65536 in
theorem w_args : argsFit about1.vm theMethod args0 = true := by decide +kernel
set_option maxRecDepth 65536 in
theorem w_heap : heapFits about1 = true := by decide +kernel
set_option maxRecDepth 65536 in
theorem w_runnable : about1.curStatus? = some .runnable := by decide +kernel
set_option maxRecDepth 65536 in
theorem w_alone : about1.alone = true := by decide +kernel
set_option maxRecDepth 65536 in
theorem w_named : about1.methodNamed? x = some theMethod := by decide +kernel
set_option maxRecDepth 65536 in
theorem w_hears : about1.hears theMethod below0 = true := by decide +kernel
set_option maxRecDepth 65536 in
theorem w_ripe : about1.ripe theMethod args0 below0 = true := by decide +kernel
theorem w_running : about1.status = .running := rfl
set_option maxRecDepth 65536 in
theorem w_room : about1.hasRoom e0.platform room_1 = true :=
  launch0.hasRoom_least _ room_1 (by decide +kernel) (by decide +kernel) (by decide +kernel) (by decide +kernel) (by decide +kernel) (by decide +kernel)
theorem allAtoms_all (ts : List Jvm.Cond) (a : Array Jvm.Value) (st : Jvm.State) : (allAtoms ts).before a st = ts.all (fun c => c.before a st) := by
  induction ts with
  | nil => rfl
  | cons c t ih =>
    show (Jvm.Cond.and c (allAtoms t)).before a st = _
    rw [Jvm.Cond.before_and, ih, List.all_cons]
def words1 : List Jvm.Cond := Jvm.Cond.code x code maxLocals ret :: tables_1
/-- a 'code' word, met by the world's own term for the bytes: nothing is compared byte by byte -/
theorem code_word {y : MethodName} {bytes : ByteArray} {mx : Nat} {rt : Option FieldType} {a : Array Value} {s : State} {m : MethodId} {meth : Method} {c : Code} (h1 : s.methodNamed? y = some m) (h2 : s.vm.method? m = some meth) (h3 : meth.code = some c) (h4 : c.code = bytes)
    (h5 : (c.maxLocals == mx && c.exceptionTable.isEmpty && decide (c.maxStack ≤ mostOperands) && decide (meth.sig.returnType = rt) && !meth.locks && decide (parseMethodDescriptor y.desc = some meth.sig)) = true) : (Jvm.Cond.code y bytes mx rt).before a s = true := by
  simp only [Bool.and_eq_true, beq_iff_eq, Bool.not_eq_true', decide_eq_true_eq] at h5
  obtain ⟨⟨⟨⟨⟨g1, g2⟩, g3⟩, g4⟩, g5⟩, g6⟩ := h5
  simp [Cond.before, Cond.holds, Cond.value, h1, h2, h3, h4, g1, g2, g3, g4, g5, g6]
def isCode : Jvm.Cond → Bool
  | .code _ _ _ _ => true
  | _ => false
theorem all_split {L : List Jvm.Cond} {P : Jvm.Cond → Bool} (h1 : L.all (fun c => isCode c || P c) = true) (h2 : ∀ c ∈ L.filter isCode, P c = true) : L.all P = true := by
  refine List.all_eq_true.mpr fun c hc => ?_
  have h := List.all_eq_true.mp h1 c hc
  rcases Bool.eq_false_or_eq_true (isCode c) with hi | hi
  · exact h2 c (List.mem_filter.mpr ⟨hc, hi⟩)
  · simpa [hi] using h
set_option maxRecDepth 65536 in
theorem w_c0 : (Jvm.Cond.code x code maxLocals ret).before args0 about1 = true := code_word (m := ⟨1, 1⟩) (meth := k1m1) (c := k1c1) (by decide +kernel) rfl rfl rfl (by decide +kernel)
set_option maxRecDepth 65536 in
theorem w_c1 : (Jvm.Cond.code ({ cls := "ProRataBook", name := "<init>", desc := "(II)V" } : Jvm.MethodName) prog_1_method_1_code (5 : Nat) (Option.none : Option Jvm.ClassFile.FieldType)).before args0 about1 = true := code_word (m := ⟨2, 0⟩) (meth := k2m0) (c := k2c0) (by decide +kernel) rfl rfl rfl (by decide +kernel)
set_option maxRecDepth 65536 in
theorem w_c2 : (Jvm.Cond.code ({ cls := "java/lang/Object", name := "<init>", desc := "()V" } : Jvm.MethodName) object_method_1_code (1 : Nat) (Option.none : Option Jvm.ClassFile.FieldType)).before args0 about1 = true := code_word (m := ⟨0, 0⟩) (meth := k0m0) (c := k0c0) (by decide +kernel) rfl rfl rfl (by decide +kernel)
set_option maxRecDepth 65536 in
theorem w_c3 : (Jvm.Cond.code ({ cls := "ProRataBook", name := "submit", desc := "(IIII)I" } : Jvm.MethodName) prog_1_method_2_code (7 : Nat) (Option.some Jvm.ClassFile.FieldType.int)).before args0 about1 = true := code_word (m := ⟨2, 1⟩) (meth := k2m1) (c := k2c1) (by decide +kernel) rfl rfl rfl (by decide +kernel)
set_option maxRecDepth 65536 in
theorem w_c4 : (Jvm.Cond.code ({ cls := "ProRataBookL4", name := "ok", desc := "(LProRataBook;)Z" } : Jvm.MethodName) method_3_code (11 : Nat) (Option.some Jvm.ClassFile.FieldType.boolean)).before args0 about1 = true := code_word (m := ⟨1, 2⟩) (meth := k1m2) (c := k1c2) (by decide +kernel) rfl rfl rfl (by decide +kernel)
set_option maxRecDepth 65536 in
theorem w_c5 : (Jvm.Cond.code ({ cls := "ProRataBook", name := "bestPrice", desc := "(I)I" } : Jvm.MethodName) prog_1_method_26_code (2 : Nat) (Option.some Jvm.ClassFile.FieldType.int)).before args0 about1 = true := code_word (m := ⟨2, 25⟩) (meth := k2m25) (c := k2c25) (by decide +kernel) rfl rfl rfl (by decide +kernel)
set_option maxRecDepth 65536 in
theorem w_c6 : (Jvm.Cond.code ({ cls := "ProRataBook", name := "bestOf", desc := "(I)I" } : Jvm.MethodName) prog_1_method_18_code (6 : Nat) (Option.some Jvm.ClassFile.FieldType.int)).before args0 about1 = true := code_word (m := ⟨2, 17⟩) (meth := k2m17) (c := k2c17) (by decide +kernel) rfl rfl rfl (by decide +kernel)
set_option maxRecDepth 65536 in
theorem w_c7 : (Jvm.Cond.code ({ cls := "ProRataBook", name := "status", desc := "(I)I" } : Jvm.MethodName) prog_1_method_21_code (2 : Nat) (Option.some Jvm.ClassFile.FieldType.int)).before args0 about1 = true := code_word (m := ⟨2, 20⟩) (meth := k2m20) (c := k2c20) (by decide +kernel) rfl rfl rfl (by decide +kernel)
set_option maxRecDepth 65536 in
theorem w_c8 : (Jvm.Cond.code ({ cls := "ProRataBook", name := "remaining", desc := "(I)I" } : Jvm.MethodName) prog_1_method_22_code (2 : Nat) (Option.some Jvm.ClassFile.FieldType.int)).before args0 about1 = true := code_word (m := ⟨2, 21⟩) (meth := k2m21) (c := k2c21) (by decide +kernel) rfl rfl rfl (by decide +kernel)
set_option maxRecDepth 65536 in
theorem w_c9 : (Jvm.Cond.code ({ cls := "ProRataBook", name := "isResting", desc := "(I)Z" } : Jvm.MethodName) prog_1_method_17_code (2 : Nat) (Option.some Jvm.ClassFile.FieldType.boolean)).before args0 about1 = true := code_word (m := ⟨2, 16⟩) (meth := k2m16) (c := k2c16) (by decide +kernel) rfl rfl rfl (by decide +kernel)
set_option maxRecDepth 65536 in
theorem w_c10 : (Jvm.Cond.code ({ cls := "ProRataBook", name := "priorityRank", desc := "(I)I" } : Jvm.MethodName) prog_1_method_25_code (5 : Nat) (Option.some Jvm.ClassFile.FieldType.int)).before args0 about1 = true := code_word (m := ⟨2, 24⟩) (meth := k2m24) (c := k2c24) (by decide +kernel) rfl rfl rfl (by decide +kernel)
set_option maxRecDepth 65536 in
theorem w_c11 : (Jvm.Cond.code ({ cls := "ProRataBook", name := "isTop", desc := "(I)Z" } : Jvm.MethodName) prog_1_method_24_code (2 : Nat) (Option.some Jvm.ClassFile.FieldType.boolean)).before args0 about1 = true := code_word (m := ⟨2, 23⟩) (meth := k2m23) (c := k2c23) (by decide +kernel) rfl rfl rfl (by decide +kernel)
set_option maxRecDepth 65536 in
theorem w_c12 : (Jvm.Cond.code ({ cls := "ProRataBook", name := "filled", desc := "(I)I" } : Jvm.MethodName) prog_1_method_23_code (2 : Nat) (Option.some Jvm.ClassFile.FieldType.int)).before args0 about1 = true := code_word (m := ⟨2, 22⟩) (meth := k2m22) (c := k2c22) (by decide +kernel) rfl rfl rfl (by decide +kernel)
set_option maxRecDepth 65536 in
theorem w_c13 : (Jvm.Cond.code ({ cls := "ProRataBook", name := "restingCount", desc := "()I" } : Jvm.MethodName) prog_1_method_29_code (1 : Nat) (Option.some Jvm.ClassFile.FieldType.int)).before args0 about1 = true := code_word (m := ⟨2, 26⟩) (meth := k2m26) (c := k2c26) (by decide +kernel) rfl rfl rfl (by decide +kernel)
set_option maxRecDepth 65536 in
theorem w_c14 : (Jvm.Cond.code ({ cls := "ProRataBook", name := "amend", desc := "(II)I" } : Jvm.MethodName) prog_1_method_20_code (3 : Nat) (Option.some Jvm.ClassFile.FieldType.int)).before args0 about1 = true := code_word (m := ⟨2, 19⟩) (meth := k2m19) (c := k2c19) (by decide +kernel) rfl rfl rfl (by decide +kernel)
set_option maxRecDepth 65536 in
theorem w_c15 : (Jvm.Cond.code ({ cls := "ProRataBook", name := "cancel", desc := "(I)I" } : Jvm.MethodName) prog_1_method_19_code (2 : Nat) (Option.some Jvm.ClassFile.FieldType.int)).before args0 about1 = true := code_word (m := ⟨2, 18⟩) (meth := k2m18) (c := k2c18) (by decide +kernel) rfl rfl rfl (by decide +kernel)
set_option maxRecDepth 65536 in
theorem w_c16 : (Jvm.Cond.code ({ cls := "ProRataBook", name := "matchIncoming", desc := "(IIII)I" } : Jvm.MethodName) prog_1_method_3_code (10 : Nat) (Option.some Jvm.ClassFile.FieldType.int)).before args0 about1 = true := code_word (m := ⟨2, 2⟩) (meth := k2m2) (c := k2c2) (by decide +kernel) rfl rfl rfl (by decide +kernel)
set_option maxRecDepth 65536 in
theorem w_c17 : (Jvm.Cond.code ({ cls := "ProRataBook", name := "finishIncoming", desc := "(IIIII)V" } : Jvm.MethodName) prog_1_method_4_code (8 : Nat) (Option.none : Option Jvm.ClassFile.FieldType)).before args0 about1 = true := code_word (m := ⟨2, 3⟩) (meth := k2m3) (c := k2c3) (by decide +kernel) rfl rfl rfl (by decide +kernel)
set_option maxRecDepth 65536 in
theorem w_c18 : (Jvm.Cond.code ({ cls := "ProRataBook", name := "clearFlags", desc := "(I)V" } : Jvm.MethodName) prog_1_method_5_code (4 : Nat) (Option.none : Option Jvm.ClassFile.FieldType)).before args0 about1 = true := code_word (m := ⟨2, 4⟩) (meth := k2m4) (c := k2c4) (by decide +kernel) rfl rfl rfl (by decide +kernel)
set_option maxRecDepth 65536 in
theorem w_c19 : (Jvm.Cond.code ({ cls := "ProRataBook", name := "removeResting", desc := "(I)V" } : Jvm.MethodName) prog_1_method_16_code (3 : Nat) (Option.none : Option Jvm.ClassFile.FieldType)).before args0 about1 = true := code_word (m := ⟨2, 15⟩) (meth := k2m15) (c := k2c15) (by decide +kernel) rfl rfl rfl (by decide +kernel)
set_option maxRecDepth 65536 in
theorem w_c20 : (Jvm.Cond.code ({ cls := "ProRataBook", name := "crosses", desc := "(III)Z" } : Jvm.MethodName) prog_1_method_6_code (4 : Nat) (Option.some Jvm.ClassFile.FieldType.boolean)).before args0 about1 = true := code_word (m := ⟨2, 5⟩) (meth := k2m5) (c := k2c5) (by decide +kernel) rfl rfl rfl (by decide +kernel)
set_option maxRecDepth 65536 in
theorem w_c21 : (Jvm.Cond.code ({ cls := "ProRataBook", name := "better", desc := "(III)Z" } : Jvm.MethodName) prog_1_method_7_code (4 : Nat) (Option.some Jvm.ClassFile.FieldType.boolean)).before args0 about1 = true := code_word (m := ⟨2, 6⟩) (meth := k2m6) (c := k2c6) (by decide +kernel) rfl rfl rfl (by decide +kernel)
set_option maxRecDepth 65536 in
theorem w_c22 : (Jvm.Cond.code ({ cls := "ProRataBook", name := "matchLevel", desc := "(III)I" } : Jvm.MethodName) prog_1_method_8_code (6 : Nat) (Option.some Jvm.ClassFile.FieldType.int)).before args0 about1 = true := code_word (m := ⟨2, 7⟩) (meth := k2m7) (c := k2c7) (by decide +kernel) rfl rfl rfl (by decide +kernel)
set_option maxRecDepth 65536 in
theorem w_c23 : (Jvm.Cond.code ({ cls := "ProRataBook", name := "gatherLevel", desc := "(II)V" } : Jvm.MethodName) prog_1_method_9_code (5 : Nat) (Option.none : Option Jvm.ClassFile.FieldType)).before args0 about1 = true := code_word (m := ⟨2, 8⟩) (meth := k2m8) (c := k2c8) (by decide +kernel) rfl rfl rfl (by decide +kernel)
set_option maxRecDepth 65536 in
theorem w_c24 : (Jvm.Cond.code ({ cls := "ProRataBook", name := "sortLevel", desc := "()V" } : Jvm.MethodName) prog_1_method_10_code (6 : Nat) (Option.none : Option Jvm.ClassFile.FieldType)).before args0 about1 = true := code_word (m := ⟨2, 9⟩) (meth := k2m9) (c := k2c9) (by decide +kernel) rfl rfl rfl (by decide +kernel)
set_option maxRecDepth 65536 in
theorem w_c25 : (Jvm.Cond.code ({ cls := "ProRataBook", name := "allocate", desc := "(I)I" } : Jvm.MethodName) prog_1_method_11_code (7 : Nat) (Option.some Jvm.ClassFile.FieldType.int)).before args0 about1 = true := code_word (m := ⟨2, 10⟩) (meth := k2m10) (c := k2c10) (by decide +kernel) rfl rfl rfl (by decide +kernel)
set_option maxRecDepth 65536 in
theorem w_c26 : (Jvm.Cond.code ({ cls := "ProRataBook", name := "topStep", desc := "(I)I" } : Jvm.MethodName) prog_1_method_12_code (5 : Nat) (Option.some Jvm.ClassFile.FieldType.int)).before args0 about1 = true := code_word (m := ⟨2, 11⟩) (meth := k2m11) (c := k2c11) (by decide +kernel) rfl rfl rfl (by decide +kernel)
set_option maxRecDepth 65536 in
theorem w_c27 : (Jvm.Cond.code ({ cls := "ProRataBook", name := "timeStep", desc := "(I)V" } : Jvm.MethodName) prog_1_method_14_code (6 : Nat) (Option.none : Option Jvm.ClassFile.FieldType)).before args0 about1 = true := code_word (m := ⟨2, 13⟩) (meth := k2m13) (c := k2c13) (by decide +kernel) rfl rfl rfl (by decide +kernel)
set_option maxRecDepth 65536 in
theorem w_c28 : (Jvm.Cond.code ({ cls := "ProRataBook", name := "applyLevel", desc := "(I)V" } : Jvm.MethodName) prog_1_method_15_code (5 : Nat) (Option.none : Option Jvm.ClassFile.FieldType)).before args0 about1 = true := code_word (m := ⟨2, 14⟩) (meth := k2m14) (c := k2c14) (by decide +kernel) rfl rfl rfl (by decide +kernel)
set_option maxRecDepth 65536 in
theorem w_c29 : (Jvm.Cond.code ({ cls := "ProRataBook", name := "proRataStep", desc := "(I)I" } : Jvm.MethodName) prog_1_method_13_code (9 : Nat) (Option.some Jvm.ClassFile.FieldType.int)).before args0 about1 = true := code_word (m := ⟨2, 12⟩) (meth := k2m12) (c := k2c12) (by decide +kernel) rfl rfl rfl (by decide +kernel)
def codes1 : List Jvm.Cond := [Jvm.Cond.code x code maxLocals ret, Jvm.Cond.code ({ cls := "ProRataBook", name := "<init>", desc := "(II)V" } : Jvm.MethodName) prog_1_method_1_code (5 : Nat) (Option.none : Option Jvm.ClassFile.FieldType), Jvm.Cond.code ({ cls := "java/lang/Object", name := "<init>", desc := "()V" } : Jvm.MethodName) object_method_1_code (1 : Nat) (Option.none : Option Jvm.ClassFile.FieldType), Jvm.Cond.code ({ cls := "ProRataBook", name := "submit", desc := "(IIII)I" } : Jvm.MethodName) prog_1_method_2_code (7 : Nat) (Option.some Jvm.ClassFile.FieldType.int), Jvm.Cond.code ({ cls := "ProRataBookL4", name := "ok", desc := "(LProRataBook;)Z" } : Jvm.MethodName) method_3_code (11 : Nat) (Option.some Jvm.ClassFile.FieldType.boolean), Jvm.Cond.code ({ cls := "ProRataBook", name := "bestPrice", desc := "(I)I" } : Jvm.MethodName) prog_1_method_26_code (2 : Nat) (Option.some Jvm.ClassFile.FieldType.int), Jvm.Cond.code ({ cls := "ProRataBook", name := "bestOf", desc := "(I)I" } : Jvm.MethodName) prog_1_method_18_code (6 : Nat) (Option.some Jvm.ClassFile.FieldType.int), Jvm.Cond.code ({ cls := "ProRataBook", name := "status", desc := "(I)I" } : Jvm.MethodName) prog_1_method_21_code (2 : Nat) (Option.some Jvm.ClassFile.FieldType.int), Jvm.Cond.code ({ cls := "ProRataBook", name := "remaining", desc := "(I)I" } : Jvm.MethodName) prog_1_method_22_code (2 : Nat) (Option.some Jvm.ClassFile.FieldType.int), Jvm.Cond.code ({ cls := "ProRataBook", name := "isResting", desc := "(I)Z" } : Jvm.MethodName) prog_1_method_17_code (2 : Nat) (Option.some Jvm.ClassFile.FieldType.boolean), Jvm.Cond.code ({ cls := "ProRataBook", name := "priorityRank", desc := "(I)I" } : Jvm.MethodName) prog_1_method_25_code (5 : Nat) (Option.some Jvm.ClassFile.FieldType.int), Jvm.Cond.code ({ cls := "ProRataBook", name := "isTop", desc := "(I)Z" } : Jvm.MethodName) prog_1_method_24_code (2 : Nat) (Option.some Jvm.ClassFile.FieldType.boolean), Jvm.Cond.code ({ cls := "ProRataBook", name := "filled", desc := "(I)I" } : Jvm.MethodName) prog_1_method_23_code (2 : Nat) (Option.some Jvm.ClassFile.FieldType.int), Jvm.Cond.code ({ cls := "ProRataBook", name := "restingCount", desc := "()I" } : Jvm.MethodName) prog_1_method_29_code (1 : Nat) (Option.some Jvm.ClassFile.FieldType.int), Jvm.Cond.code ({ cls := "ProRataBook", name := "amend", desc := "(II)I" } : Jvm.MethodName) prog_1_method_20_code (3 : Nat) (Option.some Jvm.ClassFile.FieldType.int), Jvm.Cond.code ({ cls := "ProRataBook", name := "cancel", desc := "(I)I" } : Jvm.MethodName) prog_1_method_19_code (2 : Nat) (Option.some Jvm.ClassFile.FieldType.int), Jvm.Cond.code ({ cls := "ProRataBook", name := "matchIncoming", desc := "(IIII)I" } : Jvm.MethodName) prog_1_method_3_code (10 : Nat) (Option.some Jvm.ClassFile.FieldType.int), Jvm.Cond.code ({ cls := "ProRataBook", name := "finishIncoming", desc := "(IIIII)V" } : Jvm.MethodName) prog_1_method_4_code (8 : Nat) (Option.none : Option Jvm.ClassFile.FieldType), Jvm.Cond.code ({ cls := "ProRataBook", name := "clearFlags", desc := "(I)V" } : Jvm.MethodName) prog_1_method_5_code (4 : Nat) (Option.none : Option Jvm.ClassFile.FieldType), Jvm.Cond.code ({ cls := "ProRataBook", name := "removeResting", desc := "(I)V" } : Jvm.MethodName) prog_1_method_16_code (3 : Nat) (Option.none : Option Jvm.ClassFile.FieldType), Jvm.Cond.code ({ cls := "ProRataBook", name := "crosses", desc := "(III)Z" } : Jvm.MethodName) prog_1_method_6_code (4 : Nat) (Option.some Jvm.ClassFile.FieldType.boolean), Jvm.Cond.code ({ cls := "ProRataBook", name := "better", desc := "(III)Z" } : Jvm.MethodName) prog_1_method_7_code (4 : Nat) (Option.some Jvm.ClassFile.FieldType.boolean), Jvm.Cond.code ({ cls := "ProRataBook", name := "matchLevel", desc := "(III)I" } : Jvm.MethodName) prog_1_method_8_code (6 : Nat) (Option.some Jvm.ClassFile.FieldType.int), Jvm.Cond.code ({ cls := "ProRataBook", name := "gatherLevel", desc := "(II)V" } : Jvm.MethodName) prog_1_method_9_code (5 : Nat) (Option.none : Option Jvm.ClassFile.FieldType), Jvm.Cond.code ({ cls := "ProRataBook", name := "sortLevel", desc := "()V" } : Jvm.MethodName) prog_1_method_10_code (6 : Nat) (Option.none : Option Jvm.ClassFile.FieldType), Jvm.Cond.code ({ cls := "ProRataBook", name := "allocate", desc := "(I)I" } : Jvm.MethodName) prog_1_method_11_code (7 : Nat) (Option.some Jvm.ClassFile.FieldType.int), Jvm.Cond.code ({ cls := "ProRataBook", name := "topStep", desc := "(I)I" } : Jvm.MethodName) prog_1_method_12_code (5 : Nat) (Option.some Jvm.ClassFile.FieldType.int), Jvm.Cond.code ({ cls := "ProRataBook", name := "timeStep", desc := "(I)V" } : Jvm.MethodName) prog_1_method_14_code (6 : Nat) (Option.none : Option Jvm.ClassFile.FieldType), Jvm.Cond.code ({ cls := "ProRataBook", name := "applyLevel", desc := "(I)V" } : Jvm.MethodName) prog_1_method_15_code (5 : Nat) (Option.none : Option Jvm.ClassFile.FieldType), Jvm.Cond.code ({ cls := "ProRataBook", name := "proRataStep", desc := "(I)I" } : Jvm.MethodName) prog_1_method_13_code (9 : Nat) (Option.some Jvm.ClassFile.FieldType.int)]
set_option maxRecDepth 65536 in
theorem codes_eq : words1.filter isCode = codes1 := rfl
theorem w_codes : ∀ c ∈ words1.filter isCode, c.before args0 about1 = true := by
  rw [codes_eq]
  intro c hc
  simp only [codes1, List.mem_cons, List.not_mem_nil, or_false] at hc
  rcases hc with rfl | rfl | rfl | rfl | rfl | rfl | rfl | rfl | rfl | rfl | rfl | rfl | rfl | rfl | rfl | rfl | rfl | rfl | rfl | rfl | rfl | rfl | rfl | rfl | rfl | rfl | rfl | rfl | rfl | rfl
  · exact w_c0
  · exact w_c1
  · exact w_c2
  · exact w_c3
  · exact w_c4
  · exact w_c5
  · exact w_c6
  · exact w_c7
  · exact w_c8
  · exact w_c9
  · exact w_c10
  · exact w_c11
  · exact w_c12
  · exact w_c13
  · exact w_c14
  · exact w_c15
  · exact w_c16
  · exact w_c17
  · exact w_c18
  · exact w_c19
  · exact w_c20
  · exact w_c21
  · exact w_c22
  · exact w_c23
  · exact w_c24
  · exact w_c25
  · exact w_c26
  · exact w_c27
  · exact w_c28
  · exact w_c29
set_option maxRecDepth 65536 in
theorem w_t1 : (words1.take 24).all (fun c => isCode c || c.before args0 about1) = true := by decide +kernel
set_option maxRecDepth 65536 in
theorem w_t2 : ((words1.drop 24).take 24).all (fun c => isCode c || c.before args0 about1) = true := by decide +kernel
set_option maxRecDepth 65536 in
theorem w_t3 : (((words1.drop 24).drop 24).take 24).all (fun c => isCode c || c.before args0 about1) = true := by decide +kernel
set_option maxRecDepth 65536 in
theorem w_t4 : ((((words1.drop 24).drop 24).drop 24).take 24).all (fun c => isCode c || c.before args0 about1) = true := by decide +kernel
set_option maxRecDepth 65536 in
theorem w_t5 : (((((words1.drop 24).drop 24).drop 24).drop 24).take 24).all (fun c => isCode c || c.before args0 about1) = true := by decide +kernel
set_option maxRecDepth 65536 in
theorem w_t6 : ((((((words1.drop 24).drop 24).drop 24).drop 24).drop 24).take 24).all (fun c => isCode c || c.before args0 about1) = true := by decide +kernel
set_option maxRecDepth 65536 in
theorem w_t7 : (((((((words1.drop 24).drop 24).drop 24).drop 24).drop 24).drop 24).take 24).all (fun c => isCode c || c.before args0 about1) = true := by decide +kernel
set_option maxRecDepth 65536 in
theorem w_t8 : (((((((words1.drop 24).drop 24).drop 24).drop 24).drop 24).drop 24).drop 24).all (fun c => isCode c || c.before args0 about1) = true := by decide +kernel
theorem w_tables : (allAtoms (Jvm.Cond.code x code maxLocals ret :: tables_1)).before args0 about1 = true := by
  rw [allAtoms_all]
  show words1.all (fun c => c.before args0 about1) = true
  refine all_split ?_ w_codes
  rw [← List.take_append_drop 24 words1, List.all_append, w_t1, ← List.take_append_drop 24 (words1.drop 24), List.all_append, w_t2, ← List.take_append_drop 24 ((words1.drop 24).drop 24), List.all_append, w_t3, ← List.take_append_drop 24 (((words1.drop 24).drop 24).drop 24), List.all_append, w_t4, ← List.take_append_drop 24 ((((words1.drop 24).drop 24).drop 24).drop 24), List.all_append, w_t5, ← List.take_append_drop 24 (((((words1.drop 24).drop 24).drop 24).drop 24).drop 24), List.all_append, w_t6, ← List.take_append_drop 24 ((((((words1.drop 24).drop 24).drop 24).drop 24).drop 24).drop 24), List.all_append, w_t7, w_t8]
  rfl
set_option maxRecDepth 65536 in
theorem w_rest : rest_1_c.before args0 about1 = true := by decide +kernel
set_option maxRecDepth 65536 in
theorem w_case : (Jvm.Cond.and given_1 narrow_1).before args0 about1 = true := by decide +kernel
theorem w_applies : (headSpec (Jvm.Cond.code x code maxLocals ret :: tables_1) room_1).applies x e0.platform about1 = true :=
  (Spec.applies_iff w_frames).mpr ⟨w_running, w_runnable, w_alone, w_named, w_hears, w_ripe, w_room, w_tables⟩
theorem atStart : AtStart classFile x code maxLocals ret World_1 tables_1 room_1 Calls_1 rest_1 Pre_1 launch0 p0 e0 about1 theMethod args0 below0 :=
  ⟨lists_1, trivial, launch0.admits_env _ _ _, launch0.least_env, fairChoices_fair.cas, fairChoices_fair.clock, w_frames, w_args, w_heap, w_applies, trivial, w_rest, w_case⟩
end start1
theorem witness_1 : WitnessClaimed_1 := ⟨start1.p0, start1.e0, start1.about1, start1.theMethod, start1.args0, start1.below0, start1.atStart⟩
end Jvm.Pilot.@@N@@
